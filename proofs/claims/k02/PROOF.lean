import PyProof.Rows.All
import Wide.All
import OpenK.AllK
import Wide.FinOn
import PySem.Challenge.RW_halfyard_k02_whole_parts
import KE.DataCmp
import KE.DataEq
import KE.KeyNested
import PySem.Syntax
import HandS.ForMost
import HandS.Conv
import HandS.Style
import KE.KDictKeyed
import KE.KDictCopyH
import HandS.TupAny
import HandS.TupMul
import KE.DataMinMax
import KE.SortData
import KE.KDictSum
import KE.KTupSum
import HandS.List
import KE.KDictList
import KE.SortCalls
import PyProof.TupleOfSeq
import HandS.ExcValue
import KE.SortLaws
import HandS.IsInst
import HandS.Dict
import HandS.Codes
import HandS.Deep
import KE.DataFind
import HandS.Iter
import HandS.Zip
import HandS.Comp
import HandS.Small
import KE.KDictPairs
import KE.GoesOver
import HandS.HeadHook2
import HandS.Head0
import HandS.Head1
import HandS.Head2
import HandS.HeadEnd
import HandS.Ends
section
set_option linter.all false
set_option autoImplicit false
/-! The small language: values, expressions, statements, and what they come to. Nothing of the model here but texts. -/
namespace Py
open PySem (Str CmpOp)

inductive PV where
  | non
  | bl (b : Bool)
  | int (i : Int)
  | str (s : Str)
  | tup (xs : List PV)
  | lst (xs : List PV)
  | dct (kvs : List (PV × PV))
  | cup
  | fn (k : Nat)
  | scr (xs : List PV)
  deriving Inhabited

namespace PV
mutual
/-- the value as plain data; what is no plain data goes to nothing in particular -/
def toD : PV → PySem.PyData
  | .non => .none
  | .bl b => .bool b
  | .int i => .int i
  | .str s => .str s
  | .tup xs => .tuple (toDs xs)
  | .lst xs => .list (toDs xs)
  | .dct _ => .none
  | .cup => .none
  | .fn _ => .none
  | .scr _ => .none
def toDs : List PV → List PySem.PyData
  | [] => []
  | x :: xs => toD x :: toDs xs
end
mutual
/-- numbers, truth values, None, texts, tuples and lists of such -/
def plain : PV → Bool
  | .non => true
  | .bl _ => true
  | .int _ => true
  | .str _ => true
  | .tup xs => plains xs
  | .lst xs => plains xs
  | .dct _ => false
  | .cup => false
  | .fn _ => false
  | .scr _ => false
def plains : List PV → Bool
  | [] => true
  | x :: xs => plain x && plains xs
end
mutual
def depth : PV → Nat
  | .tup xs => depths xs + 1
  | .lst xs => depths xs + 1
  | .non => 0
  | .bl _ => 0
  | .int _ => 0
  | .str _ => 0
  | .dct _ => 0
  | .cup => 0
  | .fn _ => 0
  | .scr _ => 0
def depths : List PV → Nat
  | [] => 0
  | x :: xs => max (depth x) (depths xs)
end
mutual
/-- == of plain values -/
def eqv : PV → PV → Bool
  | .non, .non => true
  | .bl a, .bl b => a == b
  | .bl a, .int j => (if a then 1 else 0) == j
  | .int i, .bl b => i == (if b then 1 else 0)
  | .int i, .int j => decide (i = j)
  | .str x, .str y => decide (x = y)
  | .lst xs, .lst ys => eqvs xs ys
  | .tup xs, .tup ys => eqvs xs ys
  | _, _ => false
def eqvs : List PV → List PV → Bool
  | [], [] => true
  | x :: xs, y :: ys => eqv x y && eqvs xs ys
  | _, _ => false
end
mutual
/-- the two can be compared place by place -/
def alike : PV → PV → Bool
  | .non, .non => true
  | .bl _, .bl _ => true
  | .int _, .int _ => true
  | .str _, .str _ => true
  | .lst xs, .lst ys => alikes xs ys
  | .tup xs, .tup ys => alikes xs ys
  | _, _ => false
def alikes : List PV → List PV → Bool
  | x :: xs, y :: ys => alike x y && alikes xs ys
  | _, _ => true
end
mutual
/-- < of alike values -/
def lt : PV → PV → Bool
  | .bl a, .bl b => !a && b
  | .int a, .int b => decide (a < b)
  | .str x, .str y => decide (x.cps.toList < y.cps.toList)
  | .lst xs, .lst ys => lts xs ys
  | .tup xs, .tup ys => lts xs ys
  | _, _ => false
def lts : List PV → List PV → Bool
  | x :: xs, y :: ys => if eqv x y then lts xs ys else lt x y
  | [], _ :: _ => true
  | _, [] => false
end
/-- the sort's order: not greater -/
def le (a b : PV) : Bool := !lt b a
mutual
/-- keys of dicts: numbers, texts, None, tuples of such -/
def keyOk : PV → Bool
  | .non => true
  | .int _ => true
  | .str _ => true
  | .tup xs => keyOks xs
  | .bl _ => false
  | .lst _ => false
  | .dct _ => false
  | .cup => false
  | .fn _ => false
  | .scr _ => false
def keyOks : List PV → Bool
  | [] => true
  | x :: xs => keyOk x && keyOks xs
end
/-- the kinds of keys of one dict: tuples, numbers, texts -/
def kkind : PV → Nat
  | .tup _ => 0
  | .int _ => 1
  | .str _ => 2
  | _ => 3
end PV

/-- an error that is raised: its class, its arguments -/
structure Exn where
  cls : Str
  args : List PV
  deriving Inhabited

/-- an answer, an error, or nothing told -/
inductive Res (α : Type) where
  | ok (a : α)
  | exn (e : Exn)
  | no
  deriving Inhabited
namespace Res
variable {α β : Type}
def bind (x : Res α) (f : α → Res β) : Res β :=
  match x with
  | .ok a => f a
  | .exn e => .exn e
  | .no => .no
instance : Monad Res where
  pure := .ok
  bind := Res.bind
@[simp] theorem ok_bind (a : α) (f : α → Res β) : (Res.ok a >>= f) = f a := rfl
@[simp] theorem no_bind (f : α → Res β) : ((Res.no : Res α) >>= f) = .no := rfl
@[simp] theorem exn_bind (e : Exn) (f : α → Res β) : ((Res.exn e : Res α) >>= f) = .exn e := rfl
@[simp] theorem pure_eq (a : α) : (pure a : Res α) = .ok a := rfl
theorem bind_ok {x : Res α} {f : α → Res β} {b : β} (h : (x >>= f) = .ok b) : ∃ a, x = .ok a ∧ f a = .ok b := by
  cases x with
  | ok a => exact ⟨a, rfl, h⟩
  | exn e => exact nomatch h
  | no => exact nomatch h
def of (b : Bool) (x : Res α) : Res α := if b then x else .no
@[simp] theorem of_true (x : Res α) : of true x = x := rfl
@[simp] theorem of_false (x : Res α) : of false x = .no := rfl
theorem of_ok {b : Bool} {x : Res α} {a : α} (h : of b x = .ok a) : b = true ∧ x = .ok a := by
  cases b with
  | true => exact ⟨rfl, h⟩
  | false => exact nomatch h
def ofOpt (x : Option α) : Res α := match x with | some a => .ok a | none => .no
@[simp] theorem ofOpt_some (a : α) : ofOpt (some a) = .ok a := rfl
@[simp] theorem ofOpt_none : (ofOpt none : Res α) = .no := rfl
theorem ofOpt_ok {x : Option α} {a : α} (h : ofOpt x = .ok a) : x = some a := by
  cases x with
  | some b => exact congrArg some (by cases h; rfl)
  | none => exact nomatch h
end Res

/-- the most items of a list, tuple, dict -/
def LIM : Nat := 16777216
def fits (n : Nat) : Bool := decide (n ≤ LIM)
def fitsL (n : Nat) : Bool := decide (n < LIM)
theorem fits_of {n : Nat} (h : n ≤ LIM) : fits n = true := decide_eq_true h
theorem fits_k {n : Nat} (h : n ≤ 1000000) : fits n = true := decide_eq_true (Nat.le_trans h (by unfold LIM; omega))
theorem fitsL_k {n : Nat} (h : n ≤ 1000000) : fitsL n = true := decide_eq_true (Nat.lt_of_le_of_lt h (by unfold LIM; omega))

inductive Ty where
  | int | bool | tuple | list | str
  deriving DecidableEq, Repr, Inhabited
inductive Bif where
  | len | abs | int | tuple | list | sorted | dict | sum | min | max | any | all | sortedset | lenset
  deriving DecidableEq, Repr, Inhabited
inductive Op where
  | add | cat | sub | mul | fdiv | mod | pow | neg
  | cmp (o : CmpOp)
  | idx | slc (lo hi : Bool) | rev
  | tup | lst | dct
  | bif (b : Bif)
  | isi (t : Ty)
  | get1 | get2 | index | count
  deriving Repr, Inhabited
/-- what a loop or a comprehension alone can walk -/
inductive Itk where
  | range1 | range2 | zip | enum | items
  deriving DecidableEq, Repr, Inhabited
inductive Pat where
  | nm (i : Nat)
  | tup (ps : List Pat)
  deriving Inhabited
inductive E where
  | lit (v : PV)
  | con (x : Str) (v : PV)
  | var (i : Nat)
  | bor (i : Nat)
  | op (o : Op) (es : List E)
  | meth (o : Op) (a : E) (es : List E)
  | itr (k : Itk) (es : List E)
  | and (a b : E)
  | or (a b : E)
  | not (a : E)
  | ite (c a b : E)
  | chain (o1 o2 : CmpOp) (a b c : E)
  | call (k : Nat) (es : List E)
  | pop (i : Nat)
  | lc (own : List Nat) (p : Pat) (it c elt : E)
  | lc2 (own : List Nat) (p : Pat) (it c : E) (vs1 : List Nat) (p1 : Pat) (it1 c1 elt : E)
  | dc (own : List Nat) (p : Pat) (it c k v : E)
  | dc2 (own : List Nat) (p : Pat) (it c : E) (vs1 : List Nat) (p1 : Pat) (it1 c1 k v : E)
  | newcup (a b : E)
  deriving Inhabited
inductive S where
  | asg (p : Pat) (e : E)
  | asgo (i : Nat) (e : E)
  | asgs (is : List (Nat × Bool)) (es : List E)
  | aug (i : Nat) (o : Op) (e : E)
  | setx (i : Nat) (k e : E)
  | app (i : Nat) (e : E)
  | upd (i : Nat) (e : E)
  | expr (e : E)
  | ret (e : E)
  | ite (c : E) (t f : List S)
  | while (c : E) (b : List S)
  | for (p : Pat) (it : E) (b : List S)
  | pass
  | brk
  | cont
  | raise (cls : Str) (es : List E)
  deriving Inhabited

inductive Slot where
  | unk
  | val (v : PV)
  | own (v : PV)
  deriving Inhabited
structure St where
  env : List Slot
  cup : Option (Int × Int)
  deriving Inhabited
inductive Flow where
  | nx
  | rt (v : PV)
  | bk
  | ct
  deriving Inhabited

/-! ### dicts as lists of pairs -/
def dget (kvs : List (PV × PV)) (k : PV) : Option PV := (kvs.find? fun p => PV.eqv p.1 k).map (·.2)
def dhas (kvs : List (PV × PV)) (k : PV) : Bool := kvs.any fun p => PV.eqv p.1 k
def dset (kvs : List (PV × PV)) (k v : PV) : List (PV × PV) :=
  if dhas kvs k then kvs.map (fun p => if PV.eqv p.1 k then (p.1, v) else p) else kvs ++ [(k, v)]
def dmerge (kvs ps : List (PV × PV)) : List (PV × PV) := ps.foldl (fun a p => dset a p.1 p.2) kvs
/-- the key can be asked of the dict: keys of one kind (tuples, or none) -/
def kOk (kvs : List (PV × PV)) (k : PV) : Bool :=
  PV.keyOk k && decide (PV.depth k ≤ 8) && decide (PV.kkind k ≤ 2) && (match kvs with | [] => true | p :: _ => PV.kkind p.1 == PV.kkind k)

/-- the pairs may be put into the dict: keys of its kind; into an empty dict one pair, or keys that are no tuples -/
def updOk : List (PV × PV) → List (PV × PV) → Bool
  | [], [] => true
  | [], [_] => true
  | [], p :: _ => decide (PV.kkind p.1 ≠ 0)
  | kvs, ps => ps.all fun p => kOk kvs p.1

/-! ### places -/
def ixN (n : Nat) (i : Int) : Option Nat := if 0 ≤ i then (if i < n then some i.toNat else none) else if -(n : Int) ≤ i then some (i + n).toNat else none
def atI {α : Type} (xs : List α) (i : Int) : Option α := (ixN xs.length i).bind fun j => xs[j]?
/-- where a slice begins or ends -/
def cutAt (n d : Nat) : Option Int → Nat
  | none => d
  | some v => if v < 0 then (v + n).toNat else min v.toNat n
def cut {α : Type} (xs : List α) (lo hi : Option Int) : List α :=
  (xs.drop (cutAt xs.length 0 lo)).take (cutAt xs.length xs.length hi - cutAt xs.length 0 lo)
/-! ### operations on values -/
/-- plain data, not too deep -/
def PV.fine (x : PV) : Bool := x.plain && decide (x.depth ≤ 64)
def PV.isNon : PV → Bool
  | .non => true
  | _ => false
def ordOk (x y : PV) : Bool := x.fine && y.fine && x.alike y && !x.isNon
def inV (x y : PV) : Res Bool :=
  match y with
  | .lst ys => .of (ys.all PV.fine && x.fine) (.ok (ys.any fun z => z.eqv x))
  | .tup ys => .of (ys.all PV.fine && x.fine) (.ok (ys.any fun z => z.eqv x))
  | .dct kvs => .of (kOk kvs x) (.ok (dhas kvs x))
  | _ => .no
def isV (x y : PV) : Res Bool :=
  match y with
  | .non => .ok x.isNon
  | .bl b => (match x with | .bl a => .ok (a == b) | _ => .no)
  | _ => .no
def cmpB (o : CmpOp) (x y : PV) : Res Bool :=
  match o with
  | .Eq => .of (x.fine && y.fine) (.ok (x.eqv y))
  | .NotEq => .of (x.fine && y.fine) (.ok (!x.eqv y))
  | .Lt => .of (ordOk x y) (.ok (x.lt y))
  | .Gt => .of (ordOk x y) (.ok (y.lt x))
  | .LtE => .of (ordOk x y) (.ok (!y.lt x))
  | .GtE => .of (ordOk x y) (.ok (!x.lt y))
  | .Is => isV x y
  | .IsNot => (isV x y).bind fun b => .ok (!b)
  | .In => inV x y
  | .NotIn => (inV x y).bind fun b => .ok (!b)
def cmpV (o : CmpOp) (x y : PV) : Res PV := (cmpB o x y).bind fun b => .ok (.bl b)
def small64 (i : Int) : Bool := decide (-(2 ^ 64) < i) && decide (i < 2 ^ 64)
def addV : PV → PV → Res PV
  | .int i, .int j => .ok (.int (i + j))
  | .tup xs, .tup ys => .of (fits (xs.length + ys.length)) (.ok (.tup (xs ++ ys)))
  | .lst xs, .lst ys => .of (fits (xs.length + ys.length)) (.ok (.lst (xs ++ ys)))
  | _, _ => .no
def mulV : PV → PV → Res PV
  | .int i, .int j => .of (small64 i || small64 j) (.ok (.int (i * j)))
  | .lst xs, .int k => .of (decide (k ≤ 1000000) && decide (-1000000 ≤ k) && fits (xs.length * k.toNat)) (.ok (.lst (List.replicate k.toNat xs).flatten))
  | .tup xs, .int k => .of (!xs.isEmpty && decide (2 ≤ k) && decide (k ≤ 1000) && decide (xs.length ≤ 1000)) (.ok (.tup (List.replicate k.toNat xs).flatten))
  | _, _ => .no
def idxV (cup : Option (Int × Int)) : PV → PV → Res PV
  | .lst xs, .int i => .ofOpt (atI xs i)
  | .tup xs, .int i => .ofOpt (atI xs i)
  | .dct kvs, k => .of (kOk kvs k) (.ofOpt (dget kvs k))
  | .cup, .int i => match cup with
    | some (a, b) => if i = 0 then .ok (.int a) else if i = 1 then .ok (.int b) else .no
    | none => .no
  | _, _ => .no
def slcV (x : PV) (l h : Option Int) : Res PV :=
  match x with
  | .lst xs => .ok (.lst (cut xs l h))
  | .tup xs => .ok (.tup (cut xs l h))
  | _ => .no
def revV : PV → Res PV
  | .lst xs => .ok (.lst xs.reverse)
  | .tup xs => .ok (.tup xs.reverse)
  | _ => .no
def seqOf : PV → Option (List PV)
  | .lst xs => some xs
  | .tup xs => some xs
  | .dct kvs => some (kvs.map (·.1))
  | _ => none
def lstOf : PV → Option (List PV)
  | .lst xs => some xs
  | _ => none
def lsOf : PV → Option (List PV)
  | .lst xs => some xs
  | .tup xs => some xs
  | _ => none
/-- what a loop walks: a list's items, a tuple's, a dict's keys -/
def ltOf : PV → Option (List PV)
  | .lst xs => some xs
  | .tup xs => some xs
  | .dct kvs => some (kvs.map (·.1))
  | _ => none
def intOf : PV → Option Int
  | .int i => some i
  | _ => none
def blOf : PV → Option Bool
  | .bl b => some b
  | _ => none
/-- a list's items are alike, and no tuple is empty where there are tuples -/
def allAlike (xs : List PV) : Bool := xs.all fun x => x.fine && xs.all fun y => x.alike y
def sortable (xs : List PV) : Bool :=
  allAlike xs && ((xs.all fun x => match x with | .tup (_ :: _) => true | _ => false) || (xs.all fun x => match x with | .non => false | .tup _ => false | _ => true))
def sortV (xs : List PV) : List PV := xs.mergeSort PV.le
def minV : List PV → Res PV
  | [] => .no
  | x :: xs => .of (allAlike (x :: xs) && !x.isNon) (.ok (xs.foldl (fun a y => if PV.lt y a then y else a) x))
def maxV : List PV → Res PV
  | [] => .no
  | x :: xs => .of (allAlike (x :: xs) && !x.isNon) (.ok (xs.foldl (fun a y => if PV.lt a y then y else a) x))
def pairOf : PV → Option (PV × PV)
  | .tup [a, b] => some (a, b)
  | _ => none
/-- dict(..) of pairs: put one after the other -/
def dictOf : List (PV × PV) → List (PV × PV) → Res (List (PV × PV))
  | acc, [] => .ok acc
  | acc, p :: ps => .of (kOk acc p.1) (dictOf (dset acc p.1 p.2) ps)
def dedup : List PV → List PV
  | [] => []
  | x :: xs => if xs.any (fun y => PV.eqv y x) then dedup xs else x :: dedup xs
def bifV (b : Bif) (as : List PV) : Res PV :=
  match b, as with
  | .len, [.lst xs] => .ok (.int xs.length)
  | .len, [.tup xs] => .ok (.int xs.length)
  | .len, [.dct kvs] => .ok (.int kvs.length)
  | .abs, [.int i] => .ok (.int i.natAbs)
  | .int, [.int i] => .ok (.int i)
  | .tuple, [.lst xs] => .ok (.tup xs)
  | .tuple, [.tup xs] => .ok (.tup xs)
  | .list, [.scr xs] => .ok (.lst xs)
  | .list, [x] => (Res.ofOpt (seqOf x)).bind fun xs => .ok (.lst xs)
  | .sorted, [x] => (Res.ofOpt (seqOf x)).bind fun xs => .of (sortable xs) (.ok (.lst (sortV xs)))
  | .sortedset, [x] => (Res.ofOpt (seqOf x)).bind fun xs => .of (sortable xs && xs.all fun y => PV.keyOk y && decide (y.depth ≤ 8)) (.ok (.lst (sortV (dedup xs))))
  | .lenset, [x] => (Res.ofOpt (seqOf x)).bind fun xs => .of (xs.all fun y => PV.keyOk y && decide (y.depth ≤ 8)) (.ok (.int (dedup xs).length))
  | .dict, [x] => (Res.ofOpt (lstOf x)).bind fun xs => (Res.ofOpt (xs.mapM pairOf)).bind fun ps => (dictOf [] ps).bind fun d => .ok (.dct d)
  | .sum, [x] => (Res.ofOpt (lsOf x)).bind fun xs => (Res.ofOpt (xs.mapM intOf)).bind fun is => .ok (.int is.sum)
  | .any, [x] => (Res.ofOpt (lstOf x)).bind fun xs => (Res.ofOpt (xs.mapM blOf)).bind fun bs => .ok (.bl (bs.any id))
  | .all, [x] => (Res.ofOpt (lstOf x)).bind fun xs => (Res.ofOpt (xs.mapM blOf)).bind fun bs => .ok (.bl (bs.all id))
  | .min, [x] => (Res.ofOpt (lsOf x)).bind minV
  | .max, [x] => (Res.ofOpt (lsOf x)).bind maxV
  | .min, [.int i, .int j] => .ok (.int (if j < i then j else i))
  | .max, [.int i, .int j] => .ok (.int (if j > i then j else i))
  | _, _ => .no
def isiV (t : Ty) (x : PV) : Res PV :=
  match x with
  | .cup => .no
  | .fn _ => .no
  | .scr _ => .no
  | .int _ => .ok (.bl (match t with | .int => true | _ => false))
  | .bl _ => .ok (.bl (match t with | .int => true | .bool => true | _ => false))
  | .str _ => .ok (.bl (match t with | .str => true | _ => false))
  | .tup _ => .ok (.bl (match t with | .tuple => true | _ => false))
  | .lst _ => .ok (.bl (match t with | .list => true | _ => false))
  | .non => .ok (.bl false)
  | .dct _ => .ok (.bl false)
/-- values of one built-in type -/
def kname : PV → Option String
  | .lst _ => some "list"
  | .dct _ => some "dict"
  | _ => none

def pairsUp : List PV → Option (List (PV × PV))
  | [] => some []
  | k :: v :: r => (pairsUp r).map ((k, v) :: ·)
  | _ => none
def opV (cup : Option (Int × Int)) (o : Op) (as : List PV) : Res PV :=
  match o, as with
  | .add, [x, y] => addV x y
  | .cat, [.lst xs, .lst ys] => .of (fits (xs.length + ys.length)) (.ok (.lst (xs ++ ys)))
  | .sub, [.int i, .int j] => .ok (.int (i - j))
  | .mul, [x, y] => mulV x y
  | .fdiv, [.int i, .int j] => .of (decide (0 < j) && decide (j < 1073741824)) (.ok (.int (i / j)))
  | .mod, [.int i, .int j] => .of (decide (0 < j)) (.ok (.int (i % j)))
  | .pow, [.int i, .int j] => .of (decide (0 ≤ j) && decide (j ≤ 1000) && small64 i) (.ok (.int (i ^ j.toNat)))
  | .neg, [.int i] => .ok (.int (-i))
  | .cmp c, [x, y] => cmpV c x y
  | .idx, [x, y] => idxV cup x y
  | .slc true true, [x, .int l, .int h] => slcV x (some l) (some h)
  | .slc true false, [x, .int l] => slcV x (some l) none
  | .slc false true, [x, .int h] => slcV x none (some h)
  | .slc false false, [x] => slcV x none none
  | .rev, [x] => revV x
  | .tup, xs => .ok (.tup xs)
  | .lst, xs => .ok (.lst xs)
  | .dct, xs => (Res.ofOpt (pairsUp xs)).bind fun ps => (dictOf [] ps).bind fun d => .ok (.dct d)
  | .bif b, xs => bifV b xs
  | .isi t, [x] => isiV t x
  | .get1, [.dct kvs, k] => .of (kOk kvs k) (.ok ((dget kvs k).getD .non))
  | .get2, [.dct kvs, k, x] => .of (kOk kvs k && (kname x).isNone) (.ok ((dget kvs k).getD x))
  | .index, [.lst xs, x] => .of (xs.all PV.fine && x.fine) (.ofOpt ((xs.findIdx? fun z => z.eqv x).map fun (j : Nat) => PV.int (j : Int)))
  | .count, [.lst xs, x] => .of (xs.all PV.fine && x.fine) (.ok (.int (xs.countP fun z => z.eqv x)))
  | _, _ => .no
def rng (a b : Int) : List PV := (List.range (b - a).toNat).map fun (i : Nat) => .int (a + (i : Int))
def itrV (k : Itk) (as : List PV) : Res (List PV) :=
  match k, as with
  | .range1, [.int n] => .of (decide (-(2 ^ 62) ≤ n) && decide (n < 2 ^ 62)) (.ok (rng 0 n))
  | .range2, [.int a, .int b] => .of (decide (-(2 ^ 62) ≤ a) && decide (a < 2 ^ 62) && decide (-(2 ^ 62) ≤ b) && decide (b < 2 ^ 62)) (.ok (rng a b))
  | .zip, [.lst xs, .lst ys] => .ok (List.zipWith (fun a b => .tup [a, b]) xs ys)
  | .zip, [.tup xs, .tup ys] => .ok (List.zipWith (fun a b => .tup [a, b]) xs ys)
  | .enum, [.lst xs] => .ok (xs.zipIdx.map fun p => .tup [.int p.2, p.1])
  | _, _ => .no

/-! ### targets -/
mutual
def bindP : Pat → PV → List Slot → Res (List Slot)
  | .nm i, v, env => .ok (env.set i (.val v))
  | .tup ps, v, env => match v with
    | .tup xs => bindPs ps xs env
    | _ => .no
def bindPs : List Pat → List PV → List Slot → Res (List Slot)
  | [], [], env => .ok env
  | p :: ps, x :: xs, env => (bindP p x env).bind fun e => bindPs ps xs e
  | _, _, _ => .no
end
def wipeE (env : List Slot) : List Nat → List Slot
  | [] => env
  | v :: vs => (wipeE env vs).set v .unk
/-- behind a comprehension: its own names are as they were, where they held values -/
def backE (old new : List Slot) : List Nat → List Slot
  | [] => new
  | v :: vs => (backE old new vs).set v (match old[v]? with | some (.val p) => .val p | _ => .unk)

/-! ### running -/
abbrev Calls := Nat → List PV → Option (Int × Int) → Res (PV × Option (Int × Int))
def slotV (env : List Slot) (i : Nat) : Res PV :=
  match env[i]? with
  | some (.val v) => .ok v
  | some (.own v) => .ok v
  | _ => .no
def frz (env : List Slot) (i : Nat) : List Slot :=
  match env[i]? with
  | some (.own v) => env.set i (.val v)
  | _ => env
/-- borrowed operands are read behind the others -/
def reread : List E → List PV → St → Res (List PV)
  | .bor i :: es, _ :: vs, st => (slotV st.env i).bind fun v => (reread es vs st).bind fun r => .ok (v :: r)
  | _ :: es, v :: vs, st => (reread es vs st).bind fun r => .ok (v :: r)
  | [], [], _ => .ok []
  | _, _, _ => .no
/-- a turn of a comprehension: nothing, or an item -/
def lcLoop {α : Type} (turn : PV → St → Res (List α × St)) : List PV → St → Res (List α × St)
  | [], st => .ok ([], st)
  | x :: xs, st => (turn x st).bind fun r => (lcLoop turn xs r.2).bind fun q => .ok (r.1 ++ q.1, q.2)
def dcLoop (turn : PV → List (PV × PV) → St → Res (List (PV × PV) × St)) : List PV → List (PV × PV) → St → Res (List (PV × PV) × St)
  | [], d, st => .ok (d, st)
  | x :: xs, d, st => (turn x d st).bind fun r => dcLoop turn xs r.1 r.2

mutual
def ev (Φ : Calls) : E → St → Res (PV × St)
  | .lit v, st => .ok (v, st)
  | .con _ v, st => .ok (v, st)
  | .var i, st => (slotV st.env i).bind fun v => .ok (v, { st with env := frz st.env i })
  | .bor i, st => (slotV st.env i).bind fun v => .ok (v, st)
  | .op o es, st => (evs Φ es st).bind fun r => (reread es r.1 r.2).bind fun vs => (opV r.2.cup o vs).bind fun v => .ok (v, r.2)
  | .meth o a es, st => (ev Φ a st).bind fun r => (evs Φ es r.2).bind fun q => (reread (a :: es) (r.1 :: q.1) q.2).bind fun vs => match vs with
    | v :: ws => .of (decide (kname v = kname r.1)) ((opV q.2.cup o (v :: ws)).bind fun y => .ok (y, q.2))
    | [] => .no
  | .itr k es, st => (evs Φ es st).bind fun r => (reread es r.1 r.2).bind fun vs => (itrV k vs).bind fun v => .ok (.lst v, r.2)
  | .and a b, st => (ev Φ a st).bind fun r => match r.1 with
    | .bl true => ev Φ b r.2
    | .bl false => .ok (.bl false, r.2)
    | _ => .no
  | .or a b, st => (ev Φ a st).bind fun r => match r.1 with
    | .bl true => .ok (.bl true, r.2)
    | .bl false => ev Φ b r.2
    | _ => .no
  | .not a, st => (ev Φ a st).bind fun r => match r.1 with
    | .bl b => .ok (.bl (!b), r.2)
    | _ => .no
  | .ite c a b, st => (ev Φ c st).bind fun r => match r.1 with
    | .bl true => ev Φ a r.2
    | .bl false => ev Φ b r.2
    | _ => .no
  | .chain o1 o2 a b c, st => (ev Φ a st).bind fun r => (ev Φ b r.2).bind fun q => (cmpV o1 r.1 q.1).bind fun z => match z with
    | .bl true => (ev Φ c q.2).bind fun t => (cmpV o2 q.1 t.1).bind fun z' => .ok (z', t.2)
    | .bl false => .ok (.bl false, q.2)
    | _ => .no
  | .call k es, st => (evs Φ es st).bind fun r => (Φ k r.1 r.2.cup).bind fun q => .ok (q.1, { r.2 with cup := q.2 })
  | .pop i, st => match st.env[i]? with
    | some (.own (.lst xs)) => (Res.ofOpt xs.getLast?).bind fun v => .ok (v, { st with env := st.env.set i (.own (.lst xs.dropLast)) })
    | _ => .no
  | .lc own p it c elt, st => (ev Φ it st).bind fun r => (Res.ofOpt (ltOf r.1)).bind fun xs =>
      (lcLoop (fun x st => (bindP p x (wipeE st.env own)).bind fun env => (ev Φ c { st with env := env }).bind fun b => match b.1 with
        | .bl true => (ev Φ elt b.2).bind fun y => .ok ([y.1], y.2)
        | .bl false => .ok ([], b.2)
        | _ => .no) xs r.2).bind fun q => .of (fits (q.1.length)) (.ok (.lst q.1, { q.2 with env := backE r.2.env q.2.env own }))
  | .lc2 own p it c vs1 p1 it1 c1 elt, st => (ev Φ it st).bind fun r => (Res.ofOpt (ltOf r.1)).bind fun xs =>
      (lcLoop (fun x st => (bindP p x (wipeE st.env own)).bind fun env => (ev Φ c { st with env := env }).bind fun b => match b.1 with
        | .bl true => (ev Φ it1 b.2).bind fun r1 => (Res.ofOpt (ltOf r1.1)).bind fun ys =>
            lcLoop (fun y st => (bindP p1 y (wipeE st.env vs1)).bind fun env => (ev Φ c1 { st with env := env }).bind fun b1 => match b1.1 with
              | .bl true => (ev Φ elt b1.2).bind fun z => .ok ([z.1], z.2)
              | .bl false => .ok ([], b1.2)
              | _ => .no) ys r1.2
        | .bl false => .ok ([], b.2)
        | _ => .no) xs r.2).bind fun q => .of (fits (q.1.length)) (.ok (.lst q.1, { q.2 with env := backE r.2.env q.2.env own }))
  | .dc own p it c k v, st => (ev Φ it st).bind fun r => (Res.ofOpt (ltOf r.1)).bind fun xs =>
      (dcLoop (fun x d st => (bindP p x (wipeE st.env own)).bind fun env => (ev Φ c { st with env := env }).bind fun b => match b.1 with
        | .bl true => (ev Φ k b.2).bind fun y => (ev Φ v y.2).bind fun z => .of (kOk d y.1 && fitsL (d.length)) (.ok (dset d y.1 z.1, z.2))
        | .bl false => .ok (d, b.2)
        | _ => .no) xs [] r.2).bind fun q => .ok (.dct q.1, { q.2 with env := backE r.2.env q.2.env own })
  | .dc2 own p it c vs1 p1 it1 c1 k v, st => (ev Φ it st).bind fun r => (Res.ofOpt (ltOf r.1)).bind fun xs =>
      (dcLoop (fun x d st => (bindP p x (wipeE st.env own)).bind fun env => (ev Φ c { st with env := env }).bind fun b => match b.1 with
        | .bl true => (ev Φ it1 b.2).bind fun r1 => (Res.ofOpt (ltOf r1.1)).bind fun ys =>
            dcLoop (fun y d st => (bindP p1 y (wipeE st.env vs1)).bind fun env => (ev Φ c1 { st with env := env }).bind fun b1 => match b1.1 with
              | .bl true => (ev Φ k b1.2).bind fun y => (ev Φ v y.2).bind fun z => .of (kOk d y.1 && fitsL (d.length)) (.ok (dset d y.1 z.1, z.2))
              | .bl false => .ok (d, b1.2)
              | _ => .no) ys d r1.2
        | .bl false => .ok (d, b.2)
        | _ => .no) xs [] r.2).bind fun q => .ok (.dct q.1, { q.2 with env := backE r.2.env q.2.env own })
  | .newcup a b, st => (ev Φ a st).bind fun r => (ev Φ b r.2).bind fun q => match r.1, q.1, q.2.cup with
    | .int x, .int y, none => .ok (.cup, { q.2 with cup := some (x, y) })
    | _, _, _ => .no
def evs (Φ : Calls) : List E → St → Res (List PV × St)
  | [], st => .ok ([], st)
  | e :: es, st => (ev Φ e st).bind fun r => (evs Φ es r.2).bind fun q => .ok (r.1 :: q.1, q.2)
end

def storeAll : List (Nat × Bool) → List PV → List Slot → Res (List Slot)
  | [], [], env => .ok env
  | (i, o) :: is, v :: vs, env => storeAll is vs (env.set i (if o then .own v else .val v))
  | _, _, _ => .no
def whileL (c : St → Res (Bool × St)) (b : St → Res (Flow × St)) : Nat → St → Res (Flow × St)
  | 0, _ => .no
  | n + 1, st => (c st).bind fun r => if r.1 then (b r.2).bind fun q => match q.1 with
      | .nx => whileL c b n q.2
      | .ct => whileL c b n q.2
      | .bk => .ok (.nx, q.2)
      | .rt v => .ok (.rt v, q.2)
    else .ok (.nx, r.2)
def forL (turn : PV → St → Res (Flow × St)) : List PV → St → Res (Flow × St)
  | [], st => .ok (.nx, st)
  | x :: xs, st => (turn x st).bind fun q => match q.1 with
      | .nx => forL turn xs q.2
      | .ct => forL turn xs q.2
      | .bk => .ok (.nx, q.2)
      | .rt v => .ok (.rt v, q.2)
/-- the most turns of a while loop -/
def WLIM : Nat := 1000000000
def test (x : Res (PV × St)) : Res (Bool × St) := x.bind fun r => match r.1 with
  | .bl b => .ok (b, r.2)
  | _ => .no
mutual
def ex (Φ : Calls) : S → St → Res (Flow × St)
  | .asg p e, st => (ev Φ e st).bind fun r => (bindP p r.1 r.2.env).bind fun env => .ok (.nx, { r.2 with env := env })
  | .asgo i e, st => (ev Φ e st).bind fun r => .ok (.nx, { r.2 with env := r.2.env.set i (.own r.1) })
  | .asgs is es, st => (evs Φ es st).bind fun r => (storeAll is r.1 r.2.env).bind fun env => .ok (.nx, { r.2 with env := env })
  | .aug i o e, st => match st.env[i]? with
    | some (.own (.lst _)) => (ev Φ e st).bind fun r => match r.2.env[i]?, r.1, o with
      | some (.own (.lst xs)), .lst ys, .add => .of (fits (xs.length + ys.length)) (.ok (.nx, { r.2 with env := r.2.env.set i (.own (.lst (xs ++ ys))) }))
      | _, _, _ => .no
    | _ => (slotV st.env i).bind fun x => (ev Φ e st).bind fun r => match x, r.1, o with
      | .int a, .int b, .add => .ok (.nx, { r.2 with env := r.2.env.set i (.val (.int (a + b))) })
      | .int a, .int b, .sub => .ok (.nx, { r.2 with env := r.2.env.set i (.val (.int (a - b))) })
      | _, _, _ => .no
  | .setx i k e, st => (ev Φ e st).bind fun r => (slotV r.2.env i).bind fun _ => (ev Φ k r.2).bind fun q => match q.2.env[i]? with
    | some (.own (.lst xs)) => (match q.1 with
      | .int j => (Res.ofOpt (ixN xs.length j)).bind fun n => .ok (.nx, { q.2 with env := q.2.env.set i (.own (.lst (xs.set n r.1))) })
      | _ => .no)
    | some (.own (.dct kvs)) => .of (kOk kvs q.1 && fitsL (kvs.length)) (.ok (.nx, { q.2 with env := q.2.env.set i (.own (.dct (dset kvs q.1 r.1))) }))
    | some (.val .cup) => (match q.2.cup, q.1, r.1 with
      | some (a, b), .int j, .int x => if j = 0 then .ok (.nx, { q.2 with cup := some (x, b) }) else if j = 1 then .ok (.nx, { q.2 with cup := some (a, x) }) else .no
      | _, _, _ => .no)
    | _ => .no
  | .app i e, st => match st.env[i]? with
    | some (.own (.lst _)) => (ev Φ e st).bind fun r => match r.2.env[i]? with
      | some (.own (.lst xs)) => .of (fitsL (xs.length)) (.ok (.nx, { r.2 with env := r.2.env.set i (.own (.lst (xs ++ [r.1]))) }))
      | _ => .no
    | _ => .no
  | .upd i e, st => match st.env[i]? with
    | some (.own (.dct _)) => (ev Φ e st).bind fun r => match r.2.env[i]?, r.1 with
      | some (.own (.dct kvs)), .dct ps => .of (updOk kvs ps && fits (kvs.length + ps.length)) (.ok (.nx, { r.2 with env := r.2.env.set i (.own (.dct (dmerge kvs ps))) }))
      | _, _ => .no
    | _ => .no
  | .expr e, st => (ev Φ e st).bind fun r => .ok (.nx, r.2)
  | .ret e, st => (ev Φ e st).bind fun r => .ok (.rt r.1, r.2)
  | .ite c t f, st => (test (ev Φ c st)).bind fun r => if r.1 then exs Φ t r.2 else exs Φ f r.2
  | .while c b, st => whileL (fun st => test (ev Φ c st)) (fun st => exs Φ b st) WLIM st
  | .for p it b, st => (ev Φ it st).bind fun r => (Res.ofOpt (ltOf r.1)).bind fun xs =>
      forL (fun x st => (bindP p x st.env).bind fun env => exs Φ b { st with env := env }) xs r.2
  | .pass, st => .ok (.nx, st)
  | .brk, st => .ok (.bk, st)
  | .cont, st => .ok (.ct, st)
  | .raise x es, st => (evs Φ es st).bind fun r => .exn ⟨x, r.1⟩
def exs (Φ : Calls) : List S → St → Res (Flow × St)
  | [], st => .ok (.nx, st)
  | s :: ss, st => (ex Φ s st).bind fun r => match r.1 with
    | .nx => exs Φ ss r.2
    | f => .ok (f, r.2)
end

structure Fn where
  name : Str
  nargs : Nat
  nslots : Nat
  fresh : Bool
  body : List S
  deriving Inhabited
def startE (f : Fn) (args : List PV) : List Slot := args.map .val ++ List.replicate (f.nslots - args.length) .unk
def runFn (Φ : Calls) (f : Fn) (args : List PV) (cup : Option (Int × Int)) : Res (PV × Option (Int × Int)) :=
  .of (decide (args.length = f.nargs)) ((exs Φ f.body ⟨startE f args, cup⟩).bind fun r => match r.1 with
    | .rt v => .ok (v, r.2.cup)
    | .nx => .ok (.non, r.2.cup)
    | _ => .no)
def callN (fns : List Fn) : Nat → Calls
  | 0 => fun _ _ _ => .no
  | d + 1 => fun k args cup => match fns[k]? with
    | some f => runFn (callN fns d) f args cup
    | none => .no

/-- expressions whose value is a new list or dict -/
def freshE (ff : Nat → Bool) : E → Bool
  | .op .lst _ => true
  | .op .cat _ => true
  | .op .dct _ => true
  | .op (.bif .list) _ => true
  | .op (.bif .sorted) _ => true
  | .op (.bif .sortedset) _ => true
  | .op (.bif .dict) _ => true
  | .lc .. => true
  | .lc2 .. => true
  | .dc .. => true
  | .dc2 .. => true
  | .call k _ => ff k
  | _ => false
end Py
end

section
set_option linter.all false
set_option autoImplicit false
/-! Values as plain data and as keys: the library's ==, <, hash on them. -/
namespace Py
open PySem (Str CmpOp PyData NestedKey)
namespace PV
theorem toDs_map : ∀ xs : List PV, toDs xs = xs.map toD
  | [] => rfl
  | x :: xs => by rw [toDs, toDs_map xs, List.map_cons]
theorem plains_all : ∀ xs : List PV, plains xs = xs.all plain
  | [] => rfl
  | x :: xs => by rw [plains, plains_all xs, List.all_cons]
theorem depths_le {n : Nat} : ∀ xs : List PV, depths xs ≤ n ↔ ∀ x ∈ xs, depth x ≤ n
  | [] => by simp [depths]
  | x :: xs => by rw [depths, List.forall_mem_cons, ← depths_le xs]; omega
mutual
theorem toD_plain : ∀ x : PV, plain x = true → (toD x).plain = true
  | .non, _ => rfl
  | .bl _, _ => rfl
  | .int _, _ => rfl
  | .str _, _ => rfl
  | .tup xs, h => by
    rw [plain] at h; rw [toD, PyData.plain]; exact toDs_plain xs h
  | .lst xs, h => by
    rw [plain] at h; rw [toD, PyData.plain]; exact toDs_plain xs h
  | .dct _, h => by rw [plain] at h; cases h
  | .cup, h => by rw [plain] at h; cases h
  | .fn _, h => by rw [plain] at h; cases h
  | .scr _, h => by rw [plain] at h; cases h
theorem toDs_plain : ∀ xs : List PV, plains xs = true → PyData.plainAll (toDs xs) = true
  | [], _ => rfl
  | x :: xs, h => by
    rw [plains, Bool.and_eq_true] at h
    rw [toDs, PyData.plainAll, toD_plain x h.1, toDs_plain xs h.2]; rfl
end
mutual
theorem toD_depth : ∀ x : PV, (toD x).depth = depth x
  | .non => rfl
  | .bl _ => rfl
  | .int _ => rfl
  | .str _ => rfl
  | .tup xs => by rw [toD, PyData.depth, depth, toDs_depth xs]
  | .lst xs => by rw [toD, PyData.depth, depth, toDs_depth xs]
  | .dct _ => rfl
  | .cup => rfl
  | .fn _ => rfl
  | .scr _ => rfl
theorem toDs_depth : ∀ xs : List PV, PyData.depthAll (toDs xs) = depths xs
  | [] => rfl
  | x :: xs => by rw [toDs, PyData.depthAll, depths, toD_depth x, toDs_depth xs]
end
mutual
theorem eqv_toD : ∀ x y : PV, plain x = true → plain y = true → PyData.eqv (toD x) (toD y) = eqv x y
  | .non, y, _, hy => by cases y <;> first | rfl | (rw [plain] at hy; cases hy)
  | .bl a, y, _, hy => by cases y <;> first | rfl | (rw [plain] at hy; cases hy)
  | .int a, y, _, hy => by
    cases y with
    | int b => show (a == b) = decide (a = b); exact Bool.beq_eq_decide_eq a b
    | _ => first | rfl | (rw [plain] at hy; cases hy)
  | .str a, y, _, hy => by
    cases y with
    | str b => show (a == b) = decide (a = b); exact Bool.beq_eq_decide_eq a b
    | _ => first | rfl | (rw [plain] at hy; cases hy)
  | .tup xs, y, hx, hy => by
    cases y with
    | tup ys => rw [plain] at hx hy; rw [toD, toD, PyData.eqv, eqv, eqvs_toDs xs ys hx hy]
    | _ => first | rfl | (rw [plain] at hy; cases hy)
  | .lst xs, y, hx, hy => by
    cases y with
    | lst ys => rw [plain] at hx hy; rw [toD, toD, PyData.eqv, eqv, eqvs_toDs xs ys hx hy]
    | _ => first | rfl | (rw [plain] at hy; cases hy)
  | .dct _, _, h, _ => by rw [plain] at h; cases h
  | .cup, _, h, _ => by rw [plain] at h; cases h
  | .fn _, _, h, _ => by rw [plain] at h; cases h
  | .scr _, _, h, _ => by rw [plain] at h; cases h
theorem eqvs_toDs : ∀ xs ys : List PV, plains xs = true → plains ys = true → PyData.eqvAll (toDs xs) (toDs ys) = eqvs xs ys
  | [], [], _, _ => rfl
  | [], _ :: _, _, _ => rfl
  | _ :: _, [], _, _ => rfl
  | x :: xs, y :: ys, hx, hy => by
    rw [plains, Bool.and_eq_true] at hx hy
    rw [toDs, toDs, PyData.eqvAll, eqvs, eqv_toD x y hx.1 hy.1, eqvs_toDs xs ys hx.2 hy.2]
end
mutual
theorem alike_toD : ∀ x y : PV, alike x y = true → PySem.W.alike (toD x) (toD y) = true
  | .non, y, h => by cases y <;> first | rfl | (exact absurd h (by simp [alike]))
  | .bl a, y, h => by cases y <;> first | rfl | (exact absurd h (by simp [alike]))
  | .int a, y, h => by cases y <;> first | rfl | (exact absurd h (by simp [alike]))
  | .str a, y, h => by cases y <;> first | rfl | (exact absurd h (by simp [alike]))
  | .tup xs, y, h => by
    cases y with
    | tup ys => rw [alike] at h; rw [toD, toD, PySem.W.alike]; exact alikes_toDs xs ys h
    | _ => exact absurd h (by simp [alike])
  | .lst xs, y, h => by
    cases y with
    | lst ys => rw [alike] at h; rw [toD, toD, PySem.W.alike]; exact alikes_toDs xs ys h
    | _ => exact absurd h (by simp [alike])
  | .dct _, _, h => absurd h (by simp [alike])
  | .cup, _, h => absurd h (by simp [alike])
  | .fn _, _, h => absurd h (by simp [alike])
  | .scr _, _, h => absurd h (by simp [alike])
theorem alikes_toDs : ∀ xs ys : List PV, alikes xs ys = true → PySem.W.alikeAll (toDs xs) (toDs ys) = true
  | [], _, _ => by rw [toDs, PySem.W.alikeAll]
  | _ :: _, [], _ => by rw [toDs, toDs, PySem.W.alikeAll]
  | x :: xs, y :: ys, h => by
    rw [alikes, Bool.and_eq_true] at h
    rw [toDs, toDs, PySem.W.alikeAll, alike_toD x y h.1, alikes_toDs xs ys h.2]; rfl
end
mutual
theorem alike_plain : ∀ x y : PV, alike x y = true → PyData.eqv (toD x) (toD y) = eqv x y
  | .non, y, h => by cases y <;> first | rfl | (exact absurd h (by simp [alike]))
  | .bl a, y, h => by cases y <;> first | rfl | (exact absurd h (by simp [alike]))
  | .int a, y, h => by
    cases y with
    | int b => show (a == b) = decide (a = b); exact Bool.beq_eq_decide_eq a b
    | _ => exact absurd h (by simp [alike])
  | .str a, y, h => by
    cases y with
    | str b => show (a == b) = decide (a = b); exact Bool.beq_eq_decide_eq a b
    | _ => exact absurd h (by simp [alike])
  | .tup xs, y, h => by
    cases y with
    | tup ys => rw [alike] at h; rw [toD, toD, PyData.eqv, eqv]; exact alikes_plain xs ys h
    | _ => exact absurd h (by simp [alike])
  | .lst xs, y, h => by
    cases y with
    | lst ys => rw [alike] at h; rw [toD, toD, PyData.eqv, eqv]; exact alikes_plain xs ys h
    | _ => exact absurd h (by simp [alike])
  | .dct _, _, h => absurd h (by simp [alike])
  | .cup, _, h => absurd h (by simp [alike])
  | .fn _, _, h => absurd h (by simp [alike])
  | .scr _, _, h => absurd h (by simp [alike])
theorem alikes_plain : ∀ xs ys : List PV, alikes xs ys = true → PyData.eqvAll (toDs xs) (toDs ys) = eqvs xs ys
  | [], [], _ => rfl
  | [], _ :: _, _ => rfl
  | _ :: _, [], _ => rfl
  | x :: xs, y :: ys, h => by
    rw [alikes, Bool.and_eq_true] at h
    rw [toDs, toDs, PyData.eqvAll, eqvs, alike_plain x y h.1, alikes_plain xs ys h.2]
end
end PV
namespace PV
open PyProof.Rows PySem.W
mutual
theorem lt_toD : ∀ x y : PV, alike x y = true → dataLt (toD x) (toD y) = lt x y
  | .non, y, h => by
    cases y with
    | non => exact lex_irrefl _
    | _ => exact absurd h (by simp [alike])
  | .bl a, y, h => by
    cases y with
    | bl b =>
      show dataLt (.bool a) (.bool b) = (!a && b)
      rw [dataLt_bool]; cases a <;> cases b <;> rfl
    | _ => exact absurd h (by simp [alike])
  | .int a, y, h => by
    cases y with
    | int b => exact dataLt_int a b
    | _ => exact absurd h (by simp [alike])
  | .str a, y, h => by
    cases y with
    | str b => exact dataLt_str a b
    | _ => exact absurd h (by simp [alike])
  | .tup xs, y, h => by
    cases y with
    | tup ys => rw [alike] at h; rw [toD, toD, dataLt_tuple, lt]; exact lts_toDs xs ys h
    | _ => exact absurd h (by simp [alike])
  | .lst xs, y, h => by
    cases y with
    | lst ys => rw [alike] at h; rw [toD, toD, dataLt_list, lt]; exact lts_toDs xs ys h
    | _ => exact absurd h (by simp [alike])
  | .dct _, _, h => absurd h (by simp [alike])
  | .cup, _, h => absurd h (by simp [alike])
  | .fn _, _, h => absurd h (by simp [alike])
  | .scr _, _, h => absurd h (by simp [alike])
theorem lts_toDs : ∀ xs ys : List PV, alikes xs ys = true → lexLt itemOrd (keyToksAll (toDs xs)) (keyToksAll (toDs ys)) = lts xs ys
  | [], [], _ => lex_irrefl _
  | [], y :: ys, _ => by
    rw [toDs, toDs, toks_all_cons, keyToksAll, lex_diff (O := itemOrd) (by simp)]; rfl
  | x :: xs, [], _ => by
    rw [toDs, toDs, toks_all_cons, keyToksAll, lex_diff (O := itemOrd) (by simp)]; rfl
  | x :: xs, y :: ys, h => by
    rw [alikes, Bool.and_eq_true] at h
    have e1 := alike_plain x y h.1
    rw [toDs, toDs, lts]
    cases e : eqv x y with
    | true =>
      rw [if_pos rfl, ← lts_toDs xs ys h.2]
      exact dataLt_all_yes (alike_toD x y h.1) (by rw [e1, e])
    | false =>
      rw [if_neg Bool.false_ne_true, ← lt_toD x y h.1]
      exact dataLt_all_no (alike_toD x y h.1) (by rw [e1, e])
end
/-! ### keys -/
mutual
def nk : PV → NestedKey
  | .non => .none
  | .int i => .num i
  | .str s => .text s
  | .tup xs => .tup (nks xs)
  | .bl _ => .none
  | .lst _ => .none
  | .dct _ => .none
  | .cup => .none
  | .fn _ => .none
  | .scr _ => .none
def nks : List PV → List NestedKey
  | [] => []
  | x :: xs => nk x :: nks xs
end
mutual
theorem nk_depth : ∀ x : PV, keyOk x = true → (nk x).depth = depth x
  | .non, _ => rfl
  | .int _, _ => rfl
  | .str _, _ => rfl
  | .tup xs, h => by rw [keyOk] at h; rw [nk, NestedKey.depth, depth, nks_depth xs h]
  | .bl _, h => absurd h (by simp [keyOk])
  | .lst _, h => absurd h (by simp [keyOk])
  | .dct _, h => absurd h (by simp [keyOk])
  | .cup, h => absurd h (by simp [keyOk])
  | .fn _, h => absurd h (by simp [keyOk])
  | .scr _, h => absurd h (by simp [keyOk])
theorem nks_depth : ∀ xs : List PV, keyOks xs = true → NestedKey.depthAll (nks xs) = depths xs
  | [], _ => rfl
  | x :: xs, h => by
    rw [keyOks, Bool.and_eq_true] at h
    rw [nks, NestedKey.depthAll, depths, nk_depth x h.1, nks_depth xs h.2]
end
mutual
theorem nk_eqv : ∀ x y : PV, keyOk x = true → keyOk y = true → NestedKey.beq (nk x) (nk y) = eqv x y
  | .non, y, _, hy => by cases y <;> first | rfl | (exact absurd hy (by simp [keyOk]))
  | .int a, y, _, hy => by cases y <;> first | rfl | (exact absurd hy (by simp [keyOk]))
  | .str a, y, _, hy => by cases y <;> first | rfl | (exact absurd hy (by simp [keyOk]))
  | .tup xs, y, hx, hy => by
    cases y with
    | tup ys => rw [keyOk] at hx hy; rw [nk, nk, NestedKey.beq, eqv, nks_eqv xs ys hx hy]
    | _ => first | rfl | (exact absurd hy (by simp [keyOk]))
  | .bl _, _, h, _ => absurd h (by simp [keyOk])
  | .lst _, _, h, _ => absurd h (by simp [keyOk])
  | .dct _, _, h, _ => absurd h (by simp [keyOk])
  | .cup, _, h, _ => absurd h (by simp [keyOk])
  | .fn _, _, h, _ => absurd h (by simp [keyOk])
  | .scr _, _, h, _ => absurd h (by simp [keyOk])
theorem nks_eqv : ∀ xs ys : List PV, keyOks xs = true → keyOks ys = true → NestedKey.beqAll (nks xs) (nks ys) = eqvs xs ys
  | [], [], _, _ => rfl
  | [], _ :: _, _, _ => rfl
  | _ :: _, [], _, _ => rfl
  | x :: xs, y :: ys, hx, hy => by
    rw [keyOks, Bool.and_eq_true] at hx hy
    rw [nks, nks, NestedKey.beqAll, eqvs, nk_eqv x y hx.1 hy.1, nks_eqv xs ys hx.2 hy.2]
end
theorem nk_dec {x y : PV} (hx : keyOk x = true) (hy : keyOk y = true) : decide (nk x = nk y) = eqv x y := by rw [NestedKey.decide_eq, nk_eqv x y hx hy]
theorem nk_eq_iff {x y : PV} (hx : keyOk x = true) (hy : keyOk y = true) : nk x = nk y ↔ eqv x y = true := by rw [← nk_dec hx hy, decide_eq_true_eq]
mutual
theorem keyOk_plain : ∀ x : PV, keyOk x = true → plain x = true
  | .non, _ => rfl
  | .int _, _ => rfl
  | .str _, _ => rfl
  | .tup xs, h => by rw [keyOk] at h; rw [plain]; exact keyOks_plain xs h
  | .bl _, h => absurd h (by simp [keyOk])
  | .lst _, h => absurd h (by simp [keyOk])
  | .dct _, h => absurd h (by simp [keyOk])
  | .cup, h => absurd h (by simp [keyOk])
  | .fn _, h => absurd h (by simp [keyOk])
  | .scr _, h => absurd h (by simp [keyOk])
theorem keyOks_plain : ∀ xs : List PV, keyOks xs = true → plains xs = true
  | [], _ => rfl
  | x :: xs, h => by
    rw [keyOks, Bool.and_eq_true] at h
    rw [plains, keyOk_plain x h.1, keyOks_plain xs h.2]; rfl
end
end PV
end Py
end

section
set_option Elab.async false
set_option linter.all false
set_option autoImplicit false
set_option maxRecDepth 100000
/-! What a value of the small language is in the heap. -/
namespace Py
open PySem PySem.Spec PyProof.Rows L2

/-- the object that stands at a is ob -/
def IsOb (a : Addr) (ob : Obj) : Heap → Prop := fun h => h.get? a = some ob
/-- what representation hangs on: the written part, the world, the shared part of the heap (which never changes), where the random state stands -/
structure RC where
  K : PySem.W.Frag
  w : World
  F : Hp
  cp : Option Addr
/-- the object at a is known to be ob -/
def Kn (C : RC) (a : Addr) (ob : Obj) : Prop := C.F a = some (.ext (IsOb a ob)) ∨ C.K.lookup a = some ob
/-- a dict's object: its entries, the pairs' sides -/
structure DOb (w : World) (a : Addr) (ob : Obj) (es : List DictEntry) (kvs : List (PV × PV)) : Prop where
  exact : ob.ExactDict
  data : ∃ esA ep, ob.data = .dict esA ep ∧ esA.toList = es
  sys : (a == sysModules) = false
  size : kvs.length ≤ LIM
  keys : ∀ p ∈ kvs, PV.keyOk p.1 = true ∧ PV.depth p.1 ≤ 8
  kind : ∃ n, n ≤ 2 ∧ ∀ p ∈ kvs, PV.kkind p.1 = n
  nodup : (kvs.map fun p => PV.nk p.1).Nodup
  hash : es.map (·.hash) = kvs.map fun p => (PV.nk p.1).hash w

mutual
def Rep (C : RC) : PV → V → Prop
  | .non, v => v = .non
  | .bl b, v => v = .bl b
  | .int i, v => v = .int i
  | .str s, v => v = .str s
  | .tup xs, v => ∃ a vs, v = .ref a ∧ SqT C.K C.F a vs ∧ Reps C xs vs
  | .lst xs, v => ∃ a vs, v = .ref a ∧ C.F a = some (.lst vs) ∧ Reps C xs vs
  | .dct kvs, v => ∃ a ob es, v = .ref a ∧ Kn C a ob ∧ DOb C.w a ob es kvs ∧ RepE C kvs es
  | .cup, v => ∃ c, C.cp = some c ∧ v = .ref c
  | .fn _, _ => False
  | .scr xs, v => ∃ a vs, v = .ref a ∧ SqL C.K C.F a vs ∧ Reps C xs vs
def Reps (C : RC) : List PV → List V → Prop
  | [], vs => vs = []
  | x :: xs, vs => ∃ v r, vs = v :: r ∧ Rep C x v ∧ Reps C xs r
def RepE (C : RC) : List (PV × PV) → List DictEntry → Prop
  | [], es => es = []
  | (k, x) :: kvs, es => ∃ e r, es = e :: r ∧ (∃ u, RelV u e.key ∧ Rep C k u) ∧ (∃ v, RelV v e.val ∧ Rep C x v) ∧ RepE C kvs r
end

/-- more is shared -/
structure RC.Le (C C' : RC) : Prop where
  k : C'.K = C.K
  w : C'.w = C.w
  f : ∀ b o, C.F b = some o → C'.F b = some o
  c : ∀ c, C.cp = some c → C'.cp = some c
theorem RC.Le.refl (C : RC) : C.Le C := ⟨rfl, rfl, fun _ _ h => h, fun _ h => h⟩
theorem RC.Le.trans {A B C : RC} (h : A.Le B) (g : B.Le C) : A.Le C := ⟨g.k.trans h.k, g.w.trans h.w, fun b o e => g.f b o (h.f b o e), fun c e => g.c c (h.c c e)⟩
theorem Rd.le {H H' : Hp} (h : ∀ b o, H b = some o → H' b = some o) {a : Addr} {u : HO} (r : Rd H a u) : Rd H' a u := by
  rcases r with r | ⟨o, r⟩
  · exact .inl (h _ _ r)
  · exact .inr ⟨o, h _ _ r⟩
theorem sqL_le {K : PySem.W.Frag} {H H' : Hp} (h : ∀ b o, H b = some o → H' b = some o) {a : Addr} {xs : List V} (r : SqL K H a xs) : SqL K H' a xs := by
  rcases r with r | r
  · exact .inl (Rd.le h r)
  · exact .inr r
theorem sqT_le {K : PySem.W.Frag} {H H' : Hp} (h : ∀ b o, H b = some o → H' b = some o) {a : Addr} {xs : List V} (r : SqT K H a xs) : SqT K H' a xs := by
  rcases r with r | r
  · exact .inl (Rd.le h r)
  · exact .inr r
theorem Kn.le {C C' : RC} (l : C.Le C') {a : Addr} {ob : Obj} (h : Kn C a ob) : Kn C' a ob := by
  rcases h with h | h
  · exact .inl (l.f _ _ h)
  · exact .inr (by rw [l.k]; exact h)
mutual
theorem Rep.le {C C' : RC} (l : C.Le C') : ∀ (p : PV) (v : V), Rep C p v → Rep C' p v
  | .non, _, h => h
  | .bl _, _, h => h
  | .int _, _, h => h
  | .str _, _, h => h
  | .tup xs, v, h => by
    obtain ⟨a, vs, e, hs, hr⟩ := h
    exact ⟨a, vs, e, by rw [l.k]; exact sqT_le l.f hs, Reps.le l xs vs hr⟩
  | .lst xs, v, h => by
    obtain ⟨a, vs, e, hs, hr⟩ := h
    exact ⟨a, vs, e, l.f _ _ hs, Reps.le l xs vs hr⟩
  | .dct kvs, v, h => by
    obtain ⟨a, ob, es, e, hk, hd, hr⟩ := h
    exact ⟨a, ob, es, e, hk.le l, by rw [l.w]; exact hd, RepE.le l kvs es hr⟩
  | .cup, v, h => by
    obtain ⟨c, e, h⟩ := h
    exact ⟨c, l.c _ e, h⟩
  | .fn _, _, h => h
  | .scr xs, v, h => by
    obtain ⟨a, vs, e, hs, hr⟩ := h
    exact ⟨a, vs, e, by rw [l.k]; exact sqL_le l.f hs, Reps.le l xs vs hr⟩
theorem Reps.le {C C' : RC} (l : C.Le C') : ∀ (ps : List PV) (vs : List V), Reps C ps vs → Reps C' ps vs
  | [], _, h => h
  | p :: ps, vs, h => by
    obtain ⟨v, r, e, h1, h2⟩ := h
    exact ⟨v, r, e, Rep.le l p v h1, Reps.le l ps r h2⟩
theorem RepE.le {C C' : RC} (l : C.Le C') : ∀ (kvs : List (PV × PV)) (es : List DictEntry), RepE C kvs es → RepE C' kvs es
  | [], _, h => h
  | (k, x) :: kvs, es, h => by
    obtain ⟨e, r, he, ⟨u, hu, h1⟩, ⟨v, hv, h2⟩, h3⟩ := h
    exact ⟨e, r, he, ⟨u, hu, Rep.le l k u h1⟩, ⟨v, hv, Rep.le l x v h2⟩, RepE.le l kvs r h3⟩
end
/-- the shared part is part of the heap -/
def SubH (C : RC) (H : Hp) : Prop := ∀ b o, C.F b = some o → H b = some o

/-! ### lists of values -/
theorem Reps.nil {C : RC} : Reps C [] [] := rfl
theorem Reps.cons {C : RC} {p : PV} {v : V} {ps : List PV} {vs : List V} (h : Rep C p v) (t : Reps C ps vs) : Reps C (p :: ps) (v :: vs) := ⟨v, vs, rfl, h, t⟩
theorem Reps.nil_inv {C : RC} {vs : List V} (h : Reps C [] vs) : vs = [] := h
theorem Reps.cons_inv {C : RC} {p : PV} {ps : List PV} {vs : List V} (h : Reps C (p :: ps) vs) : ∃ v r, vs = v :: r ∧ Rep C p v ∧ Reps C ps r := h
theorem Reps.length {C : RC} : ∀ {ps : List PV} {vs : List V}, Reps C ps vs → vs.length = ps.length
  | [], _, h => by rw [Reps.nil_inv h]; rfl
  | p :: ps, vs, h => by
    obtain ⟨v, r, rfl, _, h2⟩ := Reps.cons_inv h
    rw [List.length_cons, List.length_cons, Reps.length h2]
theorem Reps.iff {C : RC} : ∀ {ps : List PV} {vs : List V}, Reps C ps vs ↔ Paired (fun p v => Rep C p v) ps vs
  | [], vs => ⟨fun h => by rw [Reps.nil_inv h]; exact .nil, fun h => by cases h; rfl⟩
  | p :: ps, vs => ⟨fun h => by
      obtain ⟨v, r, rfl, h1, h2⟩ := Reps.cons_inv h
      exact .cons h1 (Reps.iff.mp h2), fun h => by
      cases h with
      | cons h1 h2 => exact Reps.cons h1 (Reps.iff.mpr h2)⟩
theorem Reps.get {C : RC} : ∀ {ps : List PV} {vs : List V}, Reps C ps vs → ∀ {i : Nat} {p : PV}, ps[i]? = some p → ∃ v, vs[i]? = some v ∧ Rep C p v
  | [], _, _, i, p, e => by simp at e
  | q :: ps, vs, h, i, p, e => by
    obtain ⟨v, r, rfl, h1, h2⟩ := Reps.cons_inv h
    cases i with
    | zero => simp at e; subst e; exact ⟨v, rfl, h1⟩
    | succ i => simp at e; simpa using Reps.get h2 e
theorem Reps.get' {C : RC} : ∀ {ps : List PV} {vs : List V}, Reps C ps vs → ∀ {i : Nat} {v : V}, vs[i]? = some v → ∃ p, ps[i]? = some p ∧ Rep C p v
  | [], _, h, i, v, e => by rw [Reps.nil_inv h] at e; simp at e
  | q :: ps, vs, h, i, v, e => by
    obtain ⟨w, r, rfl, h1, h2⟩ := Reps.cons_inv h
    cases i with
    | zero => simp at e; subst e; exact ⟨q, rfl, h1⟩
    | succ i => simp at e; simpa using Reps.get' h2 e
theorem Reps.append {C : RC} : ∀ {ps qs : List PV} {vs ws : List V}, Reps C ps vs → Reps C qs ws → Reps C (ps ++ qs) (vs ++ ws)
  | [], _, _, _, h, g => by rw [Reps.nil_inv h]; exact g
  | p :: ps, qs, vs, ws, h, g => by
    obtain ⟨v, r, rfl, h1, h2⟩ := Reps.cons_inv h
    exact Reps.cons h1 (Reps.append h2 g)
theorem Reps.take {C : RC} : ∀ {ps : List PV} {vs : List V} (n : Nat), Reps C ps vs → Reps C (ps.take n) (vs.take n)
  | [], _, n, h => by rw [Reps.nil_inv h]; simp; exact Reps.nil
  | p :: ps, vs, n, h => by
    obtain ⟨v, r, rfl, h1, h2⟩ := Reps.cons_inv h
    cases n with
    | zero => exact Reps.nil
    | succ n => exact Reps.cons h1 (Reps.take n h2)
theorem Reps.drop {C : RC} : ∀ {ps : List PV} {vs : List V} (n : Nat), Reps C ps vs → Reps C (ps.drop n) (vs.drop n)
  | [], _, n, h => by rw [Reps.nil_inv h]; simp; exact Reps.nil
  | p :: ps, vs, n, h => by
    obtain ⟨v, r, rfl, h1, h2⟩ := Reps.cons_inv h
    cases n with
    | zero => exact Reps.cons h1 h2
    | succ n => exact Reps.drop n h2
theorem Reps.reverse {C : RC} : ∀ {ps : List PV} {vs : List V}, Reps C ps vs → Reps C ps.reverse vs.reverse
  | [], _, h => by rw [Reps.nil_inv h]; exact Reps.nil
  | p :: ps, vs, h => by
    obtain ⟨v, r, rfl, h1, h2⟩ := Reps.cons_inv h
    rw [List.reverse_cons, List.reverse_cons]
    exact Reps.append (Reps.reverse h2) (Reps.cons h1 Reps.nil)
theorem Reps.dropLast {C : RC} {ps : List PV} {vs : List V} (h : Reps C ps vs) : Reps C ps.dropLast vs.dropLast := by
  rw [List.dropLast_eq_take, List.dropLast_eq_take, h.length]
  exact h.take _
theorem Reps.set {C : RC} {p : PV} {v : V} (hp : Rep C p v) : ∀ {ps : List PV} {vs : List V} (i : Nat), Reps C ps vs → Reps C (ps.set i p) (vs.set i v)
  | [], _, i, h => by rw [Reps.nil_inv h]; simp; exact Reps.nil
  | q :: ps, vs, i, h => by
    obtain ⟨w, r, rfl, h1, h2⟩ := Reps.cons_inv h
    cases i with
    | zero => exact Reps.cons hp h2
    | succ i => exact Reps.cons h1 (Reps.set hp i h2)
theorem Reps.rep {C : RC} {ps : List PV} {vs : List V} (h : Reps C ps vs) : ∀ k : Nat, Reps C (List.replicate k ps).flatten (List.replicate k vs).flatten
  | 0 => Reps.nil
  | k + 1 => by
    rw [List.replicate_succ, List.replicate_succ, List.flatten_cons, List.flatten_cons]
    exact Reps.append h (Reps.rep h k)

/-! ### dicts' entries -/
theorem RepE.length {C : RC} : ∀ {kvs : List (PV × PV)} {es : List DictEntry}, RepE C kvs es → es.length = kvs.length
  | [], _, h => by rw [show _ = [] from h]; rfl
  | (k, x) :: kvs, es, h => by
    obtain ⟨e, r, rfl, _, _, h3⟩ := h
    rw [List.length_cons, List.length_cons, RepE.length h3]
theorem RepE.get {C : RC} : ∀ {kvs : List (PV × PV)} {es : List DictEntry}, RepE C kvs es → ∀ {i : Nat} {p : PV × PV}, kvs[i]? = some p → ∃ e, es[i]? = some e ∧ (∃ u, RelV u e.key ∧ Rep C p.1 u) ∧ ∃ v, RelV v e.val ∧ Rep C p.2 v
  | [], _, _, i, p, e => by simp at e
  | (k, x) :: kvs, es, h, i, p, e => by
    obtain ⟨en, r, rfl, h1, h2, h3⟩ := h
    cases i with
    | zero => simp at e; subst e; exact ⟨en, rfl, h1, h2⟩
    | succ i => simp at e; simpa using RepE.get h3 e
theorem RepE.append {C : RC} : ∀ {kvs ps : List (PV × PV)} {es fs : List DictEntry}, RepE C kvs es → RepE C ps fs → RepE C (kvs ++ ps) (es ++ fs)
  | [], _, _, _, h, g => by rw [show _ = [] from h]; exact g
  | (k, x) :: kvs, ps, es, fs, h, g => by
    obtain ⟨en, r, rfl, h1, h2, h3⟩ := h
    exact ⟨en, r ++ fs, rfl, h1, h2, RepE.append h3 g⟩
theorem RepE.one {C : RC} {k x : PV} {en : DictEntry} (h1 : ∃ u, RelV u en.key ∧ Rep C k u) (h2 : ∃ v, RelV v en.val ∧ Rep C x v) : RepE C [(k, x)] [en] := ⟨en, [], rfl, h1, h2, rfl⟩
/-- the keys as values -/
theorem RepE.keys {C : RC} : ∀ {kvs : List (PV × PV)} {es : List DictEntry}, RepE C kvs es → ∃ us, Vals us (es.map (·.key)) ∧ Reps C (kvs.map (·.1)) us
  | [], _, h => by rw [show _ = [] from h]; exact ⟨[], .nil, Reps.nil⟩
  | (k, x) :: kvs, es, h => by
    obtain ⟨en, r, rfl, ⟨u, hu, h1⟩, _, h3⟩ := h
    obtain ⟨us, q1, q2⟩ := RepE.keys h3
    exact ⟨u :: us, .cons hu q1, Reps.cons h1 q2⟩
theorem RepE.vals {C : RC} : ∀ {kvs : List (PV × PV)} {es : List DictEntry}, RepE C kvs es → ∃ us, Vals us (es.map (·.val)) ∧ Reps C (kvs.map (·.2)) us
  | [], _, h => by rw [show _ = [] from h]; exact ⟨[], .nil, Reps.nil⟩
  | (k, x) :: kvs, es, h => by
    obtain ⟨en, r, rfl, _, ⟨u, hu, h1⟩, h3⟩ := h
    obtain ⟨us, q1, q2⟩ := RepE.vals h3
    exact ⟨u :: us, .cons hu q1, Reps.cons h1 q2⟩

/-! ### in the heap -/
section
variable {X : Cx} {pins : List (Addr × Obj)} {σ : L2.St} {H : Hp} {s : Shared} {C : RC}
theorem Kn.at (I : Inv X pins σ H s) (hK : C.K = X.K) (hF : SubH C H) {a : Addr} {ob : Obj} (h : Kn C a ob) : s.heap.get? a = some ob := by
  rcases h with h | h
  · exact (I.hok a _ (hF _ _ h)).1
  · rw [hK] at h; exact I.kIn a ob h
mutual
theorem Rep.reads (I : Inv X pins σ H s) (hK : C.K = X.K) (hF : SubH C H) : ∀ (p : PV) (v : V) (u : Value), p.plain = true → Rep C p v → RelV v u → ∃ as, Reads s.heap u p.toD as
  | .non, _, _, _, h, r => by cases (show _ = V.non from h); cases r; exact ⟨_, .none⟩
  | .bl b, _, _, _, h, r => by cases (show _ = V.bl b from h); cases r; exact ⟨_, .bool b⟩
  | .int i, _, _, _, h, r => by cases (show _ = V.int i from h); obtain ⟨t, rfl⟩ := r; exact ⟨_, .int i t⟩
  | .str i, _, _, _, h, r => by cases (show _ = V.str i from h); obtain ⟨t, rfl⟩ := r; exact ⟨_, .str i t⟩
  | .tup xs, _, _, hp, h, r => by
    obtain ⟨a, vs, rfl, hs, hr⟩ := h
    cases r
    rw [hK] at hs
    obtain ⟨its, rv, ⟨o, ho, hc, n, hd⟩, _⟩ := I.tuple (sqT_le hF hs)
    obtain ⟨as, q⟩ := Reps.reads I hK hF xs vs its (by rw [PV.plain] at hp; exact hp) hr rv
    exact ⟨_, .tuple ho hc hd q⟩
  | .lst xs, _, _, hp, h, r => by
    obtain ⟨a, vs, rfl, hs, hr⟩ := h
    cases r
    obtain ⟨its, rv, ⟨o, n, ho, hc, _, hd⟩, _⟩ := I.list (.of (hF _ _ hs))
    obtain ⟨as, q⟩ := Reps.reads I hK hF xs vs its (by rw [PV.plain] at hp; exact hp) hr rv
    exact ⟨_, .list ho hc hd q⟩
  | .dct _, _, _, hp, _, _ => by rw [PV.plain] at hp; cases hp
  | .cup, _, _, hp, _, _ => by rw [PV.plain] at hp; cases hp
  | .fn _, _, _, hp, _, _ => by rw [PV.plain] at hp; cases hp
  | .scr _, _, _, hp, _, _ => by rw [PV.plain] at hp; cases hp
theorem Reps.reads (I : Inv X pins σ H s) (hK : C.K = X.K) (hF : SubH C H) : ∀ (ps : List PV) (vs : List V) (us : List Value), PV.plains ps = true → Reps C ps vs → Vals vs us → ∃ as, ReadsAll s.heap us (PV.toDs ps) as
  | [], _, _, _, h, r => by rw [Reps.nil_inv h] at r; cases r; exact ⟨_, .nil⟩
  | p :: ps, vs, us, hp, h, r => by
    rw [PV.plains, Bool.and_eq_true] at hp
    obtain ⟨v, t, rfl, h1, h2⟩ := Reps.cons_inv h
    cases r with
    | cons r1 r2 =>
      obtain ⟨as, q1⟩ := Rep.reads I hK hF p v _ hp.1 h1 r1
      obtain ⟨bs, q2⟩ := Reps.reads I hK hF ps t _ hp.2 h2 r2
      exact ⟨_, .cons q1 q2⟩
end
mutual
theorem Rep.nested (I : Inv X pins σ H s) (hK : C.K = X.K) (hF : SubH C H) : ∀ (p : PV) (v : V) (u : Value), p.keyOk = true → Rep C p v → RelV v u → NestedIs s.heap p.nk u
  | .non, _, _, _, h, r => by cases (show _ = V.non from h); cases r; exact .none
  | .int i, _, _, _, h, r => by cases (show _ = V.int i from h); obtain ⟨t, rfl⟩ := r; exact .int i t
  | .str i, _, _, _, h, r => by cases (show _ = V.str i from h); obtain ⟨t, rfl⟩ := r; exact .text i t
  | .tup xs, _, _, hp, h, r => by
    obtain ⟨a, vs, rfl, hs, hr⟩ := h
    cases r
    rw [hK] at hs
    obtain ⟨its, rv, ⟨o, ho, hc, n, hd⟩, _⟩ := I.tuple (sqT_le hF hs)
    exact .tup ho hc hd (Reps.nested I hK hF xs vs its (by rw [PV.keyOk] at hp; exact hp) hr rv)
  | .bl _, _, _, hp, _, _ => by rw [PV.keyOk] at hp; cases hp
  | .lst _, _, _, hp, _, _ => by rw [PV.keyOk] at hp; cases hp
  | .dct _, _, _, hp, _, _ => by rw [PV.keyOk] at hp; cases hp
  | .cup, _, _, hp, _, _ => by rw [PV.keyOk] at hp; cases hp
  | .fn _, _, _, hp, _, _ => by rw [PV.keyOk] at hp; cases hp
  | .scr _, _, _, hp, _, _ => by rw [PV.keyOk] at hp; cases hp
theorem Reps.nested (I : Inv X pins σ H s) (hK : C.K = X.K) (hF : SubH C H) : ∀ (ps : List PV) (vs : List V) (us : List Value), PV.keyOks ps = true → Reps C ps vs → Vals vs us → NestedAll s.heap (PV.nks ps) us
  | [], _, _, _, h, r => by rw [Reps.nil_inv h] at r; cases r; exact .nil
  | p :: ps, vs, us, hp, h, r => by
    rw [PV.keyOks, Bool.and_eq_true] at hp
    obtain ⟨v, t, rfl, h1, h2⟩ := Reps.cons_inv h
    cases r with
    | cons r1 r2 => exact .cons (Rep.nested I hK hF p v _ hp.1 h1 r1) (Reps.nested I hK hF ps t _ hp.2 h2 r2)
end
end
end Py
end

section
set_option Elab.async false
set_option linter.all false
set_option autoImplicit false
set_option maxRecDepth 100000
/-! The state of the small language beside that of the hand layer; the readings of its expressions. -/
namespace Py
open PySem PySem.Spec PyProof.Rows L2

/-- a list or a dict that one slot alone holds -/
def OwnR (C : RC) (H : Hp) : PV → Addr → Prop
  | .lst xs, a => ∃ vs, H a = some (.lst vs) ∧ Reps C xs vs
  | .dct kvs, a => ∃ ob es, H a = some (.ext (IsOb a ob)) ∧ DOb C.w a ob es kvs ∧ RepE C kvs es
  | _, _ => False
/-- a value that is read at once: its parts are shared, itself it may be a slot's own -/
def SRep (C : RC) (H : Hp) : PV → V → Prop
  | .lst xs, v => ∃ a vs, v = .ref a ∧ H a = some (.lst vs) ∧ Reps C xs vs
  | .dct kvs, v => ∃ a ob es, v = .ref a ∧ (H a = some (.ext (IsOb a ob)) ∨ C.K.lookup a = some ob) ∧ DOb C.w a ob es kvs ∧ RepE C kvs es
  | p, v => Rep C p v
theorem Rep.s {C : RC} {H : Hp} (hF : SubH C H) {p : PV} {v : V} (h : Rep C p v) : SRep C H p v := by
  cases p with
  | lst xs =>
    obtain ⟨a, vs, e, hs, hr⟩ := h
    exact ⟨a, vs, e, hF _ _ hs, hr⟩
  | dct kvs =>
    obtain ⟨a, ob, es, e, hk, hd, hr⟩ := h
    exact ⟨a, ob, es, e, hk.imp (hF _ _) id, hd, hr⟩
  | _ => exact h
theorem OwnR.s {C : RC} {H : Hp} {p : PV} {a : Addr} (h : OwnR C H p a) : SRep C H p (.ref a) := by
  cases p with
  | lst xs =>
    obtain ⟨vs, e, hr⟩ := h
    exact ⟨a, vs, rfl, e, hr⟩
  | dct kvs =>
    obtain ⟨ob, es, e, hd, hr⟩ := h
    exact ⟨a, ob, es, rfl, .inl e, hd, hr⟩
  | _ => exact h.elim
theorem OwnR.some {C : RC} {H : Hp} {p : PV} {a : Addr} (h : OwnR C H p a) : ∃ o, H a = Option.some o := by
  cases p with
  | lst xs => obtain ⟨vs, e, _⟩ := h; exact ⟨_, e⟩
  | dct kvs => obtain ⟨ob, es, e, _⟩ := h; exact ⟨_, e⟩
  | _ => exact h.elim
theorem OwnR.le {C C' : RC} (l : C.Le C') {H H' : Hp} {p : PV} {a : Addr} (h : OwnR C H p a) (e : H' a = H a) : OwnR C' H' p a := by
  cases p with
  | lst xs => obtain ⟨vs, q, hr⟩ := h; exact ⟨vs, e.trans q, Reps.le l _ _ hr⟩
  | dct kvs => obtain ⟨ob, es, q, hd, hr⟩ := h; exact ⟨ob, es, e.trans q, by rw [l.w]; exact hd, RepE.le l _ _ hr⟩
  | _ => exact h.elim
/-- what a slot's own becomes when it is shared -/
theorem OwnR.share {C : RC} {H : Hp} {p : PV} {a : Addr} (h : OwnR C H p a) {C' : RC} (l : C.Le C') (e : C'.F a = H a) : Rep C' p (.ref a) := by
  cases p with
  | lst xs => obtain ⟨vs, q, hr⟩ := h; exact ⟨a, vs, rfl, e.trans q, Reps.le l _ _ hr⟩
  | dct kvs => obtain ⟨ob, es, q, hd, hr⟩ := h; exact ⟨a, ob, es, rfl, .inl (e.trans q), by rw [l.w]; exact hd, RepE.le l _ _ hr⟩
  | _ => exact h.elim

structure Rel (C : RC) (st : St) (σ : L2.St) (H : Hp) : Prop where
  sub : SubH C H
  len : st.env.length = σ.length
  slot : ∀ (i : Nat) (p : PV), st.env[i]? = some (Slot.val p) → ∃ v, σ[i]? = some (some v) ∧ Rep C p v
  own : ∀ (i : Nat) (p : PV), st.env[i]? = some (Slot.own p) → ∃ a, σ[i]? = some (some (V.ref a)) ∧ C.F a = none ∧ C.cp ≠ some a ∧ OwnR C H p a
  apart : ∀ (i j : Nat) (p q : PV) (a : Addr), st.env[i]? = some (Slot.own p) → st.env[j]? = some (Slot.own q) → σ[i]? = some (some (V.ref a)) → σ[j]? = some (some (V.ref a)) → i = j
  cup : ∀ x y, st.cup = some (x, y) → ∃ c, C.cp = some c ∧ H c = some (.lst [.int x, .int y])
  nocup : st.cup = none → C.cp = none
  cpf : ∀ c, C.cp = some c → C.F c = none
/-- the object at b is a slot's own -/
def Ow (st : St) (σ : L2.St) (b : Addr) : Prop := ∃ (i : Nat) (p : PV), st.env[i]? = some (Slot.own p) ∧ σ[i]? = some (some (V.ref b))
/-- what an expression's run leaves as it was -/
structure Loc (C : RC) (st : St) (σ : L2.St) (H : Hp) (C' : RC) (st' : St) (H' : Hp) : Prop where
  le : C.Le C'
  keep : ∀ b o, H b = some o → ¬ Ow st σ b → C.cp ≠ some b → H' b = some o
  there : ∀ b o, H b = some o → ∃ o', H' b = some o'
  fnew : ∀ b o, C'.F b = some o → C.F b = some o ∨ H b = none ∨ Ow st σ b
  cnew : ∀ c, C'.cp = some c → C.cp = some c ∨ H c = none
  ow : ∀ b, Ow st' σ b → Ow st σ b
theorem Rel.cpt {C : RC} {st : St} {σ : L2.St} {H : Hp} (R : Rel C st σ H) {c : Addr} (h : C.cp = some c) : ∃ o, H c = some o := by
  cases e : st.cup with
  | none => rw [R.nocup e] at h; cases h
  | some q =>
    obtain ⟨x, y⟩ := q
    obtain ⟨c', h1, h2⟩ := R.cup x y e
    rw [h] at h1; cases h1
    exact ⟨_, h2⟩
theorem Loc.refl {C : RC} {st : St} {σ : L2.St} {H : Hp} : Loc C st σ H C st H := ⟨.refl C, fun _ _ h _ _ => h, fun _ o h => ⟨o, h⟩, fun _ _ h => .inl h, fun _ h => .inl h, fun _ h => h⟩
theorem Loc.trans {C C1 C2 : RC} {st st1 st2 : St} {σ : L2.St} {H H1 H2 : Hp} (a : Loc C st σ H C1 st1 H1) (b : Loc C1 st1 σ H1 C2 st2 H2) : Loc C st σ H C2 st2 H2 := by
  have cne : ∀ {x o}, H x = some o → C.cp ≠ some x → C1.cp ≠ some x := fun {x o} h hc e => by
    rcases a.cnew x e with q | q
    · exact hc q
    · rw [h] at q; cases q
  have free : ∀ x, H1 x = none → H x = none := fun x h1 => by
    cases hx : H x with
    | none => rfl
    | some o =>
      obtain ⟨o', e⟩ := a.there x o hx
      rw [h1] at e; cases e
  refine ⟨a.le.trans b.le, fun x o h hw hc => b.keep x o (a.keep x o h hw hc) (fun q => hw (a.ow x q)) (cne h hc), fun x o h => ?_, fun x o h => ?_, fun c h => ?_, fun x h => a.ow x (b.ow x h)⟩
  · obtain ⟨o', e⟩ := a.there x o h
    exact b.there x o' e
  · rcases b.fnew x o h with q | q | q
    · exact a.fnew x o q
    · exact .inr (.inl (free x q))
    · exact .inr (.inr (a.ow x q))
  · rcases b.cnew c h with q | q
    · exact a.cnew c q
    · exact .inr (free c q)

/-! ### new shared objects -/
/-- the heap grows, and so may what is shared -/
structure Grow (C : RC) (H : Hp) (C' : RC) (H' : Hp) : Prop where
  le : C.Le C'
  cp : C'.cp = C.cp
  keep : ∀ b o, H b = some o → H' b = some o
  fnew : ∀ b o, C'.F b = some o → C.F b = some o ∨ H b = none
  sub : SubH C' H'
theorem Grow.refl {C : RC} {H : Hp} (h : SubH C H) : Grow C H C H := ⟨.refl C, rfl, fun _ _ h => h, fun _ _ h => .inl h, h⟩
theorem Grow.trans {C C1 C2 : RC} {H H1 H2 : Hp} (a : Grow C H C1 H1) (b : Grow C1 H1 C2 H2) : Grow C H C2 H2 :=
  ⟨a.le.trans b.le, b.cp.trans a.cp, fun x o h => b.keep x o (a.keep x o h), fun x o h => by
    rcases b.fnew x o h with q | q
    · exact a.fnew x o q
    · refine .inr ?_
      cases hx : H x with
      | none => rfl
      | some o' => exact (nomatch ((a.keep x o' hx).symm.trans q)), b.sub⟩
theorem Grow.rel {C C' : RC} {st : St} {σ : L2.St} {H H' : Hp} (g : Grow C H C' H') (R : Rel C st σ H) : Rel C' st σ H' := by
  have nf : ∀ a o, H a = some o → C.F a = none → C'.F a = none := fun a o h hn => by
    cases e : C'.F a with
    | none => rfl
    | some u =>
      rcases g.fnew a u e with q | q
      · rw [hn] at q; cases q
      · rw [h] at q; cases q
  refine ⟨g.sub, R.len, fun i p h => ?_, fun i p h => ?_, R.apart, fun x y h => ?_, fun h => g.cp.trans (R.nocup h), fun c h => ?_⟩
  · obtain ⟨v, e, r⟩ := R.slot i p h
    exact ⟨v, e, Rep.le g.le _ _ r⟩
  · obtain ⟨a, e, h1, h2, h3⟩ := R.own i p h
    obtain ⟨o, ho⟩ := h3.some
    exact ⟨a, e, nf a o ho h1, by rw [g.cp]; exact h2, h3.le g.le ((g.keep a o ho).trans ho.symm)⟩
  · obtain ⟨c, h1, h2⟩ := R.cup x y h
    exact ⟨c, g.cp.trans h1, g.keep _ _ h2⟩
  · rw [g.cp] at h
    obtain ⟨o, ho⟩ := R.cpt h
    exact nf c o ho (R.cpf c h)
theorem Grow.loc {C C' : RC} {st : St} {σ : L2.St} {H H' : Hp} (g : Grow C H C' H') : Loc C st σ H C' st H' :=
  ⟨g.le, fun b o h _ _ => g.keep b o h, fun b o h => ⟨o, g.keep b o h⟩, fun b o h => (g.fnew b o h).imp id .inl, fun c h => .inl (g.cp ▸ h), fun _ h => h⟩
/-- a new object at p that is shared -/
theorem Grow.new {C : RC} {H : Hp} (hF : SubH C H) {p : Addr} (hp : H p = none) (o : HO) : Grow C H { C with F := upd C.F p o } (upd H p o) := by
  have hFp : C.F p = none := by
    cases e : C.F p with
    | none => rfl
    | some u => have := hF p u e; rw [hp] at this; cases this
  refine ⟨⟨rfl, rfl, fun b u e => ?_, fun _ h => h⟩, rfl, fun b u e => ?_, fun b u e => ?_, fun b u e => ?_⟩
  · show upd C.F p o b = some u
    rw [upd_ne (ne_of_none e hFp)]; exact e
  · rw [upd_ne (ne_of_none e hp)]; exact e
  · by_cases hb : b = p
    · subst hb; exact .inr hp
    · rw [show ({ C with F := upd C.F p o } : RC).F b = C.F b from upd_ne hb] at e; exact .inl e
  · by_cases hb : b = p
    · subst hb
      rw [show ({ C with F := upd C.F b o } : RC).F b = some o from upd_same] at e
      cases e; exact upd_same
    · rw [show ({ C with F := upd C.F p o } : RC).F b = C.F b from upd_ne hb] at e
      rw [upd_ne hb]; exact hF b u e
/-- a new object at p that is not shared yet -/
theorem Grow.newOwn {C : RC} {H : Hp} (hF : SubH C H) {p : Addr} (hp : H p = none) (o : HO) : Grow C H C (upd H p o) :=
  ⟨.refl C, rfl, fun b u e => by rw [upd_ne (ne_of_none e hp)]; exact e, fun _ _ h => .inl h, fun b u e => by
    have := hF b u e
    rw [upd_ne (ne_of_none this hp)]; exact this⟩
/-- an unshared object that no slot holds becomes shared -/
theorem Grow.share {C : RC} {H0 H : Hp} (hF : SubH C H) {a : Addr} {o : HO} (h : H a = some o) (h0 : C.F a = none) (h1 : ∀ b o, H0 b = some o → H b = some o) (h2 : H0 a = none) :
    Grow C H0 { C with F := upd C.F a o } H := by
  refine ⟨⟨rfl, rfl, fun b u e => ?_, fun _ h => h⟩, rfl, h1, fun b u e => ?_, fun b u e => ?_⟩
  · show upd C.F a o b = some u
    rw [upd_ne (ne_of_none e h0)]; exact e
  · by_cases hb : b = a
    · subst hb; exact .inr h2
    · rw [show ({ C with F := upd C.F a o } : RC).F b = C.F b from upd_ne hb] at e; exact .inl e
  · by_cases hb : b = a
    · subst hb
      rw [show ({ C with F := upd C.F b o } : RC).F b = some o from upd_same] at e
      cases e; exact h
    · rw [show ({ C with F := upd C.F a o } : RC).F b = C.F b from upd_ne hb] at e; exact hF b u e
end Py
end

section
set_option Elab.async false
set_option linter.all false
set_option autoImplicit false
set_option maxRecDepth 100000
/-! Readings of expressions, argument lists, operations. -/
namespace Py
open PySem PySem.Spec PyProof.Rows L2

structure GP where
  Φ : Calls
  ff : Nat → Bool
  K : PySem.W.Frag
  w : World

def isBor : E → Bool
  | .bor _ => true
  | _ => false
def noBor (es : List E) : Bool := es.all fun e => !isBor e
/-- what a run hands on: a borrowed slot's value; something new; something shared -/
def ResV (ff : Nat → Bool) (C' : RC) (H : Hp) (H' : Hp) (σ : L2.St) (e : E) (p : PV) (v : V) : Prop :=
  match e with
  | .bor i => SRep C' H' p v ∧ σ[i]? = some (some v)
  | e => if freshE ff e = true then ∃ a, v = .ref a ∧ H a = none ∧ C'.F a = none ∧ C'.cp ≠ some a ∧ OwnR C' H' p a else Rep C' p v
def rd (G : GP) (e : E) : TE := fun σ H Q => ∃ C st p st', C.K = G.K ∧ C.w = G.w ∧ Rel C st σ H ∧ ev G.Φ e st = .ok (p, st') ∧
  ∀ v C' H', Loc C st σ H C' st' H' → Rel C' st' σ H' → ResV G.ff C' H H' σ e p v → Q v H'
/-- .. with a shared value -/
def rdR (G : GP) (e : E) : TE := fun σ H Q => ∃ C st p st', C.K = G.K ∧ C.w = G.w ∧ Rel C st σ H ∧ ev G.Φ e st = .ok (p, st') ∧
  ∀ v C' H', Loc C st σ H C' st' H' → Rel C' st' σ H' → Rep C' p v → Q v H'
def rdT (G : GP) (e : E) : TT := fun σ H Q => ∃ C st b st', C.K = G.K ∧ C.w = G.w ∧ Rel C st σ H ∧ ev G.Φ e st = .ok (.bl b, st') ∧
  ∀ C' H', Loc C st σ H C' st' H' → Rel C' st' σ H' → Q b H'
theorem _root_.L2.PE.imp {X : Cx} {e : Expr} {t t' : TE} (h : PE X e t) (i : ∀ σ H Q, t' σ H Q → t σ H Q) : PE X e t' := ⟨fun pins s σ H Q I q => h.run pins s σ H Q I (i σ H Q q)⟩
theorem _root_.L2.PT.imp {X : Cx} {e : Expr} {t t' : TT} (h : PT X e t) (i : ∀ σ H Q, t' σ H Q → t σ H Q) : PT X e t' := ⟨fun pins s σ H Q I q => h.run pins s σ H Q I (i σ H Q q)⟩
theorem _root_.L2.PW.imp {X : Cx} {e : Expr} {t t' : TT} (h : PW X e t) (i : ∀ σ H Q, t' σ H Q → t σ H Q) : PW X e t' := ⟨fun wh pins s σ H Q I q => h.run wh pins s σ H Q I (i σ H Q q)⟩
theorem _root_.L2.PA.imp {X : Cx} {es : List Expr} {t t' : TA} (h : PA X es t) (i : ∀ σ H Q, t' σ H Q → t σ H Q) : PA X es t' := ⟨fun pos pins s σ H Q I q => h.run pos pins s σ H Q I (i σ H Q q)⟩
theorem _root_.L2.PS.imp {X : Cx} {st : Stmt} {t t' : TS} (h : PS X st t) (i : ∀ D σ H, t' D σ H → t D σ H) : PS X st t' := ⟨fun pins s σ H D I q => h.run pins s σ H D I (i D σ H q)⟩
theorem _root_.L2.PSs.imp {X : Cx} {st : List Stmt} {t t' : TS} (h : PSs X st t) (i : ∀ D σ H, t' D σ H → t D σ H) : PSs X st t' := ⟨fun pins s σ H D I q => h.run pins s σ H D I (i D σ H q)⟩
theorem _root_.L2.PI.imp {X : Cx} {tg it : Expr} {t t' : TI} (h : PI X tg it t) (i : ∀ σ H R, t' σ H R → t σ H R) : PI X tg it t' := ⟨fun pins s σ H R I q => h.run pins s σ H R I (i σ H R q)⟩

/-- what is new becomes shared -/
theorem res_share {ff : Nat → Bool} {C C' : RC} {st st' : St} {σ : L2.St} {H H' : Hp} {e : E} {p : PV} {v : V} (hb : isBor e = false) (R : Rel C st σ H) (L : Loc C st σ H C' st' H') (R' : Rel C' st' σ H') (h : ResV ff C' H H' σ e p v) :
    ∃ C'', Loc C st σ H C'' st' H' ∧ Rel C'' st' σ H' ∧ Rep C'' p v ∧ C'.Le C'' := by
  have h' : if freshE ff e = true then ∃ a, v = .ref a ∧ H a = none ∧ C'.F a = none ∧ C'.cp ≠ some a ∧ OwnR C' H' p a else Rep C' p v := by
    cases e <;> first | exact h | (exact absurd hb (by simp [isBor]))
  clear h
  split at h'
  · obtain ⟨a, rfl, h0, hF, hc, ho⟩ := h'
    obtain ⟨o, e1⟩ := ho.some
    have le : C'.Le { C' with F := upd C'.F a o } := ⟨rfl, rfl, fun b u e => by
      show upd C'.F a o b = some u
      rw [upd_ne (ne_of_none e hF)]; exact e, fun _ h => h⟩
    have Fe : ∀ b, b ≠ a → ({ C' with F := upd C'.F a o } : RC).F b = C'.F b := fun b hb => upd_ne hb
    have Fa : ({ C' with F := upd C'.F a o } : RC).F a = some o := upd_same
    have nown : ∀ (i : Nat) (q : PV) (b : Addr), st'.env[i]? = some (Slot.own q) → σ[i]? = some (some (V.ref b)) → b ≠ a := fun i q b h1 h2 => by
      obtain ⟨j, q', h3, h4⟩ := L.ow b ⟨i, q, h1, h2⟩
      obtain ⟨b', h5, _, _, h6⟩ := R.own j q' h3
      rw [h4] at h5
      cases h5
      obtain ⟨u, h7⟩ := h6.some
      exact ne_of_none h7 h0
    refine ⟨{ C' with F := upd C'.F a o }, ⟨L.le.trans le, L.keep, L.there, fun b u e => ?_, L.cnew, L.ow⟩, ⟨fun b u e => ?_, R'.len, fun i q hq => ?_, fun i q hq => ?_, R'.apart, R'.cup, R'.nocup, fun c hcc => ?_⟩, ho.share le (Fa.trans e1.symm), le⟩
    · by_cases hb : b = a
      · subst hb; exact .inr (.inl h0)
      · rw [Fe b hb] at e; exact L.fnew b u e
    · by_cases hb : b = a
      · subst hb; rw [Fa] at e; cases e; exact e1
      · rw [Fe b hb] at e; exact R'.sub b u e
    · obtain ⟨w, h1, h2⟩ := R'.slot i q hq
      exact ⟨w, h1, Rep.le le _ _ h2⟩
    · obtain ⟨b, h1, h2, h3, h4⟩ := R'.own i q hq
      exact ⟨b, h1, by rw [Fe b (nown i q b hq h1)]; exact h2, h3, h4.le le rfl⟩
    · have : c ≠ a := fun z => by subst z; exact hc hcc
      rw [Fe c this]; exact R'.cpf c hcc
  · exact ⟨C', L, R', h', .refl _⟩
theorem rd_R {G : GP} {e : E} (hb : isBor e = false) {σ : L2.St} {H : Hp} {Q : VK} (h : rdR G e σ H Q) : rd G e σ H Q := by
  obtain ⟨C, st, p, st', hK, hw, R, he, q⟩ := h
  refine ⟨C, st, p, st', hK, hw, R, he, fun v C' H' L R' r => ?_⟩
  obtain ⟨C'', L2, R2, r2, _⟩ := res_share hb R L R' r
  exact q v C'' H' L2 R2 r2

/-! ### argument lists -/
def AllR (C : RC) (H : Hp) : List E → List PV → List V → Prop
  | [], ps, vs => ps = [] ∧ vs = []
  | e :: es, ps, vs => ∃ p ps' v vs', ps = p :: ps' ∧ vs = v :: vs' ∧ (if isBor e = true then SRep C H p v else Rep C p v) ∧ AllR C H es ps' vs'
def SReps (C : RC) (H : Hp) : List PV → List V → Prop
  | [], vs => vs = []
  | p :: ps, vs => ∃ v vs', vs = v :: vs' ∧ SRep C H p v ∧ SReps C H ps vs'
theorem AllR.s {C : RC} {H : Hp} (hF : SubH C H) : ∀ {es : List E} {ps : List PV} {vs : List V}, AllR C H es ps vs → SReps C H ps vs
  | [], _, _, ⟨rfl, rfl⟩ => rfl
  | e :: es, _, _, ⟨p, ps, v, vs, rfl, rfl, h, t⟩ => by
    refine ⟨v, vs, rfl, ?_, t.s hF⟩
    split at h
    · exact h
    · exact h.s hF
theorem AllR.r {C : RC} {H : Hp} : ∀ {es : List E} {ps : List PV} {vs : List V}, noBor es = true → AllR C H es ps vs → Reps C ps vs
  | [], _, _, _, ⟨rfl, rfl⟩ => rfl
  | e :: es, _, _, hb, ⟨p, ps, v, vs, rfl, rfl, h, t⟩ => by
    have hb' : (!isBor e) = true ∧ noBor es = true := by
      simpa [noBor, List.all_cons, Bool.and_eq_true] using hb
    have e1 : isBor e = false := by simpa using hb'.1
    rw [e1] at h
    exact ⟨v, vs, rfl, h, t.r hb'.2⟩
def rdA (G : GP) (es : List E) : TA := fun σ H Q => ∃ C st ps0 st' ps, C.K = G.K ∧ C.w = G.w ∧ Rel C st σ H ∧ evs G.Φ es st = .ok (ps0, st') ∧ reread es ps0 st' = .ok ps ∧
  ∀ vs C' H', Loc C st σ H C' st' H' → Rel C' st' σ H' → AllR C' H' es ps vs → Q vs H'
theorem slotV_ok {env : List Slot} {i : Nat} {p : PV} (h : slotV env i = .ok p) : env[i]? = some (Slot.val p) ∨ env[i]? = some (Slot.own p) := by
  unfold slotV at h
  cases e : env[i]? with
  | none => rw [e] at h; cases h
  | some s =>
    rw [e] at h
    cases s with
    | unk => cases h
    | val v => cases h; exact .inl rfl
    | own v => cases h; exact .inr rfl
theorem Rel.slotS {C : RC} {st : St} {σ : L2.St} {H : Hp} (R : Rel C st σ H) {i : Nat} {p : PV} (h : slotV st.env i = .ok p) : ∃ v, σ[i]? = some (some v) ∧ SRep C H p v := by
  rcases slotV_ok h with h | h
  · obtain ⟨v, e, r⟩ := R.slot i p h
    exact ⟨v, e, r.s R.sub⟩
  · obtain ⟨a, e, _, _, r⟩ := R.own i p h
    exact ⟨_, e, r.s⟩
theorem bindR {α β : Type} {x : Res α} {f : α → Res β} {b : β} (h : x.bind f = .ok b) : ∃ a, x = .ok a ∧ f a = .ok b := Res.bind_ok h
theorem reread_cons {e : E} {es : List E} {v : PV} {vs : List PV} {st : St} {ps : List PV} (h : reread (e :: es) (v :: vs) st = .ok ps) :
    ∃ p ps', ps = p :: ps' ∧ reread es vs st = .ok ps' ∧ ((isBor e = false ∧ p = v) ∨ ∃ i, e = .bor i ∧ slotV st.env i = .ok p) := by
  have gen : isBor e = false → reread (e :: es) (v :: vs) st = (reread es vs st).bind fun r => .ok (v :: r) := fun hb => by
    cases e <;> first | rfl | exact absurd hb (by simp [isBor])
  cases hb : isBor e with
  | false =>
    rw [gen hb] at h
    obtain ⟨r, h1, h2⟩ := bindR h
    cases h2
    exact ⟨v, r, rfl, h1, .inl ⟨rfl, rfl⟩⟩
  | true =>
    cases e with
    | bor i =>
      have h : ((slotV st.env i).bind fun v => (reread es vs st).bind fun r => Res.ok (v :: r)) = .ok ps := h
      obtain ⟨p, h1, h2⟩ := bindR h
      obtain ⟨r, h3, h4⟩ := bindR h2
      cases h4
      exact ⟨p, r, rfl, h3, .inr ⟨i, rfl, h1⟩⟩
    | _ => exact absurd hb (by simp [isBor])
theorem rdA_nil {G : GP} {σ : L2.St} {H : Hp} {Q : List V → Hp → Prop} (h : rdA G [] σ H Q) : Q [] H := by
  obtain ⟨C, st, ps0, st', ps, hK, hw, R, he, hr, q⟩ := h
  have he : Res.ok ([], st) = Res.ok (ps0, st') := he
  cases he
  have hr : Res.ok [] = Res.ok ps := hr
  cases hr
  exact q [] C H .refl R ⟨rfl, rfl⟩
theorem rdA_cons {G : GP} {e : E} {es : List E} {σ : L2.St} {H : Hp} {Q : List V → Hp → Prop} (h : rdA G (e :: es) σ H Q) : rd G e σ H fun x H1 => rdA G es σ H1 fun xs H2 => Q (x :: xs) H2 := by
  obtain ⟨C, st, ps0, st', ps, hK, hw, R, he, hr, q⟩ := h
  have he : ((ev G.Φ e st).bind fun r => (evs G.Φ es r.2).bind fun q => Res.ok (r.1 :: q.1, q.2)) = Res.ok (ps0, st') := by
    have : evs G.Φ (e :: es) st = ((ev G.Φ e st).bind fun r => (evs G.Φ es r.2).bind fun q => Res.ok (r.1 :: q.1, q.2)) := by rw [evs]
    rw [← this]; exact he
  obtain ⟨⟨p1, st1⟩, h1, he⟩ := bindR he
  obtain ⟨⟨q1, st2⟩, h2, he⟩ := bindR he
  cases he
  obtain ⟨p, ps', rfl, h3, hp⟩ := reread_cons hr
  refine ⟨C, st, p1, st1, hK, hw, R, h1, fun v C1 H1 L1 R1 r1 => ?_⟩
  rcases hp with ⟨hb, rfl⟩ | ⟨i, rfl, hs⟩
  · obtain ⟨C2, L2, R2, r2, _⟩ := res_share hb R L1 R1 r1
    refine ⟨C2, st1, q1, st2, ps', L2.le.k.trans hK, L2.le.w.trans hw, R2, h2, h3, fun vs C3 H3 L3 R3 a => q (v :: vs) C3 H3 (L2.trans L3) R3 ⟨p, ps', v, vs, rfl, rfl, ?_, a⟩⟩
    rw [if_neg (by rw [hb]; exact Bool.false_ne_true)]
    exact Rep.le L3.le _ _ r2
  · have r1 : SRep C1 H1 p1 v ∧ σ[i]? = some (some v) := r1
    refine ⟨C1, st1, q1, st2, ps', L1.le.k.trans hK, L1.le.w.trans hw, R1, h2, h3, fun vs C3 H3 L3 R3 a => q (v :: vs) C3 H3 (L1.trans L3) R3 ⟨p, ps', v, vs, rfl, rfl, ?_, a⟩⟩
    rw [if_pos (show isBor (.bor i) = true from rfl)]
    obtain ⟨v', e', r'⟩ := R3.slotS hs
    rw [r1.2] at e'
    cases e'
    exact r'
def notStar : Expr → Bool
  | .Starred _ _ => false
  | _ => true
theorem star_cons {e : Expr} {es : List Expr} {env : Env} (h : notStar e = true) : starEach (e :: es) env = (false, eval e env) :: starEach es env := by
  cases e <;> first | rfl | exact absurd h (by simp [notStar])
theorem star_any : ∀ {es : List Expr} {env : Env} {pos : Pos}, es.all notStar = true → (backTo pos (starEach es env)).any (·.1) = false
  | [], _, _, _ => rfl
  | e :: es, env, pos, h => by
    rw [List.all_cons, Bool.and_eq_true] at h
    rw [star_cons h.1]
    exact star_any h.2
inductive SndL (G : GP) (X : Cx) : List Expr → List E → Prop
  | nil : SndL G X [] []
  | cons {e : Expr} {es : List Expr} {e' : E} {es' : List E} : notStar e = true → PE X e (rd G e') → SndL G X es es' → SndL G X (e :: es) (e' :: es')
theorem SndL.pa {G : GP} {X : Cx} : ∀ {es : List Expr} {es' : List E}, SndL G X es es' → PA X es (rdA G es')
  | [], _, .nil => pa_nil.imp fun _ _ _ h => rdA_nil h
  | e :: es, _, .cons hs he ht => (pa_cons he ht.pa (star_cons hs)).imp fun _ _ _ h => rdA_cons h
theorem SndL.star {G : GP} {X : Cx} : ∀ {es : List Expr} {es' : List E}, SndL G X es es' → es.all notStar = true
  | [], _, .nil => rfl
  | e :: es, _, .cons hs he ht => by rw [List.all_cons, hs, ht.star]; rfl

/-! ### operations -/
def freshO : Op → Bool
  | .lst => true
  | .cat => true
  | .dct => true
  | .bif .list => true
  | .bif .sorted => true
  | .bif .sortedset => true
  | .bif .dict => true
  | _ => false
/-- an operation's answer -/
def OutR (fr : Bool) (C' : RC) (H H' : Hp) (p : PV) (v : V) : Prop :=
  if fr = true then ∃ a, v = .ref a ∧ H a = none ∧ C'.F a = none ∧ OwnR C' H' p a else Rep C' p v
structure CupH (C : RC) (cup : Option (Int × Int)) (H : Hp) : Prop where
  at_ : ∀ x y, cup = some (x, y) → ∃ c, C.cp = some c ∧ H c = some (.lst [.int x, .int y])
  there : ∀ c, C.cp = some c → ∃ o, H c = some o
/-- the reading of an operation on values: whatever comes grows the heap -/
def UO (G : GP) (o : Op) : List V → Hp → VK → Prop := fun vs H Q => ∃ C ps r cup, C.K = G.K ∧ C.w = G.w ∧ SubH C H ∧ CupH C cup H ∧ SReps C H ps vs ∧ opV cup o ps = .ok r ∧
  ∀ v C' H', Grow C H C' H' → OutR (freshO o) C' H H' r v → Q v H'
def UOr (G : GP) (o : Op) : List V → Hp → VK → Prop := fun vs H Q => ∃ C ps r cup, C.K = G.K ∧ C.w = G.w ∧ SubH C H ∧ CupH C cup H ∧ Reps C ps vs ∧ opV cup o ps = .ok r ∧
  ∀ v C' H', Grow C H C' H' → OutR (freshO o) C' H H' r v → Q v H'
theorem Loc.grow {C C1 C2 : RC} {st st1 : St} {σ : L2.St} {H H1 H2 : Hp} (L : Loc C st σ H C1 st1 H1) (g : Grow C1 H1 C2 H2) : Loc C st σ H C2 st1 H2 := L.trans g.loc
theorem opRes {ff : Nat → Bool} {C C' : RC} {st st1 : St} {σ : L2.St} {H H1 H' : Hp} {o : Op} {es : List E} {p : PV} {v : V} (R : Rel C st σ H) (L : Loc C st σ H C' st1 H1) (g : SubH C' H') (cc : ∀ c, C'.cp = some c → ∃ o, H1 c = some o)
    (h : OutR (freshO o) C' H1 H' p v) : ResV ff C' H H' σ (.op o es) p v := by
  have e : freshE ff (.op o es) = freshO o := by
    cases o with
    | «bif» b => cases b <;> rfl
    | _ => rfl
  show if freshE ff (.op o es) = true then ∃ a, v = .ref a ∧ H a = none ∧ C'.F a = none ∧ C'.cp ≠ some a ∧ OwnR C' H' p a else Rep C' p v
  rw [e]
  unfold OutR at h
  split at h
  · rename_i hf
    rw [if_pos hf]
    obtain ⟨a, h1, h2, h3, h4⟩ := h
    refine ⟨a, h1, ?_, h3, fun z => ?_, h4⟩
    · cases hx : H a with
      | none => rfl
      | some u =>
        obtain ⟨u', q⟩ := L.there a u hx
        rw [h2] at q; cases q
    · obtain ⟨u, q⟩ := cc a z
      rw [h2] at q; cases q
  · rename_i hf
    rw [if_neg hf]
    exact h
theorem Rel.cupH {C : RC} {st : St} {σ : L2.St} {H : Hp} (R : Rel C st σ H) : CupH C st.cup H := ⟨R.cup, fun c h => R.cpt h⟩
theorem op_split {Φ : Calls} {o : Op} {es : List E} {st st' : St} {p : PV} (h : ev Φ (.op o es) st = .ok (p, st')) : ∃ ps0 ps, evs Φ es st = .ok (ps0, st') ∧ reread es ps0 st' = .ok ps ∧ opV st'.cup o ps = .ok p := by
  rw [ev] at h
  obtain ⟨⟨ps0, st1⟩, h1, h⟩ := bindR h
  obtain ⟨ps, h2, h⟩ := bindR h
  obtain ⟨r, h3, h⟩ := bindR h
  cases h
  exact ⟨ps0, ps, h1, h2, h3⟩
/-- an operation's node, by its operands' and its own reading -/
theorem rd_op {G : GP} {o : Op} {es : List E} {σ : L2.St} {H : Hp} {Q : VK} (h : rd G (.op o es) σ H Q) : rdA G es σ H fun vs H1 => UO G o vs H1 Q := by
  obtain ⟨C, st, p, st', hK, hw, R, he, q⟩ := h
  obtain ⟨ps0, ps, h1, h2, h3⟩ := op_split he
  refine ⟨C, st, ps0, st', ps, hK, hw, R, h1, h2, fun vs C1 H1 L1 R1 a => ⟨C1, ps, p, st'.cup, L1.le.k.trans hK, L1.le.w.trans hw, R1.sub, R1.cupH, a.s R1.sub, h3, fun v C2 H2 g out => ?_⟩⟩
  refine q v C2 H2 (L1.grow g) (g.rel R1) (opRes R ⟨L1.le.trans g.le, L1.keep, L1.there, fun b u e => ?_, fun c e => L1.cnew c (g.cp ▸ e), L1.ow⟩ g.sub (fun c e => R1.cpt (g.cp ▸ e)) out)
  exact (L1.grow g).fnew b u e
theorem rd_opR {G : GP} {o : Op} {es : List E} (hb : noBor es = true) {σ : L2.St} {H : Hp} {Q : VK} (h : rd G (.op o es) σ H Q) : rdA G es σ H fun vs H1 => UOr G o vs H1 Q := by
  obtain ⟨C, st, p, st', hK, hw, R, he, q⟩ := h
  obtain ⟨ps0, ps, h1, h2, h3⟩ := op_split he
  refine ⟨C, st, ps0, st', ps, hK, hw, R, h1, h2, fun vs C1 H1 L1 R1 a => ⟨C1, ps, p, st'.cup, L1.le.k.trans hK, L1.le.w.trans hw, R1.sub, R1.cupH, a.r hb, h3, fun v C2 H2 g out => ?_⟩⟩
  refine q v C2 H2 (L1.grow g) (g.rel R1) (opRes R ⟨L1.le.trans g.le, L1.keep, L1.there, fun b u e => ?_, fun c e => L1.cnew c (g.cp ▸ e), L1.ow⟩ g.sub (fun c e => R1.cpt (g.cp ▸ e)) out)
  exact (L1.grow g).fnew b u e
theorem rdA_1 {G : GP} {a : E} {σ : L2.St} {H : Hp} {Q : List V → Hp → Prop} (h : rdA G [a] σ H Q) : rd G a σ H fun x H1 => Q [x] H1 := by
  obtain ⟨C, st, p, st', hK, hw, R, he, q⟩ := rdA_cons h
  exact ⟨C, st, p, st', hK, hw, R, he, fun v C' H' L R' r => rdA_nil (q v C' H' L R' r)⟩
theorem rd_mono {G : GP} {a : E} {σ : L2.St} {H : Hp} {Q Q' : VK} (h : rd G a σ H Q) (i : ∀ v H, Q v H → Q' v H) : rd G a σ H Q' := by
  obtain ⟨C, st, p, st', hK, hw, R, he, q⟩ := h
  exact ⟨C, st, p, st', hK, hw, R, he, fun v C' H' L R' r => i _ _ (q v C' H' L R' r)⟩
theorem rdA_2 {G : GP} {a b : E} {σ : L2.St} {H : Hp} {Q : List V → Hp → Prop} (h : rdA G [a, b] σ H Q) : rd G a σ H fun x H1 => rd G b σ H1 fun y H2 => Q [x, y] H2 :=
  rd_mono (rdA_cons h) fun _ _ h => rdA_1 h
theorem rdA_3 {G : GP} {a b c : E} {σ : L2.St} {H : Hp} {Q : List V → Hp → Prop} (h : rdA G [a, b, c] σ H Q) : rd G a σ H fun x H1 => rd G b σ H1 fun y H2 => rd G c σ H2 fun z H3 => Q [x, y, z] H3 :=
  rd_mono (rdA_cons h) fun _ _ h => rdA_2 h
end Py
end

section
set_option Elab.async false
set_option linter.all false
set_option autoImplicit false
set_option maxRecDepth 100000
/-! The operations: arithmetic, order, membership. -/
namespace Py
open PySem PySem.Spec PyProof.Rows L2

theorem SReps.one {C : RC} {H : Hp} {ps : List PV} {x : V} (h : SReps C H ps [x]) : ∃ p, ps = [p] ∧ SRep C H p x := by
  cases ps with
  | nil => exact nomatch h
  | cons p ps =>
    obtain ⟨v, vs, e, h1, h2⟩ := h
    cases e
    cases ps with
    | nil => exact ⟨p, rfl, h1⟩
    | cons q qs => obtain ⟨_, _, e, _⟩ := h2; cases e
theorem SReps.two {C : RC} {H : Hp} {ps : List PV} {x y : V} (h : SReps C H ps [x, y]) : ∃ p q, ps = [p, q] ∧ SRep C H p x ∧ SRep C H q y := by
  cases ps with
  | nil => exact nomatch h
  | cons p ps =>
    obtain ⟨v, vs, e, h1, h2⟩ := h
    cases e
    obtain ⟨q, rfl, h3⟩ := SReps.one h2
    exact ⟨p, q, rfl, h1, h3⟩
theorem SReps.three {C : RC} {H : Hp} {ps : List PV} {x y z : V} (h : SReps C H ps [x, y, z]) : ∃ p q r, ps = [p, q, r] ∧ SRep C H p x ∧ SRep C H q y ∧ SRep C H r z := by
  cases ps with
  | nil => exact nomatch h
  | cons p ps =>
    obtain ⟨v, vs, e, h1, h2⟩ := h
    cases e
    obtain ⟨q, r, rfl, h3, h4⟩ := SReps.two h2
    exact ⟨p, q, r, rfl, h1, h3, h4⟩
theorem LIM_eq : LIM = sizeLine := by rw [sizeLine_eq]; rfl
theorem reps_len {C : RC} {ps : List PV} {vs : List V} (h : Reps C ps vs) : ps.length = vs.length := h.length.symm
/-- a new shared list, tuple -/
theorem new_lst {C : RC} {H : Hp} (hF : SubH C H) {p : Addr} (hp : H p = none) {vs : List V} {xs : List PV} (hr : Reps C xs vs) :
    ∃ C', Grow C H C' (upd H p (.lst vs)) ∧ Rep C' (.lst xs) (.ref p) :=
  ⟨_, Grow.new hF hp _, p, vs, rfl, upd_same, Reps.le (Grow.new hF hp _).le _ _ hr⟩
theorem new_tup {C : RC} {H : Hp} (hF : SubH C H) {p : Addr} (hp : H p = none) {vs : List V} {xs : List PV} (hr : Reps C xs vs) :
    ∃ C', Grow C H C' (upd H p (.tup vs)) ∧ Rep C' (.tup xs) (.ref p) :=
  ⟨_, Grow.new hF hp _, p, vs, rfl, .of upd_same, Reps.le (Grow.new hF hp _).le _ _ hr⟩
/-- a new list that is nobody's yet -/
theorem own_lst {C : RC} {H : Hp} (hF : SubH C H) {p : Addr} (hp : H p = none) {vs : List V} {xs : List PV} (hr : Reps C xs vs) :
    Grow C H C (upd H p (.lst vs)) ∧ OutR true C H (upd H p (.lst vs)) (.lst xs) (.ref p) := by
  refine ⟨Grow.newOwn hF hp _, ?_⟩
  unfold OutR
  rw [if_pos rfl]
  refine ⟨p, rfl, hp, ?_, vs, upd_same, hr⟩
  cases e : C.F p with
  | none => rfl
  | some u => have := hF p u e; rw [hp] at this; cases this
theorem i_cat {cup : Option (Int × Int)} {p q r : PV} (h : opV cup .cat [p, q] = .ok r) : ∃ xs ys, p = .lst xs ∧ q = .lst ys ∧ xs.length + ys.length ≤ LIM ∧ r = .lst (xs ++ ys) := by
  cases p <;> cases q <;> first | (simp [opV] at h; done) | skip
  obtain ⟨h1, h2⟩ := Res.of_ok (show Res.of _ _ = _ from h)
  exact ⟨_, _, rfl, rfl, of_decide_eq_true h1, (Res.ok.inj h2).symm⟩
theorem i_sub {cup : Option (Int × Int)} {p q r : PV} (h : opV cup .sub [p, q] = .ok r) : ∃ i j, p = .int i ∧ q = .int j ∧ r = .int (i - j) := by
  cases p <;> cases q <;> first | (simp [opV] at h; done) | skip
  exact ⟨_, _, rfl, rfl, (Res.ok.inj h).symm⟩
theorem i_fdiv {cup : Option (Int × Int)} {p q r : PV} (h : opV cup .fdiv [p, q] = .ok r) : ∃ i j, p = .int i ∧ q = .int j ∧ (0 < j ∧ j < 1073741824) ∧ r = .int (i / j) := by
  cases p <;> cases q <;> first | (simp [opV] at h; done) | skip
  obtain ⟨h1, h2⟩ := Res.of_ok (show Res.of _ _ = _ from h)
  simp only [Bool.and_eq_true, decide_eq_true_eq] at h1
  exact ⟨_, _, rfl, rfl, h1, (Res.ok.inj h2).symm⟩
theorem i_mod {cup : Option (Int × Int)} {p q r : PV} (h : opV cup .mod [p, q] = .ok r) : ∃ i j, p = .int i ∧ q = .int j ∧ 0 < j ∧ r = .int (i % j) := by
  cases p <;> cases q <;> first | (simp [opV] at h; done) | skip
  obtain ⟨h1, h2⟩ := Res.of_ok (show Res.of _ _ = _ from h)
  exact ⟨_, _, rfl, rfl, of_decide_eq_true h1, (Res.ok.inj h2).symm⟩
theorem i_pow {cup : Option (Int × Int)} {p q r : PV} (h : opV cup .pow [p, q] = .ok r) : ∃ i j, p = .int i ∧ q = .int j ∧ ((0 ≤ j ∧ j ≤ 1000) ∧ small64 i = true) ∧ r = .int (i ^ j.toNat) := by
  cases p <;> cases q <;> first | (simp [opV] at h; done) | skip
  obtain ⟨h1, h2⟩ := Res.of_ok (show Res.of _ _ = _ from h)
  simp only [Bool.and_eq_true, decide_eq_true_eq] at h1
  exact ⟨_, _, rfl, rfl, h1, (Res.ok.inj h2).symm⟩
theorem i_neg {cup : Option (Int × Int)} {p r : PV} (h : opV cup .neg [p] = .ok r) : ∃ i, p = .int i ∧ r = .int (-i) := by
  cases p <;> first | (simp [opV] at h; done) | skip
  exact ⟨_, rfl, (Res.ok.inj h).symm⟩
section
variable {G : GP} {X : Cx}
theorem u_add (hK : X.K = G.K) : OpR X (binaryOp .Add) (fun x y H Q => UO G .add [x, y] H Q) := by
  intro pins s σ H x y v u Q I rx ry h
  obtain ⟨C, ps, r, cup, eK, ew, hF, hc, hs, ho, q⟩ := h
  obtain ⟨p1, p2, rfl, h1, h2⟩ := hs.two
  replace ho : addV p1 p2 = .ok r := ho
  unfold addV at ho
  split at ho
  · rename_i i j
    cases ho
    exact op_add pins s σ H x y v u Q I rx ry ⟨i, j, h1, h2, q _ C H (.refl hF) rfl⟩
  · rename_i xs ys
    obtain ⟨hl, ho⟩ := Res.of_ok ho
    cases ho
    obtain ⟨a, vs, rfl, k1, r1⟩ := h1
    obtain ⟨b, ws, rfl, k2, r2⟩ := h2
    have ek : C.K = X.K := eK.trans hK.symm
    refine op_catA pins s σ H _ _ v u Q I rx ry ⟨a, b, vs, ws, rfl, rfl, ek ▸ sqT_le hF k1, ek ▸ sqT_le hF k2, ?_, fun e => ?_, fun e1 e2 => ?_, fun _ _ p hp => ?_⟩
    · rw [r1.length, r2.length, ← LIM_eq]; exact of_decide_eq_true hl
    · subst e
      have : xs = [] := List.eq_nil_of_length_eq_zero (by rw [← r1.length]; rfl)
      subst this
      exact q _ C H (.refl hF) ⟨b, ws, rfl, k2, r2⟩
    · subst e2
      have : ys = [] := List.eq_nil_of_length_eq_zero (by rw [← r2.length]; rfl)
      subst this
      exact q _ C H (.refl hF) ⟨a, vs, rfl, k1, by rw [List.append_nil]; exact r1⟩
    · obtain ⟨C', g, rr⟩ := new_tup hF hp (r1.append r2)
      exact q _ C' _ g rr
  · rename_i xs ys
    obtain ⟨hl, ho⟩ := Res.of_ok ho
    cases ho
    obtain ⟨a, vs, rfl, k1, r1⟩ := h1
    obtain ⟨b, ws, rfl, k2, r2⟩ := h2
    refine op_cat pins s σ H _ _ v u Q I rx ry ⟨a, b, vs, ws, rfl, rfl, k1, k2, ?_, fun p hp => ?_⟩
    · rw [r1.length, r2.length, ← LIM_eq]; exact of_decide_eq_true hl
    · obtain ⟨C', g, rr⟩ := new_lst hF hp (r1.append r2)
      exact q _ C' _ g rr
  · cases ho
theorem u_cat : OpR X (binaryOp .Add) (fun x y H Q => UO G .cat [x, y] H Q) := by
  intro pins s σ H x y v u Q I rx ry h
  obtain ⟨C, ps, r, cup, eK, ew, hF, hc, hs, ho, q⟩ := h
  obtain ⟨p1, p2, rfl, h1, h2⟩ := hs.two
  obtain ⟨xs, ys, rfl, rfl, hl, rfl⟩ := i_cat ho
  obtain ⟨a, vs, rfl, k1, r1⟩ := h1
  obtain ⟨b, ws, rfl, k2, r2⟩ := h2
  refine op_cat pins s σ H _ _ v u Q I rx ry ⟨a, b, vs, ws, rfl, rfl, k1, k2, ?_, fun p hp => ?_⟩
  · rw [r1.length, r2.length, ← LIM_eq]; exact hl
  · obtain ⟨g, rr⟩ := own_lst hF hp (r1.append r2)
    exact q _ C _ g rr
theorem u_sub : OpR X (binaryOp .Sub) (fun x y H Q => UO G .sub [x, y] H Q) := by
  intro pins s σ H x y v u Q I rx ry h
  obtain ⟨C, ps, r, cup, eK, ew, hF, hc, hs, ho, q⟩ := h
  obtain ⟨p1, p2, rfl, h1, h2⟩ := hs.two
  obtain ⟨i, j, rfl, rfl, rfl⟩ := i_sub ho
  exact op_sub pins s σ H x y v u Q I rx ry ⟨_, _, h1, h2, q _ C H (.refl hF) rfl⟩
theorem small64_ok {i : Int} (h : small64 i = true) : -(2 ^ 64) < i ∧ i < 2 ^ 64 := by
  unfold small64 at h
  rw [Bool.and_eq_true] at h
  exact ⟨of_decide_eq_true h.1, of_decide_eq_true h.2⟩
theorem u_mul (hK : X.K = G.K) : OpR X (binaryOp .Mult) (fun x y H Q => UO G .mul [x, y] H Q) := by
  intro pins s σ H x y v u Q I rx ry h
  obtain ⟨C, ps, r, cup, eK, ew, hF, hc, hs, ho, q⟩ := h
  obtain ⟨p1, p2, rfl, h1, h2⟩ := hs.two
  replace ho : mulV p1 p2 = .ok r := ho
  unfold mulV at ho
  split at ho
  · rename_i i j
    obtain ⟨hl, ho⟩ := Res.of_ok ho
    cases ho
    rw [Bool.or_eq_true] at hl
    exact op_mul pins s σ H x y v u Q I rx ry ⟨i, j, h1, h2, hl.imp small64_ok small64_ok, q _ C H (.refl hF) rfl⟩
  · rename_i xs k
    obtain ⟨hl, ho⟩ := Res.of_ok ho
    cases ho
    obtain ⟨a, vs, rfl, k1, r1⟩ := h1
    simp only [Bool.and_eq_true, decide_eq_true_eq] at hl
    refine op_rep pins s σ H _ _ v u Q I rx ry ⟨a, k, vs, rfl, h2, k1, by omega, by omega, by rw [r1.length, ← LIM_eq]; exact of_decide_eq_true hl.2, fun p hp => ?_⟩
    obtain ⟨C', g, rr⟩ := new_lst hF hp (r1.rep k.toNat)
    exact q _ C' _ g rr
  · rename_i xs k
    obtain ⟨hl, ho⟩ := Res.of_ok ho
    cases ho
    obtain ⟨a, vs, rfl, k1, r1⟩ := h1
    simp only [Bool.and_eq_true, decide_eq_true_eq, Bool.not_eq_true'] at hl
    have ek : C.K = X.K := eK.trans hK.symm
    refine op_repT pins s σ H _ _ v u Q I rx ry ⟨a, k, vs, rfl, h2, ek ▸ sqT_le hF k1, fun e => ?_, hl.1.1.2, hl.1.2, by rw [r1.length]; exact hl.2, fun p hp => ?_⟩
    · subst e
      have : xs = [] := List.eq_nil_of_length_eq_zero (by rw [← r1.length]; rfl)
      subst this
      exact absurd hl.1.1.1 (by simp)
    · obtain ⟨C', g, rr⟩ := new_tup hF hp (r1.rep k.toNat)
      exact q _ C' _ g rr
  · cases ho
theorem u_fdiv : OpR X (binaryOp .FloorDiv) (fun x y H Q => UO G .fdiv [x, y] H Q) := by
  intro pins s σ H x y v u Q I rx ry h
  obtain ⟨C, ps, r, cup, eK, ew, hF, hc, hs, ho, q⟩ := h
  obtain ⟨p1, p2, rfl, h1, h2⟩ := hs.two
  obtain ⟨i, j, rfl, rfl, hl, rfl⟩ := i_fdiv ho
  exact op_fdiv pins s σ H x y v u Q I rx ry ⟨i, j, h1, h2, hl, q _ C H (.refl hF) rfl⟩
theorem u_mod : OpR X (binaryOp .Mod) (fun x y H Q => UO G .mod [x, y] H Q) := by
  intro pins s σ H x y v u Q I rx ry h
  obtain ⟨C, ps, r, cup, eK, ew, hF, hc, hs, ho, q⟩ := h
  obtain ⟨p1, p2, rfl, h1, h2⟩ := hs.two
  obtain ⟨i, j, rfl, rfl, hl, rfl⟩ := i_mod ho
  exact op_mod pins s σ H x y v u Q I rx ry ⟨i, j, h1, h2, hl, q _ C H (.refl hF) rfl⟩
theorem u_pow : OpR X (binaryOp .Pow) (fun x y H Q => UO G .pow [x, y] H Q) := by
  intro pins s σ H x y v u Q I rx ry h
  obtain ⟨C, ps, r, cup, eK, ew, hF, hc, hs, ho, q⟩ := h
  obtain ⟨p1, p2, rfl, h1, h2⟩ := hs.two
  obtain ⟨i, j, rfl, rfl, hl, rfl⟩ := i_pow ho
  obtain ⟨h3, h4⟩ := small64_ok hl.2
  exact op_pow pins s σ H x y v u Q I rx ry ⟨i, j, h1, h2, ⟨hl.1.1, by omega, by omega⟩, q _ C H (.refl hF) rfl⟩
theorem u_neg : UnR X (unaryOp .USub) (fun x H Q => UO G .neg [x] H Q) := by
  intro pins s σ H x v Q I rx h
  obtain ⟨C, ps, r, cup, eK, ew, hF, hc, hs, ho, q⟩ := h
  obtain ⟨p1, rfl, h1⟩ := hs.one
  obtain ⟨i, rfl, rfl⟩ := i_neg ho
  exact un_neg pins s σ H x v Q I rx ⟨_, h1, q _ C H (.refl hF) rfl⟩
end
end Py
end

section
set_option Elab.async false
set_option linter.all false
set_option autoImplicit false
set_option maxRecDepth 100000
/-! Dicts: the object and its entries as the library's two kinds of dicts. -/
namespace Py
open PySem PySem.Spec PyProof.Rows L2

/-- what is found at a key -/
def FoundR (C : RC) : Option PV → Option Value → Prop
  | some p, some u => ∃ v, RelV v u ∧ Rep C p v
  | none, none => True
  | _, _ => False
theorem FoundR.isSome {C : RC} {a : Option PV} {b : Option Value} (h : FoundR C a b) : b.isSome = a.isSome := by
  cases a <;> cases b <;> first | rfl | exact h.elim
theorem dhas_dget (kvs : List (PV × PV)) (k : PV) : dhas kvs k = (dget kvs k).isSome := by
  induction kvs with
  | nil => rfl
  | cons p kvs ih =>
    unfold dhas dget at ih ⊢
    rw [List.any_cons, List.find?_cons]
    cases p.1.eqv k with
    | true => rfl
    | false => simpa using ih
theorem kOk_ok {kvs : List (PV × PV)} {k : PV} (h : kOk kvs k = true) (kind : ∃ n, n ≤ 2 ∧ ∀ p ∈ kvs, PV.kkind p.1 = n) : k.keyOk = true ∧ k.depth ≤ 8 ∧ k.kkind ≤ 2 ∧ ∀ p ∈ kvs, PV.kkind p.1 = PV.kkind k := by
  unfold kOk at h
  simp only [Bool.and_eq_true, decide_eq_true_eq] at h
  refine ⟨h.1.1.1, h.1.1.2, h.1.2, fun p hp => ?_⟩
  obtain ⟨n, _, hn⟩ := kind
  cases kvs with
  | nil => exact nomatch hp
  | cons q kvs =>
    have h2 : (PV.kkind q.1 == PV.kkind k) = true := h.2
    rw [beq_iff_eq] at h2
    rw [hn p hp, ← hn q List.mem_cons_self, h2]

/-! ### keys that are tuples -/
/-- pairs beside (key, its tuple's address, value) -/
def TRel (C : RC) : List (PV × PV) → List (NestedKey × Addr × Value) → Prop
  | [], ts => ts = []
  | (k, x) :: kvs, ts => ∃ a u r, ts = (k.nk, a, u) :: r ∧ Rep C k (.ref a) ∧ (∃ v, RelV v u ∧ Rep C x v) ∧ TRel C kvs r
theorem TRel.keys {C : RC} : ∀ {kvs : List (PV × PV)} {ts : List (NestedKey × Addr × Value)}, TRel C kvs ts → ts.map (·.1) = kvs.map fun p => p.1.nk
  | [], _, h => by rw [show _ = [] from h]; rfl
  | (k, x) :: kvs, ts, h => by
    obtain ⟨a, u, r, rfl, _, _, h3⟩ := h
    rw [List.map_cons, List.map_cons, TRel.keys h3]
theorem TRel.at {C : RC} {k : PV} : ∀ {kvs : List (PV × PV)} {ts : List (NestedKey × Addr × Value)}, TRel C kvs ts → (∀ p ∈ kvs, (PV.nk p.1 = PV.nk k ↔ p.1.eqv k = true)) → FoundR C (dget kvs k) ((atKey ts k.nk).map (·.2))
  | [], _, h, _ => by rw [show _ = [] from h]; exact True.intro
  | (q, x) :: kvs, ts, h, hk => by
    obtain ⟨a, u, r, rfl, _, h2, h3⟩ := h
    have hq := hk (q, x) List.mem_cons_self
    unfold atKey dget
    rw [List.find?_cons, List.find?_cons]
    by_cases hc : q.nk = k.nk
    · rw [decide_eq_true hc, hq.mp hc]; exact h2
    · have n1 : q.eqv k = false := by
        cases z : q.eqv k with
        | false => rfl
        | true => exact absurd (hq.mpr z) hc
      rw [decide_eq_false hc, n1]
      exact TRel.at h3 fun p hp => hk p (List.mem_cons_of_mem _ hp)
theorem TRel.snoc {C : RC} {k x : PV} {a : Addr} {u : Value} (hk : Rep C k (.ref a)) (hx : ∃ v, RelV v u ∧ Rep C x v) : ∀ {kvs : List (PV × PV)} {ts : List (NestedKey × Addr × Value)}, TRel C kvs ts → TRel C (kvs ++ [(k, x)]) (ts ++ [(k.nk, a, u)])
  | [], _, h => by rw [show _ = [] from h]; exact ⟨a, u, [], rfl, hk, hx, rfl⟩
  | (q, y) :: kvs, ts, h => by
    obtain ⟨b, w, r, rfl, h1, h2, h3⟩ := h
    exact ⟨b, w, _, rfl, h1, h2, TRel.snoc hk hx h3⟩
theorem TRel.put {C : RC} {k x : PV} {u : Value} (hx : ∃ v, RelV v u ∧ Rep C x v) : ∀ {kvs : List (PV × PV)} {ts : List (NestedKey × Addr × Value)}, TRel C kvs ts → (∀ p ∈ kvs, (PV.nk p.1 = PV.nk k ↔ p.1.eqv k = true)) →
    TRel C (kvs.map fun p => if p.1.eqv k = true then (p.1, x) else p) (ts.map (putAt k.nk u))
  | [], _, h, _ => by rw [show _ = [] from h]; rfl
  | (q, y) :: kvs, ts, h, hk => by
    obtain ⟨b, w, r, rfl, h1, h2, h3⟩ := h
    have hq := hk (q, y) List.mem_cons_self
    rw [List.map_cons, List.map_cons]
    have ih := TRel.put hx h3 fun p hp => hk p (List.mem_cons_of_mem _ hp)
    by_cases hc : q.nk = k.nk
    · rw [if_pos (hq.mp hc), show putAt k.nk u (q.nk, b, w) = (q.nk, b, u) from if_pos hc]
      exact ⟨b, u, _, rfl, h1, hx, ih⟩
    · rw [if_neg (fun z => hc (hq.mpr z)), show putAt k.nk u (q.nk, b, w) = (q.nk, b, w) from if_neg hc]
      exact ⟨b, w, _, rfl, h1, h2, ih⟩
theorem TRel.stored {C : RC} {k x : PV} {a : Addr} {u : Value} (hk : Rep C k (.ref a)) (hx : ∃ v, RelV v u ∧ Rep C x v) {kvs : List (PV × PV)} {ts : List (NestedKey × Addr × Value)} (h : TRel C kvs ts) (hi : ∀ p ∈ kvs, (PV.nk p.1 = PV.nk k ↔ p.1.eqv k = true)) :
    TRel C (dset kvs k x) (storedH ts k.nk a u) := by
  have e : (atKey ts k.nk).isSome = dhas kvs k := by
    rw [dhas_dget, ← (h.at hi).isSome, Option.isSome_map]
  unfold dset storedH
  rw [e]
  split
  · exact h.put hx hi
  · exact h.snoc hk hx
/-! ### keys that are numbers, texts -/
structure LK (P : Program) (w : World) (κ : Type) [DecidableEq κ] where
  knd : PySem.KeyKind P w κ
  f : PV → κ
  n : Nat
  is : ∀ {C : RC} {p : PV} {v : V} {u : Value}, p.kkind = n → Rep C p v → RelV v u → knd.is (f p) u = true
  back : ∀ {C : RC} {p : PV} {u : Value}, p.kkind = n → knd.is (f p) u = true → ∃ v, RelV v u ∧ Rep C p v
  iff : ∀ {p q : PV}, p.kkind = n → q.kkind = n → (f p = f q ↔ p.eqv q = true)
  hash : ∀ {p : PV}, p.kkind = n → knd.hash (f p) = p.nk.hash w
  ok : ∀ {p : PV}, p.kkind = n → p.keyOk = true ∧ p.depth ≤ 8
def intLK (P : Program) (w : World) : LK P w Int where
  knd := intKind P w
  f := fun p => match p with | .int i => i | _ => 0
  n := 1
  is := fun {C p v u} hp h r => by
    cases p <;> first | (simp [PV.kkind] at hp; done) | skip
    rename_i i
    cases (show v = V.int i from h); obtain ⟨t, rfl⟩ := r
    show Value.isInt i (.int i t) = true
    simp [Value.isInt]
  back := fun {C p u} hp h => by
    cases p <;> first | (simp [PV.kkind] at hp; done) | skip
    rename_i i
    obtain ⟨t, rfl⟩ := Value.isInt_shape (show Value.isInt i u = true from h)
    exact ⟨.int i, ⟨t, rfl⟩, rfl⟩
  iff := fun {p q} hp hq => by
    cases p <;> first | (simp [PV.kkind] at hp; done) | skip
    cases q <;> first | (simp [PV.kkind] at hq; done) | skip
    simp [PV.eqv]
  hash := fun {p} hp => by
    cases p <;> first | (simp [PV.kkind] at hp; done) | rfl
  ok := fun {p} hp => by
    cases p <;> first | (simp [PV.kkind] at hp; done) | exact ⟨rfl, Nat.zero_le _⟩
def strLK (P : Program) (w : World) : LK P w Str where
  knd := strKind P w
  f := fun p => match p with | .str i => i | _ => Str.empty
  n := 2
  is := fun {C p v u} hp h r => by
    cases p <;> first | (simp [PV.kkind] at hp; done) | skip
    rename_i i
    cases (show v = V.str i from h); obtain ⟨t, rfl⟩ := r
    show Value.isStrOf i (.str i t) = true
    simp [Value.isStrOf]
  back := fun {C p u} hp h => by
    cases p <;> first | (simp [PV.kkind] at hp; done) | skip
    rename_i i
    obtain ⟨t, rfl⟩ := Value.isStrOf_shape (show Value.isStrOf i u = true from h)
    exact ⟨.str i, ⟨t, rfl⟩, rfl⟩
  iff := fun {p q} hp hq => by
    cases p <;> first | (simp [PV.kkind] at hp; done) | skip
    cases q <;> first | (simp [PV.kkind] at hq; done) | skip
    simp [PV.eqv]
  hash := fun {p} hp => by
    cases p <;> first | (simp [PV.kkind] at hp; done) | rfl
  ok := fun {p} hp => by
    cases p <;> first | (simp [PV.kkind] at hp; done) | exact ⟨rfl, Nat.zero_le _⟩
section
variable {κ : Type} [DecidableEq κ] {P : Program} {w : World} (L : LK P w κ)
def PRel (C : RC) : List (PV × PV) → List (κ × Value) → Prop
  | [], ts => ts = []
  | (k, x) :: kvs, ts => ∃ u r, ts = (L.f k, u) :: r ∧ (∃ v, RelV v u ∧ Rep C x v) ∧ PRel C kvs r
variable {L}
theorem PRel.keys {C : RC} : ∀ {kvs : List (PV × PV)} {ts : List (κ × Value)}, PRel L C kvs ts → ts.map (·.1) = kvs.map fun p => L.f p.1
  | [], _, h => by rw [show _ = [] from h]; rfl
  | (k, x) :: kvs, ts, h => by
    obtain ⟨u, r, rfl, _, h3⟩ := h
    rw [List.map_cons, List.map_cons, PRel.keys h3]
theorem PRel.at {C : RC} {k : PV} : ∀ {kvs : List (PV × PV)} {ts : List (κ × Value)}, PRel L C kvs ts → (∀ p ∈ kvs, (L.f p.1 = L.f k ↔ p.1.eqv k = true)) → FoundR C (dget kvs k) (valueAt ts (L.f k))
  | [], _, h, _ => by rw [show _ = [] from h]; exact True.intro
  | (q, x) :: kvs, ts, h, hk => by
    obtain ⟨u, r, rfl, h2, h3⟩ := h
    have hq := hk (q, x) List.mem_cons_self
    unfold valueAt dget
    rw [List.find?_cons, List.find?_cons]
    by_cases hc : L.f q = L.f k
    · rw [decide_eq_true hc, hq.mp hc]; exact h2
    · have n1 : q.eqv k = false := by
        cases z : q.eqv k with
        | false => rfl
        | true => exact absurd (hq.mpr z) hc
      rw [decide_eq_false hc, n1]
      exact PRel.at h3 fun p hp => hk p (List.mem_cons_of_mem _ hp)
theorem PRel.snoc {C : RC} {k x : PV} {u : Value} (hx : ∃ v, RelV v u ∧ Rep C x v) : ∀ {kvs : List (PV × PV)} {ts : List (κ × Value)}, PRel L C kvs ts → PRel L C (kvs ++ [(k, x)]) (ts ++ [(L.f k, u)])
  | [], _, h => by rw [show _ = [] from h]; exact ⟨u, [], rfl, hx, rfl⟩
  | (q, y) :: kvs, ts, h => by
    obtain ⟨w, r, rfl, h2, h3⟩ := h
    exact ⟨w, _, rfl, h2, PRel.snoc hx h3⟩
theorem PRel.put {C : RC} {k x : PV} {u : Value} (hx : ∃ v, RelV v u ∧ Rep C x v) : ∀ {kvs : List (PV × PV)} {ts : List (κ × Value)}, PRel L C kvs ts → (∀ p ∈ kvs, (L.f p.1 = L.f k ↔ p.1.eqv k = true)) →
    PRel L C (kvs.map fun p => if p.1.eqv k = true then (p.1, x) else p) (ts.map fun kv => if kv.1 = L.f k then (kv.1, u) else kv)
  | [], _, h, _ => by rw [show _ = [] from h]; rfl
  | (q, y) :: kvs, ts, h, hk => by
    obtain ⟨w, r, rfl, h2, h3⟩ := h
    have hq := hk (q, y) List.mem_cons_self
    rw [List.map_cons, List.map_cons]
    have ih := PRel.put hx h3 fun p hp => hk p (List.mem_cons_of_mem _ hp)
    by_cases hc : L.f q = L.f k
    · rw [if_pos (hq.mp hc), if_pos hc]
      exact ⟨u, _, rfl, hx, ih⟩
    · rw [if_neg (fun z => hc (hq.mpr z)), if_neg hc]
      exact ⟨w, _, rfl, h2, ih⟩
theorem PRel.stored {C : RC} {k x : PV} {u : Value} (hx : ∃ v, RelV v u ∧ Rep C x v) {kvs : List (PV × PV)} {ts : List (κ × Value)} (h : PRel L C kvs ts) (hi : ∀ p ∈ kvs, (L.f p.1 = L.f k ↔ p.1.eqv k = true)) :
    PRel L C (dset kvs k x) (stored ts (L.f k) u) := by
  have e : (ts.any fun kv => decide (kv.1 = L.f k)) = dhas kvs k := by
    rw [dhas_dget, ← (h.at hi).isSome]
    unfold valueAt
    rw [Option.isSome_map]
    cases e : ts.any fun kv => decide (kv.1 = L.f k) with
    | true => rw [List.find?_isSome.mpr (List.any_eq_true.mp e)]
    | false =>
      cases e2 : (ts.find? fun kv => decide (kv.1 = L.f k)).isSome with
      | false => rfl
      | true =>
        have := List.any_eq_true.mpr (List.find?_isSome.mp e2)
        rw [e] at this; cases this
  unfold dset PySem.stored
  rw [e]
  split
  · exact h.put hx hi
  · exact h.snoc hx
end
/-! ### dset keeps what a dict must have -/
theorem dset_mem {kvs : List (PV × PV)} {k x : PV} {p : PV × PV} (h : p ∈ dset kvs k x) : (∃ q ∈ kvs, p.1 = q.1) ∨ p.1 = k := by
  unfold dset at h
  split at h
  · obtain ⟨q, hq, e⟩ := List.mem_map.mp h
    refine .inl ⟨q, hq, ?_⟩
    split at e
    · rw [← e]
    · rw [← e]
  · rcases List.mem_append.mp h with h | h
    · exact .inl ⟨p, h, rfl⟩
    · rw [List.mem_singleton.mp h]; exact .inr rfl
theorem dset_len (kvs : List (PV × PV)) (k x : PV) : (dset kvs k x).length ≤ kvs.length + 1 := by
  unfold dset
  split
  · rw [List.length_map]; omega
  · rw [List.length_append]; exact Nat.le_refl _
theorem dset_keys (kvs : List (PV × PV)) (k x : PV) : ((dset kvs k x).map fun p => p.1.nk) = if dhas kvs k = true then kvs.map fun p => p.1.nk else (kvs.map fun p => p.1.nk) ++ [k.nk] := by
  unfold dset
  split
  · rw [List.map_map]
    exact List.map_congr_left fun p _ => by
      show (if p.1.eqv k = true then (p.1, x) else p).1.nk = p.1.nk
      split <;> rfl
  · rw [List.map_append]; rfl
theorem dset_nodup {kvs : List (PV × PV)} {k x : PV} (hi : ∀ p ∈ kvs, (PV.nk p.1 = PV.nk k ↔ p.1.eqv k = true)) (hn : (kvs.map fun p => p.1.nk).Nodup) : ((dset kvs k x).map fun p => p.1.nk).Nodup := by
  rw [dset_keys]
  split
  · exact hn
  · rename_i hd
    refine List.nodup_append.mpr ⟨hn, List.pairwise_singleton _ _, fun a ha b hb => ?_⟩
    rw [List.mem_singleton.mp hb]
    obtain ⟨p, hp, rfl⟩ := List.mem_map.mp ha
    intro z
    exact hd (List.any_eq_true.mpr ⟨p, hp, (hi p hp).mp z⟩)

section
variable {X : Cx} {pins : List (Addr × Obj)} {σ : L2.St} {H : Hp} {s : Shared} {C : RC}
theorem ob_at (I : Inv X pins σ H s) (hK : C.K = X.K) {a : Addr} {ob : Obj} (h : H a = some (.ext (IsOb a ob)) ∨ C.K.lookup a = some ob) : s.heap.get? a = some ob := by
  rcases h with h | h
  · exact (I.hok a _ h).1
  · rw [hK] at h; exact I.kIn a ob h
theorem Rep.tupRef {p : PV} {v : V} {u : Value} (ht : p.kkind = 0) (h : Rep C p v) (r : RelV v u) : ∃ b, v = .ref b ∧ u = .ref b := by
  cases p with
  | tup xs => obtain ⟨a, vs, rfl, _, _⟩ := h; exact ⟨a, rfl, r⟩
  | _ => simp [PV.kkind] at ht
theorem build_tup (I : Inv X pins σ H s) (hK : C.K = X.K) (hw : C.w = X.w) (hF : SubH C H) : ∀ {kvs : List (PV × PV)} {es : List DictEntry}, RepE C kvs es → (es.map (·.hash) = kvs.map fun p => (PV.nk p.1).hash C.w) →
    (∀ p ∈ kvs, PV.keyOk p.1 = true ∧ PV.depth p.1 ≤ 8) → (∀ p ∈ kvs, PV.kkind p.1 = 0) →
    ∃ xs : List (NestedKey × Addr × Value), es = xs.map (entryOfKey (nestedKind X.prog X.w)) ∧ (∀ x ∈ xs, (nestedKind X.prog X.w).is s.heap x.1 x.2.1) ∧ TRel C kvs xs
  | [], _, h, _, _, _ => by rw [show _ = [] from h]; exact ⟨[], rfl, (fun _ h => nomatch h), rfl⟩
  | (k, x) :: kvs, es, h, hh, hk, ht => by
    obtain ⟨e, r, rfl, ⟨u, hu, h1⟩, h2, h3⟩ := h
    rw [List.map_cons, List.map_cons] at hh
    obtain ⟨hh1, hh2⟩ := List.cons.inj hh
    obtain ⟨xs, e1, e2, e3⟩ := build_tup I hK hw hF h3 hh2 (fun p hp => hk p (List.mem_cons_of_mem _ hp)) fun p hp => ht p (List.mem_cons_of_mem _ hp)
    have k1 := hk (k, x) List.mem_cons_self
    have t1 := ht (k, x) List.mem_cons_self
    have nst := Rep.nested I hK hF k u _ k1.1 h1 hu
    obtain ⟨b, rfl, hb⟩ := h1.tupRef t1 hu
    obtain ⟨eh, ek, ev⟩ := e
    simp only at hb hh1
    subst hb
    refine ⟨(k.nk, b, ev) :: xs, ?_, fun y hy => ?_, b, ev, xs, rfl, h1, h2, e3⟩
    · rw [List.map_cons, ← e1]
      show _ = (⟨k.nk.hash X.w, .ref b, ev⟩ : DictEntry) :: r
      rw [hh1, hw]
    · rcases List.mem_cons.mp hy with rfl | hy
      · exact ⟨nst, by rw [PV.nk_depth k k1.1]; exact k1.2⟩
      · exact e2 y hy
theorem DOb.tups (I : Inv X pins σ H s) (hK : C.K = X.K) (hw : C.w = X.w) (hF : SubH C H) {a : Addr} {ob : Obj} {es : List DictEntry} {kvs : List (PV × PV)} (hg : s.heap.get? a = some ob) (d : DOb C.w a ob es kvs) (r : RepE C kvs es) (ht : ∀ p ∈ kvs, PV.kkind p.1 = 0) :
    ∃ ts, s.heap.DictOfH (nestedKind X.prog X.w) a ts ∧ TRel C kvs ts := by
  obtain ⟨xs, e1, e2, e3⟩ := build_tup I hK hw hF r d.hash d.keys ht
  obtain ⟨esA, ep, hd, rfl⟩ := d.data
  refine ⟨xs, ⟨ob, esA, ep, hg, d.exact, hd, e1, e2, ?_⟩, e3⟩
  rw [e3.keys]; exact d.nodup
section
variable {κ : Type} [DecidableEq κ] {L : LK X.prog X.w κ}
theorem build_leaf (hw : C.w = X.w) : ∀ {kvs : List (PV × PV)} {es : List DictEntry}, RepE C kvs es → (es.map (·.hash) = kvs.map fun p => (PV.nk p.1).hash C.w) → (∀ p ∈ kvs, PV.kkind p.1 = L.n) →
    ∃ ts, (∀ e ∈ es, ∃ k, L.knd.is k e.key = true ∧ e.hash = L.knd.hash k) ∧ Pairs L.knd es ts ∧ PRel L C kvs ts
  | [], _, h, _, _ => by rw [show _ = [] from h]; exact ⟨[], (fun _ h => nomatch h), .nil, rfl⟩
  | (k, x) :: kvs, es, h, hh, ht => by
    obtain ⟨e, r, rfl, ⟨u, hu, h1⟩, h2, h3⟩ := h
    rw [List.map_cons, List.map_cons] at hh
    obtain ⟨hh1, hh2⟩ := List.cons.inj hh
    obtain ⟨ts, e1, e2, e3⟩ := build_leaf hw h3 hh2 fun p hp => ht p (List.mem_cons_of_mem _ hp)
    have t1 := ht (k, x) List.mem_cons_self
    have is1 := L.is t1 h1 hu
    refine ⟨(L.f k, e.val) :: ts, fun y hy => ?_, .cons is1 rfl e2, e.val, ts, rfl, h2, e3⟩
    rcases List.mem_cons.mp hy with rfl | hy
    · exact ⟨L.f k, is1, by rw [L.hash t1, ← hw]; exact hh1⟩
    · exact e1 y hy
theorem leaf_nodup {kvs : List (PV × PV)} (ht : ∀ p ∈ kvs, PV.kkind p.1 = L.n) (hn : (kvs.map fun p => PV.nk p.1).Nodup) : (kvs.map fun p => L.f p.1).Nodup := by
  induction kvs with
  | nil => exact List.nodup_nil
  | cons q kvs ih =>
    rw [List.map_cons, List.nodup_cons] at hn ⊢
    refine ⟨fun hm => ?_, ih (fun p hp => ht p (List.mem_cons_of_mem _ hp)) hn.2⟩
    obtain ⟨p, hp, e⟩ := List.mem_map.mp hm
    have t1 := ht q List.mem_cons_self
    have t2 := ht p (List.mem_cons_of_mem _ hp)
    exact hn.1 (List.mem_map.mpr ⟨p, hp, (PV.nk_eq_iff (L.ok t2).1 (L.ok t1).1).mpr ((L.iff t2 t1).mp e)⟩)
theorem DOb.leafs (hw : C.w = X.w) {a : Addr} {ob : Obj} {es : List DictEntry} {kvs : List (PV × PV)} (hg : s.heap.get? a = some ob) (d : DOb C.w a ob es kvs) (r : RepE C kvs es) (ht : ∀ p ∈ kvs, PV.kkind p.1 = L.n) :
    ∃ ts, s.heap.DictOf L.knd a ts ∧ PRel L C kvs ts := by
  obtain ⟨ts, e1, e2, e3⟩ := build_leaf (L := L) hw r d.hash ht
  obtain ⟨esA, ep, hd, rfl⟩ := d.data
  refine ⟨ts, ⟨ob, esA, ep, hg, d.exact, hd, fun e he => e1 e (by simpa using he), e2, ?_⟩, e3⟩
  rw [e3.keys]
  exact leaf_nodup (L := L) ht d.nodup
/-- back from the library's dict -/
theorem repE_of_leafs {ts : List (κ × Value)} : ∀ {kvs : List (PV × PV)} {es : List DictEntry}, PRel L C kvs ts → Pairs L.knd es ts → (∀ p ∈ kvs, PV.kkind p.1 = L.n) → RepE C kvs es := by
  intro kvs
  induction kvs generalizing ts with
  | nil =>
    intro es h hp _
    cases (show ts = [] from h)
    cases hp
    rfl
  | cons q kvs ih =>
    intro es h hp ht
    obtain ⟨k, x⟩ := q
    obtain ⟨u, r, rfl, h2, h3⟩ := h
    cases hp with
    | @cons e _ es' _ p1 p2 p3 =>
      obtain ⟨v, hv⟩ := h2
      exact ⟨e, es', rfl, L.back (ht (k, x) List.mem_cons_self) p1, ⟨v, by rw [p2]; exact hv.1, hv.2⟩, ih h3 p3 fun p hp => ht p (List.mem_cons_of_mem _ hp)⟩
theorem hash_of_leafs {ts : List (κ × Value)} : ∀ {kvs : List (PV × PV)} {es : List DictEntry}, PRel L C kvs ts → Pairs L.knd es ts → (∀ p ∈ kvs, PV.kkind p.1 = L.n) → (∀ e ∈ es, ∃ k, L.knd.is k e.key = true ∧ e.hash = L.knd.hash k) → es.map (·.hash) = kvs.map fun p => (PV.nk p.1).hash X.w := by
  intro kvs
  induction kvs generalizing ts with
  | nil =>
    intro es h hp _ _
    cases (show ts = [] from h)
    cases hp
    rfl
  | cons q kvs ih =>
    intro es h hp ht hk
    obtain ⟨k, x⟩ := q
    obtain ⟨u, r, rfl, h2, h3⟩ := h
    cases hp with
    | @cons e _ es' _ p1 p2 p3 =>
      obtain ⟨k', q1, q2⟩ := hk e List.mem_cons_self
      have e1 : k' = L.f k := L.knd.inj _ _ _ q1 p1
      rw [List.map_cons, List.map_cons, ih h3 p3 (fun p hp => ht p (List.mem_cons_of_mem _ hp)) fun y hy => hk y (List.mem_cons_of_mem _ hy), q2, e1, L.hash (ht (k, x) List.mem_cons_self)]
theorem back_leafs (hw : C.w = X.w) {h' : Heap} {a : Addr} {ts : List (κ × Value)} {kvs : List (PV × PV)} (hd : h'.DictOf L.knd a ts) (hr : PRel L C kvs ts) (hs : (a == sysModules) = false) (hl : kvs.length ≤ LIM) (ht : ∀ p ∈ kvs, PV.kkind p.1 = L.n) (hn : L.n ≤ 2) (hnd : (kvs.map fun p => PV.nk p.1).Nodup) :
    ∃ ob es, h'.get? a = some ob ∧ DOb C.w a ob es kvs ∧ RepE C kvs es := by
  obtain ⟨ob, esA, ep, hg, hx, hdat, hk, hp, _⟩ := hd
  have hk' : ∀ e ∈ esA.toList, ∃ k, L.knd.is k e.key = true ∧ e.hash = L.knd.hash k := fun e he => hk e (by simpa using he)
  exact ⟨ob, esA.toList, hg, ⟨hx, ⟨esA, ep, hdat, rfl⟩, hs, hl, fun p hp => L.ok (ht p hp), ⟨L.n, hn, ht⟩, hnd, by rw [hw]; exact hash_of_leafs hr hp ht hk'⟩, repE_of_leafs hr hp ht⟩
end
theorem repE_of_tups {P : Program} {w : World} : ∀ {kvs : List (PV × PV)} {ts : List (NestedKey × Addr × Value)}, TRel C kvs ts → RepE C kvs (ts.map (entryOfKey (nestedKind P w))) ∧ (ts.map (entryOfKey (nestedKind P w))).map (·.hash) = kvs.map fun p => (PV.nk p.1).hash w
  | [], _, h => by rw [show _ = [] from h]; exact ⟨rfl, rfl⟩
  | (k, x) :: kvs, ts, h => by
    obtain ⟨a, u, r, rfl, h1, h2, h3⟩ := h
    obtain ⟨e1, e2⟩ := repE_of_tups (P := P) (w := w) h3
    refine ⟨⟨_, _, rfl, ⟨.ref a, rfl, h1⟩, h2, e1⟩, ?_⟩
    rw [List.map_cons, List.map_cons, List.map_cons, e2]; rfl
theorem back_tups (hw : C.w = X.w) {h' : Heap} {a : Addr} {ts : List (NestedKey × Addr × Value)} {kvs : List (PV × PV)} (hd : h'.DictOfH (nestedKind X.prog X.w) a ts) (hr : TRel C kvs ts) (hs : (a == sysModules) = false) (hl : kvs.length ≤ LIM) (hk : ∀ p ∈ kvs, PV.keyOk p.1 = true ∧ PV.depth p.1 ≤ 8) (ht : ∀ p ∈ kvs, PV.kkind p.1 = 0) (hnd : (kvs.map fun p => PV.nk p.1).Nodup) :
    ∃ ob es, h'.get? a = some ob ∧ DOb C.w a ob es kvs ∧ RepE C kvs es := by
  obtain ⟨ob, esA, ep, hg, hx, hdat, he, _, _⟩ := hd
  obtain ⟨e1, e2⟩ := repE_of_tups (P := X.prog) (w := X.w) hr
  rw [← he] at e1 e2
  exact ⟨ob, esA.toList, hg, ⟨hx, ⟨esA, ep, hdat, rfl⟩, hs, hl, hk, ⟨0, by omega, ht⟩, hnd, by rw [hw]; exact e2⟩, e1⟩
theorem nk_iff {kvs : List (PV × PV)} (hk : ∀ p ∈ kvs, PV.keyOk p.1 = true ∧ PV.depth p.1 ≤ 8) {k : PV} (h : k.keyOk = true) : ∀ p ∈ kvs, (PV.nk p.1 = PV.nk k ↔ p.1.eqv k = true) := fun p hp => PV.nk_eq_iff (hk p hp).1 h
theorem kinds {n : Nat} (h : n ≤ 2) : n = 0 ∨ n = 1 ∨ n = 2 := by omega
end
end Py
end

section
set_option Elab.async false
set_option linter.all false
set_option autoImplicit false
set_option maxRecDepth 100000
/-! What dicts answer. -/
namespace Py
open PySem PySem.Spec PyProof.Rows L2

structure DAt (C : RC) (H : Hp) (a : Addr) (kvs : List (PV × PV)) (ob : Obj) (es : List DictEntry) : Prop where
  at_ : H a = some (.ext (IsOb a ob)) ∨ C.K.lookup a = some ob
  d : DOb C.w a ob es kvs
  r : RepE C kvs es
theorem SRep.dct {C : RC} {H : Hp} {kvs : List (PV × PV)} {v : V} (h : SRep C H (.dct kvs) v) : ∃ a ob es, v = .ref a ∧ DAt C H a kvs ob es := by
  obtain ⟨a, ob, es, e, h1, h2, h3⟩ := h
  exact ⟨a, ob, es, e, h1, h2, h3⟩
section
variable {X : Cx} {pins : List (Addr × Obj)} {σ : L2.St} {H : Hp} {s : Shared} {C : RC} {a : Addr} {kvs : List (PV × PV)} {ob : Obj} {es : List DictEntry} {p : PV} {x : V} {v : Value}
theorem DAt.get (I : Inv X pins σ H s) (ek : C.K = X.K) (D : DAt C H a kvs ob es) : s.heap.get? a = some ob := ob_at I ek D.at_
theorem room8 (hu : X.A.units + 200 < cLine) : (nestedKind X.prog X.w).room X.A.in1 := by show X.A.units + 1 + 8 < cLine; omega
theorem d_in (hu : X.A.units + 200 < cLine) (I : Inv X pins σ H s) (ek : C.K = X.K) (ew : C.w = X.w) (hF : SubH C H) (D : DAt C H a kvs ob es) (hk : kOk kvs p = true) (hp : Rep C p x) (rx : RelV x v) {Q : Value → Shared → Prop}
    (q : ∀ t, Q (.bool (dhas kvs p)) { s with toks := t }) : wpAny (model X.prog X.w) X.A (compareOp .In v (.ref a)) Q X.xe s := by
  obtain ⟨k1, k2, k3, k4⟩ := kOk_ok hk D.d.kind
  have hg := D.get I ek
  rcases kinds k3 with ht | ht | ht
  · obtain ⟨c, rfl, rfl⟩ := hp.tupRef ht rx
    obtain ⟨ts, kd, tr⟩ := D.d.tups I ek ew hF hg D.r fun p hp => (k4 p hp).trans ht
    refine wpAny_in_heap (knd := nestedKind X.prog X.w) (k := p.nk) (room8 hu) ⟨Rep.nested I ek hF p _ _ k1 hp rx, by rw [PV.nk_depth _ k1]; exact k2⟩ D.d.sys kd ?_
    rw [← Option.isSome_map, (tr.at (nk_iff D.d.keys k1)).isSome, ← dhas_dget]
    exact q _
  · obtain ⟨ts, kd, tr⟩ := D.d.leafs (L := intLK X.prog X.w) ew hg D.r fun p hp => (k4 p hp).trans ht
    refine wpAny_in_of ((intLK X.prog X.w).is ht hp rx) D.d.sys kd.mapOf ?_
    rw [(tr.at fun p hp => (intLK X.prog X.w).iff ((k4 p hp).trans ht) ht).isSome, ← dhas_dget]
    exact q _
  · obtain ⟨ts, kd, tr⟩ := D.d.leafs (L := strLK X.prog X.w) ew hg D.r fun p hp => (k4 p hp).trans ht
    refine wpAny_in_of ((strLK X.prog X.w).is ht hp rx) D.d.sys kd.mapOf ?_
    rw [(tr.at fun p hp => (strLK X.prog X.w).iff ((k4 p hp).trans ht) ht).isSome, ← dhas_dget]
    exact q _
theorem d_notin (hu : X.A.units + 200 < cLine) (I : Inv X pins σ H s) (ek : C.K = X.K) (ew : C.w = X.w) (hF : SubH C H) (D : DAt C H a kvs ob es) (hk : kOk kvs p = true) (hp : Rep C p x) (rx : RelV x v) {Q : Value → Shared → Prop}
    (q : ∀ t, Q (.bool (!dhas kvs p)) { s with toks := t }) : wpAny (model X.prog X.w) X.A (compareOp .NotIn v (.ref a)) Q X.xe s := by
  obtain ⟨k1, k2, k3, k4⟩ := kOk_ok hk D.d.kind
  have hg := D.get I ek
  rcases kinds k3 with ht | ht | ht
  · obtain ⟨c, rfl, rfl⟩ := hp.tupRef ht rx
    obtain ⟨ts, kd, tr⟩ := D.d.tups I ek ew hF hg D.r fun p hp => (k4 p hp).trans ht
    refine notIn_keyed (knd := nestedKind X.prog X.w) (k := p.nk) (kvs := pairsH ts) (room8 hu) ⟨Rep.nested I ek hF p _ _ k1 hp rx, by rw [PV.nk_depth _ k1]; exact k2⟩ D.d.sys ⟨ts, kd, rfl⟩ ?_
    rw [valueAt_pairsH, (tr.at (nk_iff D.d.keys k1)).isSome, ← dhas_dget]
    exact q _
  · obtain ⟨ts, kd, tr⟩ := D.d.leafs (L := intLK X.prog X.w) ew hg D.r fun p hp => (k4 p hp).trans ht
    refine wpAny_notIn_of ((intLK X.prog X.w).is ht hp rx) D.d.sys kd.mapOf ?_
    rw [(tr.at fun p hp => (intLK X.prog X.w).iff ((k4 p hp).trans ht) ht).isSome, ← dhas_dget]
    exact q _
  · obtain ⟨ts, kd, tr⟩ := D.d.leafs (L := strLK X.prog X.w) ew hg D.r fun p hp => (k4 p hp).trans ht
    refine wpAny_notIn_of ((strLK X.prog X.w).is ht hp rx) D.d.sys kd.mapOf ?_
    rw [(tr.at fun p hp => (strLK X.prog X.w).iff ((k4 p hp).trans ht) ht).isSome, ← dhas_dget]
    exact q _
theorem FoundR.some {C : RC} {y : PV} {o : Option Value} (h : FoundR C (Option.some y) o) : ∃ u v, o = Option.some u ∧ RelV v u ∧ Rep C y v := by
  cases o with
  | none => exact h.elim
  | some u =>
    obtain ⟨v, h1, h2⟩ := h
    exact ⟨u, v, rfl, h1, h2⟩
theorem d_idx (hu : X.A.units + 200 < cLine) (I : Inv X pins σ H s) (ek : C.K = X.K) (ew : C.w = X.w) (hF : SubH C H) (D : DAt C H a kvs ob es) (hk : kOk kvs p = true) (hp : Rep C p x) (rx : RelV x v) {y : PV} (hd : dget kvs p = some y) {Q : Value → Shared → Prop}
    (q : ∀ t u z, RelV z u → Rep C y z → Q u { s with toks := t }) : wpAny (model X.prog X.w) X.A (getItem (.ref a) v) Q X.xe s := by
  obtain ⟨k1, k2, k3, k4⟩ := kOk_ok hk D.d.kind
  have hg := D.get I ek
  rcases kinds k3 with ht | ht | ht
  · obtain ⟨c, rfl, rfl⟩ := hp.tupRef ht rx
    obtain ⟨ts, kd, tr⟩ := D.d.tups I ek ew hF hg D.r fun p hp => (k4 p hp).trans ht
    have fd := tr.at (nk_iff D.d.keys k1)
    rw [hd] at fd
    obtain ⟨u, z, e, h1, h2⟩ := fd.some
    obtain ⟨w, e1, rfl⟩ := Option.map_eq_some_iff.mp e
    exact wpAny_getItem_heap (knd := nestedKind X.prog X.w) (k := p.nk) (room8 hu) ⟨Rep.nested I ek hF p _ _ k1 hp rx, by rw [PV.nk_depth _ k1]; exact k2⟩ kd e1 (q _ _ z h1 h2)
  · obtain ⟨ts, kd, tr⟩ := D.d.leafs (L := intLK X.prog X.w) ew hg D.r fun p hp => (k4 p hp).trans ht
    have fd := tr.at fun p hp => (intLK X.prog X.w).iff ((k4 p hp).trans ht) ht
    rw [hd] at fd
    obtain ⟨u, z, e, h1, h2⟩ := fd.some
    exact wpAny_getItem_of ((intLK X.prog X.w).is ht hp rx) kd.mapOf e (q _ _ z h1 h2)
  · obtain ⟨ts, kd, tr⟩ := D.d.leafs (L := strLK X.prog X.w) ew hg D.r fun p hp => (k4 p hp).trans ht
    have fd := tr.at fun p hp => (strLK X.prog X.w).iff ((k4 p hp).trans ht) ht
    rw [hd] at fd
    obtain ⟨u, z, e, h1, h2⟩ := fd.some
    exact wpAny_getItem_of ((strLK X.prog X.w).is ht hp rx) kd.mapOf e (q _ _ z h1 h2)
theorem FoundR.getD {C : RC} {o : Option PV} {b : Option Value} (h : FoundR C o b) {d : PV} {u : Value} (hd : ∃ z, RelV z u ∧ Rep C d z) : ∃ z, RelV z (b.getD u) ∧ Rep C (o.getD d) z := by
  cases o <;> cases b <;> first | exact hd | exact h | exact h.elim
theorem d_get1 (hu : X.A.units + 200 < cLine) (I : Inv X pins σ H s) (ek : C.K = X.K) (ew : C.w = X.w) (hF : SubH C H) (D : DAt C H a kvs ob es) (hk : kOk kvs p = true) (hp : Rep C p x) (rx : RelV x v) {Q : Value → Shared → Prop}
    (q : ∀ t u z, RelV z u → Rep C ((dget kvs p).getD .non) z → Q u { s with toks := t }) : wpAny (model X.prog X.w) X.A (call (.builtin "dict.get") [.ref a, v]) Q X.xe s := by
  obtain ⟨k1, k2, k3, k4⟩ := kOk_ok hk D.d.kind
  have hg := D.get I ek
  have hn : ∃ z, RelV z Value.none ∧ Rep C .non z := ⟨.non, rfl, rfl⟩
  rcases kinds k3 with ht | ht | ht
  · obtain ⟨c, rfl, rfl⟩ := hp.tupRef ht rx
    obtain ⟨ts, kd, tr⟩ := D.d.tups I ek ew hF hg D.r fun p hp => (k4 p hp).trans ht
    obtain ⟨z, h1, h2⟩ := (tr.at (nk_iff D.d.keys k1)).getD hn
    exact get_keyed (knd := nestedKind X.prog X.w) (k := p.nk) (kvs := pairsH ts) (room8 hu) ⟨Rep.nested I ek hF p _ _ k1 hp rx, by rw [PV.nk_depth _ k1]; exact k2⟩ D.d.sys ⟨ts, kd, rfl⟩ (by rw [valueAt_pairsH]; exact q _ _ z h1 h2)
  · obtain ⟨ts, kd, tr⟩ := D.d.leafs (L := intLK X.prog X.w) ew hg D.r fun p hp => (k4 p hp).trans ht
    obtain ⟨z, h1, h2⟩ := (tr.at fun p hp => (intLK X.prog X.w).iff ((k4 p hp).trans ht) ht).getD hn
    exact call_meetsIn PySem.F.slot_dict_get kd.typeIs PySem.F.entry_dict_get (PySem.F.args_dict_get_2 _ _) (meets_dict_get _ a ((intLK X.prog X.w).is ht hp rx) D.d.sys) ⟨_, kd.mapOf, q _ _ z h1 h2⟩
  · obtain ⟨ts, kd, tr⟩ := D.d.leafs (L := strLK X.prog X.w) ew hg D.r fun p hp => (k4 p hp).trans ht
    obtain ⟨z, h1, h2⟩ := (tr.at fun p hp => (strLK X.prog X.w).iff ((k4 p hp).trans ht) ht).getD hn
    exact call_meetsIn PySem.F.slot_dict_get kd.typeIs PySem.F.entry_dict_get (PySem.F.args_dict_get_2 _ _) (meets_dict_get _ a ((strLK X.prog X.w).is ht hp rx) D.d.sys) ⟨_, kd.mapOf, q _ _ z h1 h2⟩
theorem d_get2 (hu : X.A.units + 200 < cLine) (I : Inv X pins σ H s) (ek : C.K = X.K) (ew : C.w = X.w) (hF : SubH C H) (D : DAt C H a kvs ob es) (hk : kOk kvs p = true) (hp : Rep C p x) (rx : RelV x v) {d : PV} {ud : Value} (hn : ∃ z, RelV z ud ∧ Rep C d z) {Q : Value → Shared → Prop}
    (q : ∀ t u z, RelV z u → Rep C ((dget kvs p).getD d) z → Q u { s with toks := t }) : wpAny (model X.prog X.w) X.A (call (.builtin "dict.get") [.ref a, v, ud]) Q X.xe s := by
  obtain ⟨k1, k2, k3, k4⟩ := kOk_ok hk D.d.kind
  have hg := D.get I ek
  rcases kinds k3 with ht | ht | ht
  · obtain ⟨c, rfl, rfl⟩ := hp.tupRef ht rx
    obtain ⟨ts, kd, tr⟩ := D.d.tups I ek ew hF hg D.r fun p hp => (k4 p hp).trans ht
    obtain ⟨z, h1, h2⟩ := (tr.at (nk_iff D.d.keys k1)).getD hn
    exact getOr_keyed (knd := nestedKind X.prog X.w) (k := p.nk) (kvs := pairsH ts) (room8 hu) ⟨Rep.nested I ek hF p _ _ k1 hp rx, by rw [PV.nk_depth _ k1]; exact k2⟩ D.d.sys ⟨ts, kd, rfl⟩ (by rw [valueAt_pairsH]; exact q _ _ z h1 h2)
  · obtain ⟨ts, kd, tr⟩ := D.d.leafs (L := intLK X.prog X.w) ew hg D.r fun p hp => (k4 p hp).trans ht
    obtain ⟨z, h1, h2⟩ := (tr.at fun p hp => (intLK X.prog X.w).iff ((k4 p hp).trans ht) ht).getD hn
    exact call_meetsIn PySem.F.slot_dict_get kd.typeIs PySem.F.entry_dict_get (PySem.F.args_dict_get_3 _ _ _) (meets_dict_get_default _ a ((intLK X.prog X.w).is ht hp rx) D.d.sys ud) ⟨_, kd.mapOf, q _ _ z h1 h2⟩
  · obtain ⟨ts, kd, tr⟩ := D.d.leafs (L := strLK X.prog X.w) ew hg D.r fun p hp => (k4 p hp).trans ht
    obtain ⟨z, h1, h2⟩ := (tr.at fun p hp => (strLK X.prog X.w).iff ((k4 p hp).trans ht) ht).getD hn
    exact call_meetsIn PySem.F.slot_dict_get kd.typeIs PySem.F.entry_dict_get (PySem.F.args_dict_get_3 _ _ _) (meets_dict_get_default _ a ((strLK X.prog X.w).is ht hp rx) D.d.sys ud) ⟨_, kd.mapOf, q _ _ z h1 h2⟩
/-- d[k] = v of a dict that is nobody else's; by whichever way it is put (item: setItem; or a comprehension's dictSet) -/
structure PutOk (C : RC) (h h' : Heap) (a : Addr) (kvs : List (PV × PV)) : Prop where
  same : Heap.SameBut a h h'
  ob : ∃ ob es, h'.get? a = some ob ∧ DOb C.w a ob es kvs ∧ RepE C kvs es
theorem dset_kind {k y : PV} {n : Nat} (h1 : ∀ p ∈ kvs, PV.kkind p.1 = n) (h2 : k.kkind = n) : ∀ p ∈ dset kvs k y, PV.kkind p.1 = n := fun p hp => by
  rcases dset_mem hp with ⟨q, hq, e⟩ | e
  · rw [e]; exact h1 q hq
  · rw [e]; exact h2
theorem dset_key {k y : PV} (h1 : ∀ p ∈ kvs, PV.keyOk p.1 = true ∧ PV.depth p.1 ≤ 8) (h2 : k.keyOk = true ∧ k.depth ≤ 8) : ∀ p ∈ dset kvs k y, PV.keyOk p.1 = true ∧ PV.depth p.1 ≤ 8 := fun p hp => by
  rcases dset_mem hp with ⟨q, hq, e⟩ | e
  · rw [e]; exact h1 q hq
  · rw [e]; exact h2
theorem d_set (hu : X.A.units + 200 < cLine) (I : Inv X pins σ H s) (ek : C.K = X.K) (ew : C.w = X.w) (hF : SubH C H) (D : DAt C H a kvs ob es) (hk : kOk kvs p = true) (hl : kvs.length < LIM) (hp : Rep C p x) (rx : RelV x v) {y : PV} {u : Value} (hy : ∃ z, RelV z u ∧ Rep C y z) {Q : Unit → Shared → Prop}
    (q : ∀ t h', PutOk C s.heap h' a (dset kvs p y) → Q () { s with heap := h', toks := t }) : wpAny (model X.prog X.w) X.A (setItem (.ref a) v u) Q X.xe s := by
  obtain ⟨k1, k2, k3, k4⟩ := kOk_ok hk D.d.kind
  have hg := D.get I ek
  have hz : kvs.length ≤ sizeLine := by rw [← LIM_eq]; omega
  have hl' : (dset kvs p y).length ≤ LIM := by have := dset_len kvs p y; omega
  rcases kinds k3 with ht | ht | ht
  · obtain ⟨c, rfl, rfl⟩ := hp.tupRef ht rx
    obtain ⟨ts, kd, tr⟩ := D.d.tups I ek ew hF hg D.r fun p hp => (k4 p hp).trans ht
    have hlen : ts.length = kvs.length := by have := congrArg List.length tr.keys; simpa using this
    exact wpAny_setItem_heap (knd := nestedKind X.prog X.w) (k := p.nk) (room8 hu) ⟨Rep.nested I ek hF p _ _ k1 hp rx, by rw [PV.nk_depth _ k1]; exact k2⟩ kd (fun h' hd hs => q _ h' ⟨hs, back_tups ew hd (tr.stored hp hy (nk_iff D.d.keys k1)) D.d.sys hl' (dset_key D.d.keys ⟨k1, k2⟩) (dset_kind (fun p hp => (k4 p hp).trans ht) ht) (dset_nodup (nk_iff D.d.keys k1) D.d.nodup)⟩) (by omega)
  · obtain ⟨ts, kd, tr⟩ := D.d.leafs (L := intLK X.prog X.w) ew hg D.r fun p hp => (k4 p hp).trans ht
    have hlen : ts.length = kvs.length := by have := congrArg List.length tr.keys; simpa using this
    exact wpAny_setItem_pairs ((intLK X.prog X.w).is ht hp rx) kd (fun h' hd hs => q _ h' ⟨hs, back_leafs (L := intLK X.prog X.w) ew hd (tr.stored hy fun p hp => (intLK X.prog X.w).iff ((k4 p hp).trans ht) ht) D.d.sys hl' (dset_kind (fun p hp => (k4 p hp).trans ht) ht) (show (1 : Nat) ≤ 2 by omega) (dset_nodup (nk_iff D.d.keys k1) D.d.nodup)⟩) (by omega)
  · obtain ⟨ts, kd, tr⟩ := D.d.leafs (L := strLK X.prog X.w) ew hg D.r fun p hp => (k4 p hp).trans ht
    have hlen : ts.length = kvs.length := by have := congrArg List.length tr.keys; simpa using this
    exact wpAny_setItem_pairs ((strLK X.prog X.w).is ht hp rx) kd (fun h' hd hs => q _ h' ⟨hs, back_leafs (L := strLK X.prog X.w) ew hd (tr.stored hy fun p hp => (strLK X.prog X.w).iff ((k4 p hp).trans ht) ht) D.d.sys hl' (dset_kind (fun p hp => (k4 p hp).trans ht) ht) (show (2 : Nat) ≤ 2 by omega) (dset_nodup (nk_iff D.d.keys k1) D.d.nodup)⟩) (by omega)
theorem d_dictSet (hu : X.A.units + 200 < cLine) (I : Inv X pins σ H s) (ek : C.K = X.K) (ew : C.w = X.w) (hF : SubH C H) (D : DAt C H a kvs ob es) (hk : kOk kvs p = true) (hl : kvs.length < LIM) (hp : Rep C p x) (rx : RelV x v) {y : PV} {u : Value} (hy : ∃ z, RelV z u ∧ Rep C y z) {Q : Unit → Shared → Prop} {E : Value → Shared → Prop}
    (q : ∀ t h', PutOk C s.heap h' a (dset kvs p y) → Q () { s with heap := h', toks := t }) : wpAny (model X.prog X.w) X.A (dictSet a v u) Q E s := by
  obtain ⟨k1, k2, k3, k4⟩ := kOk_ok hk D.d.kind
  have hg := D.get I ek
  have hz : kvs.length ≤ sizeLine := by rw [← LIM_eq]; omega
  have hl' : (dset kvs p y).length ≤ LIM := by have := dset_len kvs p y; omega
  rcases kinds k3 with ht | ht | ht
  · obtain ⟨c, rfl, rfl⟩ := hp.tupRef ht rx
    obtain ⟨ts, kd, tr⟩ := D.d.tups I ek ew hF hg D.r fun p hp => (k4 p hp).trans ht
    have hlen : ts.length = kvs.length := by have := congrArg List.length tr.keys; simpa using this
    exact wpAny_dictSet_heap (knd := nestedKind X.prog X.w) (k := p.nk) (hsz := by omega) (show (nestedKind X.prog X.w).room X.A by show X.A.units + 8 < cLine; omega) ⟨Rep.nested I ek hF p _ _ k1 hp rx, by rw [PV.nk_depth _ k1]; exact k2⟩ kd (fun h' hd hs => q _ h' ⟨hs, back_tups ew hd (tr.stored hp hy (nk_iff D.d.keys k1)) D.d.sys hl' (dset_key D.d.keys ⟨k1, k2⟩) (dset_kind (fun p hp => (k4 p hp).trans ht) ht) (dset_nodup (nk_iff D.d.keys k1) D.d.nodup)⟩)
  · obtain ⟨ts, kd, tr⟩ := D.d.leafs (L := intLK X.prog X.w) ew hg D.r fun p hp => (k4 p hp).trans ht
    have hlen : ts.length = kvs.length := by have := congrArg List.length tr.keys; simpa using this
    exact wpAny_dictSet_pairs (hsz := by omega) ((intLK X.prog X.w).is ht hp rx) kd (fun h' hd hs => q _ h' ⟨hs, back_leafs (L := intLK X.prog X.w) ew hd (tr.stored hy fun p hp => (intLK X.prog X.w).iff ((k4 p hp).trans ht) ht) D.d.sys hl' (dset_kind (fun p hp => (k4 p hp).trans ht) ht) (show (1 : Nat) ≤ 2 by omega) (dset_nodup (nk_iff D.d.keys k1) D.d.nodup)⟩)
  · obtain ⟨ts, kd, tr⟩ := D.d.leafs (L := strLK X.prog X.w) ew hg D.r fun p hp => (k4 p hp).trans ht
    have hlen : ts.length = kvs.length := by have := congrArg List.length tr.keys; simpa using this
    exact wpAny_dictSet_pairs (hsz := by omega) ((strLK X.prog X.w).is ht hp rx) kd (fun h' hd hs => q _ h' ⟨hs, back_leafs (L := strLK X.prog X.w) ew hd (tr.stored hy fun p hp => (strLK X.prog X.w).iff ((k4 p hp).trans ht) ht) D.d.sys hl' (dset_kind (fun p hp => (k4 p hp).trans ht) ht) (show (2 : Nat) ≤ 2 by omega) (dset_nodup (nk_iff D.d.keys k1) D.d.nodup)⟩)
end
end Py
end

section
set_option Elab.async false
set_option linter.all false
set_option autoImplicit false
set_option maxRecDepth 100000
/-! Comparisons. -/
namespace Py
open PySem PySem.Spec PyProof.Rows L2

theorem fine_ok {p : PV} (h : p.fine = true) : p.plain = true ∧ p.depth ≤ 64 := by
  unfold PV.fine at h
  rw [Bool.and_eq_true] at h
  exact ⟨h.1, of_decide_eq_true h.2⟩
theorem fines_ok {ps : List PV} (h : ps.all PV.fine = true) : PV.plains ps = true ∧ PV.depths ps ≤ 64 := by
  rw [PV.plains_all, PV.depths_le]
  rw [List.all_eq_true] at h ⊢
  exact ⟨fun x hx => (fine_ok (h x hx)).1, fun x hx => (fine_ok (h x hx)).2⟩
section
variable {X : Cx} {pins : List (Addr × Obj)} {σ : L2.St} {H : Hp} {s : Shared} {C : RC}
theorem SRep.reads (I : Inv X pins σ H s) (hK : C.K = X.K) (hF : SubH C H) {p : PV} {v : V} {u : Value} (hp : p.plain = true) (h : SRep C H p v) (r : RelV v u) : ∃ as, Reads s.heap u p.toD as := by
  cases p with
  | lst xs =>
    obtain ⟨a, vs, rfl, hs, hr⟩ := h
    cases r
    obtain ⟨its, rv, ⟨o, n, ho, hc, _, hd⟩, _⟩ := I.list (.of hs)
    obtain ⟨as, q⟩ := Reps.reads I hK hF xs vs its (by rw [PV.plain] at hp; exact hp) hr rv
    exact ⟨_, .list ho hc hd q⟩
  | dct kvs => rw [PV.plain] at hp; cases hp
  | _ => exact Rep.reads I hK hF _ v u hp h r
/-- a boolean answer -/
theorem fin_b {G : GP} {o : Op} {Q : VK} {b : Bool} (I : Inv X pins σ H s) (hF : SubH C H) (hf : freshO o = false)
    (q : ∀ v C' H', Grow C H C' H' → OutR (freshO o) C' H H' (.bl b) v → Q v H') : EP X pins σ Q (.bool b) s := by
  refine ⟨.bl b, H, I, rfl, q _ C H (.refl hF) ?_⟩
  rw [hf]; exact rfl
theorem cmp_inv {cup : Option (Int × Int)} {c : CmpOp} {ps : List PV} {x y : V} {r : PV} (hs : SReps C H ps [x, y]) (ho : opV cup (.cmp c) ps = .ok r) :
    ∃ p q b, ps = [p, q] ∧ SRep C H p x ∧ SRep C H q y ∧ cmpB c p q = .ok b ∧ r = .bl b := by
  obtain ⟨p, q, rfl, h1, h2⟩ := hs.two
  obtain ⟨b, h3, h4⟩ := bindR (show (cmpB c p q).bind _ = _ from ho)
  cases h4
  exact ⟨p, q, b, rfl, h1, h2, h3, rfl⟩
end
section
variable {G : GP} {X : Cx}
theorem u_eq (hK : X.K = G.K) (hu : X.A.units + 200 < cLine) : OpR X (compareOp .Eq) (fun x y H Q => UO G (.cmp .Eq) [x, y] H Q) := by
  intro pins s σ H x y v u Q I rx ry h
  obtain ⟨C, ps, r, cup, eK, ew, hF, hc, hs, ho, q⟩ := h
  obtain ⟨p1, p2, b, rfl, h1, h2, hb, rfl⟩ := cmp_inv hs ho
  obtain ⟨hf, hb⟩ := Res.of_ok (show Res.of _ _ = _ from hb)
  cases hb
  rw [Bool.and_eq_true] at hf
  obtain ⟨f1, d1⟩ := fine_ok hf.1
  obtain ⟨f2, d2⟩ := fine_ok hf.2
  obtain ⟨as, q1⟩ := h1.reads I (eK.trans hK.symm) hF f1 rx
  obtain ⟨bs, q2⟩ := h2.reads I (eK.trans hK.symm) hF f2 ry
  refine SeqAt.eq_plain q1 q2 (PV.toD_plain _ f1) (PV.toD_plain _ f2) ?_ ?_
  · rw [PV.toD_depth, PV.toD_depth]; omega
  · rw [PV.eqv_toD _ _ f1 f2]; exact fin_b (G := G) (o := .cmp .Eq) I hF rfl q
theorem u_ne (hK : X.K = G.K) (hu : X.A.units + 200 < cLine) : OpR X (compareOp .NotEq) (fun x y H Q => UO G (.cmp .NotEq) [x, y] H Q) := by
  intro pins s σ H x y v u Q I rx ry h
  obtain ⟨C, ps, r, cup, eK, ew, hF, hc, hs, ho, q⟩ := h
  obtain ⟨p1, p2, b, rfl, h1, h2, hb, rfl⟩ := cmp_inv hs ho
  obtain ⟨hf, hb⟩ := Res.of_ok (show Res.of _ _ = _ from hb)
  cases hb
  rw [Bool.and_eq_true] at hf
  obtain ⟨f1, d1⟩ := fine_ok hf.1
  obtain ⟨f2, d2⟩ := fine_ok hf.2
  obtain ⟨as, q1⟩ := h1.reads I (eK.trans hK.symm) hF f1 rx
  obtain ⟨bs, q2⟩ := h2.reads I (eK.trans hK.symm) hF f2 ry
  refine SeqAt.ne_plain q1 q2 (PV.toD_plain _ f1) (PV.toD_plain _ f2) ?_ ?_
  · rw [PV.toD_depth, PV.toD_depth]; omega
  · rw [PV.eqv_toD _ _ f1 f2]; exact fin_b (G := G) (o := .cmp .NotEq) I hF rfl q
theorem ord_ok {x y : PV} (h : ordOk x y = true) : x.fine = true ∧ y.fine = true ∧ x.alike y = true ∧ x.isNon = false := by
  unfold ordOk at h
  simp only [Bool.and_eq_true, Bool.not_eq_true'] at h
  exact ⟨h.1.1.1, h.1.1.2, h.1.2, h.2⟩
theorem toD_notNone {x : PV} (h : x.fine = true) (hn : x.isNon = false) : x.toD ≠ .none := by
  have := (fine_ok h).1
  cases x <;> first | (simp [PV.isNon] at hn; done) | (simp [PV.plain] at this; done) | (intro z; cases z)
mutual
theorem alike_symm : ∀ x y : PV, x.plain = true → y.plain = true → x.alike y = true → y.alike x = true
  | .non, y, _, _, h => by cases y <;> first | rfl | (simp [PV.alike] at h; done)
  | .bl _, y, _, _, h => by cases y <;> first | rfl | (simp [PV.alike] at h; done)
  | .int _, y, _, _, h => by cases y <;> first | rfl | (simp [PV.alike] at h; done)
  | .str _, y, _, _, h => by cases y <;> first | rfl | (simp [PV.alike] at h; done)
  | .tup xs, y, hx, hy, h => by
    cases y <;> first | (simp [PV.alike] at h; done) | skip
    rw [PV.alike] at h ⊢; rw [PV.plain] at hx hy; exact alikes_symm _ _ hx hy h
  | .lst xs, y, hx, hy, h => by
    cases y <;> first | (simp [PV.alike] at h; done) | skip
    rw [PV.alike] at h ⊢; rw [PV.plain] at hx hy; exact alikes_symm _ _ hx hy h
  | .dct _, _, h, _, _ => by rw [PV.plain] at h; cases h
  | .cup, _, h, _, _ => by rw [PV.plain] at h; cases h
  | .fn _, _, h, _, _ => by rw [PV.plain] at h; cases h
  | .scr _, _, h, _, _ => by rw [PV.plain] at h; cases h
theorem alikes_symm : ∀ xs ys : List PV, PV.plains xs = true → PV.plains ys = true → PV.alikes xs ys = true → PV.alikes ys xs = true
  | [], [], _, _, _ => rfl
  | [], _ :: _, _, _, _ => rfl
  | _ :: _, [], _, _, _ => rfl
  | x :: xs, y :: ys, hx, hy, h => by
    rw [PV.plains, Bool.and_eq_true] at hx hy
    rw [PV.alikes, Bool.and_eq_true] at h ⊢
    exact ⟨alike_symm x y hx.1 hy.1 h.1, alikes_symm xs ys hx.2 hy.2 h.2⟩
end
theorem lt_toD' {x y : PV} (hx : x.plain = true) (hy : y.plain = true) (h : x.alike y = true) : PySem.W.dataLt y.toD x.toD = y.lt x := PV.lt_toD y x (alike_symm x y hx hy h)
theorem u_lt (hK : X.K = G.K) (hu : X.A.units + 200 < cLine) : OpR X (compareOp .Lt) (fun x y H Q => UO G (.cmp .Lt) [x, y] H Q) := by
  intro pins s σ H x y v u Q I rx ry h
  obtain ⟨C, ps, r, cup, eK, ew, hF, hc, hs, ho, q⟩ := h
  obtain ⟨p1, p2, b, rfl, h1, h2, hb, rfl⟩ := cmp_inv hs ho
  obtain ⟨hf, hb⟩ := Res.of_ok (show Res.of _ _ = _ from hb)
  cases hb
  obtain ⟨hf1, hf2, hal, hn⟩ := ord_ok hf
  obtain ⟨f1, d1⟩ := fine_ok hf1
  obtain ⟨f2, d2⟩ := fine_ok hf2
  obtain ⟨as, q1⟩ := h1.reads I (eK.trans hK.symm) hF f1 rx
  obtain ⟨bs, q2⟩ := h2.reads I (eK.trans hK.symm) hF f2 ry
  refine PySem.W.lt_data q1 q2 (PV.alike_toD _ _ hal) (toD_notNone hf1 hn) ?_ ?_
  · rw [PV.toD_depth, PV.toD_depth]; omega
  · rw [PV.lt_toD _ _ hal]; exact fin_b (G := G) (o := .cmp .Lt) I hF rfl q
theorem u_gt (hK : X.K = G.K) (hu : X.A.units + 200 < cLine) : OpR X (compareOp .Gt) (fun x y H Q => UO G (.cmp .Gt) [x, y] H Q) := by
  intro pins s σ H x y v u Q I rx ry h
  obtain ⟨C, ps, r, cup, eK, ew, hF, hc, hs, ho, q⟩ := h
  obtain ⟨p1, p2, b, rfl, h1, h2, hb, rfl⟩ := cmp_inv hs ho
  obtain ⟨hf, hb⟩ := Res.of_ok (show Res.of _ _ = _ from hb)
  cases hb
  obtain ⟨hf1, hf2, hal, hn⟩ := ord_ok hf
  obtain ⟨f1, d1⟩ := fine_ok hf1
  obtain ⟨f2, d2⟩ := fine_ok hf2
  obtain ⟨as, q1⟩ := h1.reads I (eK.trans hK.symm) hF f1 rx
  obtain ⟨bs, q2⟩ := h2.reads I (eK.trans hK.symm) hF f2 ry
  refine PySem.W.gt_data q1 q2 (PV.alike_toD _ _ hal) (toD_notNone hf1 hn) ?_ ?_
  · rw [PV.toD_depth, PV.toD_depth]; omega
  · rw [lt_toD' f1 f2 hal]; exact fin_b (G := G) (o := .cmp .Gt) I hF rfl q
theorem u_le (hK : X.K = G.K) (hu : X.A.units + 200 < cLine) : OpR X (compareOp .LtE) (fun x y H Q => UO G (.cmp .LtE) [x, y] H Q) := by
  intro pins s σ H x y v u Q I rx ry h
  obtain ⟨C, ps, r, cup, eK, ew, hF, hc, hs, ho, q⟩ := h
  obtain ⟨p1, p2, b, rfl, h1, h2, hb, rfl⟩ := cmp_inv hs ho
  obtain ⟨hf, hb⟩ := Res.of_ok (show Res.of _ _ = _ from hb)
  cases hb
  obtain ⟨hf1, hf2, hal, hn⟩ := ord_ok hf
  obtain ⟨f1, d1⟩ := fine_ok hf1
  obtain ⟨f2, d2⟩ := fine_ok hf2
  obtain ⟨as, q1⟩ := h1.reads I (eK.trans hK.symm) hF f1 rx
  obtain ⟨bs, q2⟩ := h2.reads I (eK.trans hK.symm) hF f2 ry
  refine PySem.W.le_data q1 q2 (PV.alike_toD _ _ hal) (toD_notNone hf1 hn) ?_ ?_
  · rw [PV.toD_depth, PV.toD_depth]; omega
  · rw [lt_toD' f1 f2 hal]; exact fin_b (G := G) (o := .cmp .LtE) I hF rfl q
theorem u_ge (hK : X.K = G.K) (hu : X.A.units + 200 < cLine) : OpR X (compareOp .GtE) (fun x y H Q => UO G (.cmp .GtE) [x, y] H Q) := by
  intro pins s σ H x y v u Q I rx ry h
  obtain ⟨C, ps, r, cup, eK, ew, hF, hc, hs, ho, q⟩ := h
  obtain ⟨p1, p2, b, rfl, h1, h2, hb, rfl⟩ := cmp_inv hs ho
  obtain ⟨hf, hb⟩ := Res.of_ok (show Res.of _ _ = _ from hb)
  cases hb
  obtain ⟨hf1, hf2, hal, hn⟩ := ord_ok hf
  obtain ⟨f1, d1⟩ := fine_ok hf1
  obtain ⟨f2, d2⟩ := fine_ok hf2
  obtain ⟨as, q1⟩ := h1.reads I (eK.trans hK.symm) hF f1 rx
  obtain ⟨bs, q2⟩ := h2.reads I (eK.trans hK.symm) hF f2 ry
  refine PySem.W.ge_data q1 q2 (PV.alike_toD _ _ hal) (toD_notNone hf1 hn) ?_ ?_
  · rw [PV.toD_depth, PV.toD_depth]; omega
  · rw [PV.lt_toD _ _ hal]; exact fin_b (G := G) (o := .cmp .GtE) I hF rfl q
theorem isV_inv {p q : PV} {b : Bool} (h : isV p q = .ok b) : (q = .non ∧ b = p.isNon) ∨ ∃ c d, q = .bl c ∧ p = .bl d ∧ b = (d == c) := by
  unfold isV at h
  split at h
  · exact .inl ⟨rfl, (Res.ok.inj h).symm⟩
  · split at h
    · exact .inr ⟨_, _, rfl, rfl, (Res.ok.inj h).symm⟩
    · exact nomatch h
  · exact nomatch h
theorem isNon_V {C : RC} {H : Hp} {p : PV} {x : V} (h : SRep C H p x) : decide (x = V.non) = p.isNon := by
  cases p with
  | non => rw [show x = V.non from h]; rfl
  | bl b => rw [show x = V.bl b from h]; rfl
  | int b => rw [show x = V.int b from h]; rfl
  | str b => rw [show x = V.str b from h]; rfl
  | tup b => obtain ⟨a, _, rfl, _⟩ := h; rfl
  | lst b => obtain ⟨a, _, rfl, _⟩ := h; rfl
  | dct b => obtain ⟨a, _, _, rfl, _⟩ := h; rfl
  | cup => obtain ⟨a, _, rfl⟩ := h; rfl
  | fn k => exact h.elim
  | scr b => obtain ⟨a, _, rfl, _⟩ := h; rfl
theorem u_is : OpR X (compareOp .Is) (fun x y H Q => UO G (.cmp .Is) [x, y] H Q) := by
  intro pins s σ H x y v u Q I rx ry h
  obtain ⟨C, ps, r, cup, eK, ew, hF, hc, hs, ho, q⟩ := h
  obtain ⟨p1, p2, b, rfl, h1, h2, hb, rfl⟩ := cmp_inv hs ho
  rcases isV_inv (show isV p1 p2 = .ok b from hb) with ⟨rfl, rfl⟩ | ⟨c, d, rfl, rfl, rfl⟩
  · refine op_isN pins s σ H x y v u Q I rx ry ⟨h2, ?_⟩
    rw [isNon_V h1]
    exact q _ C H (.refl hF) rfl
  · refine op_isBl pins s σ H x y v u Q I rx ry ⟨d, c, h1, h2, ?_⟩
    rw [← Bool.beq_eq_decide_eq]
    exact q _ C H (.refl hF) rfl
theorem u_isnot : OpR X (compareOp .IsNot) (fun x y H Q => UO G (.cmp .IsNot) [x, y] H Q) := by
  intro pins s σ H x y v u Q I rx ry h
  obtain ⟨C, ps, r, cup, eK, ew, hF, hc, hs, ho, q⟩ := h
  obtain ⟨p1, p2, b, rfl, h1, h2, hb, rfl⟩ := cmp_inv hs ho
  obtain ⟨b', hb2, hb'⟩ := bindR (show (isV p1 p2).bind _ = .ok b from hb)
  cases hb'
  rcases isV_inv hb2 with ⟨rfl, rfl⟩ | ⟨c, d, rfl, rfl, rfl⟩
  · refine op_notN pins s σ H x y v u Q I rx ry ⟨h2, ?_⟩
    rw [isNon_V h1]
    exact q _ C H (.refl hF) rfl
  · refine op_notBl pins s σ H x y v u Q I rx ry ⟨d, c, h1, h2, ?_⟩
    rw [← Bool.beq_eq_decide_eq]
    exact q _ C H (.refl hF) rfl
theorem any_toD {ys : List PV} {x : PV} (hy : ys.all PV.fine = true) (hx : x.fine = true) : ((PV.toDs ys).any fun y => PyData.eqv y x.toD) = ys.any fun z => z.eqv x := by
  rw [PV.toDs_map, List.any_map]
  induction ys with
  | nil => rfl
  | cons y ys ih =>
    rw [List.all_cons, Bool.and_eq_true] at hy
    rw [List.any_cons, List.any_cons, ih hy.2]
    show (PyData.eqv y.toD x.toD || _) = _
    rw [PV.eqv_toD _ _ (fine_ok hy.1).1 (fine_ok hx).1]
theorem u_in (hK : X.K = G.K) (hw : X.w = G.w) (hu : X.A.units + 200 < cLine) : OpR X (compareOp .In) (fun x y H Q => UO G (.cmp .In) [x, y] H Q) := by
  intro pins s σ H x y v u Q I rx ry h
  obtain ⟨C, ps, r, cup, eK, ew, hF, hc, hs, ho, q⟩ := h
  have ek : C.K = X.K := eK.trans hK.symm
  obtain ⟨p1, p2, b, rfl, h1, h2, hb, rfl⟩ := cmp_inv hs ho
  replace hb : inV p1 p2 = .ok b := hb
  unfold inV at hb
  split at hb
  · rename_i ys
    obtain ⟨hf, hb⟩ := Res.of_ok hb
    cases hb
    rw [Bool.and_eq_true] at hf
    obtain ⟨f1, d1⟩ := fine_ok hf.2
    obtain ⟨f2, d2⟩ := fines_ok hf.1
    obtain ⟨as, q1⟩ := h1.reads I ek hF f1 rx
    obtain ⟨bs, q2⟩ := h2.reads I ek hF (p := .lst ys) (by rw [PV.plain]; exact f2) ry
    refine SeqAt.in_list_data q2 q1 (PV.toDs_plain _ f2) (PV.toD_plain _ f1) ?_ ?_
    · rw [PV.toDs_depth, PV.toD_depth]; omega
    · rw [any_toD hf.1 hf.2]; exact fin_b (G := G) (o := .cmp .In) I hF rfl q
  · rename_i ys
    obtain ⟨hf, hb⟩ := Res.of_ok hb
    cases hb
    rw [Bool.and_eq_true] at hf
    obtain ⟨f1, d1⟩ := fine_ok hf.2
    obtain ⟨f2, d2⟩ := fines_ok hf.1
    obtain ⟨as, q1⟩ := h1.reads I ek hF f1 rx
    obtain ⟨bs, q2⟩ := h2.reads I ek hF (p := .tup ys) (by rw [PV.plain]; exact f2) ry
    refine SeqAt.in_tuple_data q2 q1 (PV.toDs_plain _ f2) (PV.toD_plain _ f1) ?_ ?_
    · rw [PV.toDs_depth, PV.toD_depth]; omega
    · rw [any_toD hf.1 hf.2]; exact fin_b (G := G) (o := .cmp .In) I hF rfl q
  · rename_i kvs
    obtain ⟨hf, hb⟩ := Res.of_ok hb
    cases hb
    obtain ⟨a, ob, es, rfl, D⟩ := h2.dct
    cases ry
    have k1 := (kOk_ok hf D.d.kind).1
    have hx : Rep C p1 x := by cases p1 <;> first | exact h1 | (simp [PV.keyOk] at k1; done)
    exact d_in hu I ek (ew.trans hw.symm) hF D hf hx rx fun t => fin_b (G := G) (o := .cmp .In) (I.tok t) hF rfl q
  · exact nomatch hb
theorem u_notin (hK : X.K = G.K) (hw : X.w = G.w) (hu : X.A.units + 200 < cLine) : OpR X (compareOp .NotIn) (fun x y H Q => UO G (.cmp .NotIn) [x, y] H Q) := by
  intro pins s σ H x y v u Q I rx ry h
  obtain ⟨C, ps, r, cup, eK, ew, hF, hc, hs, ho, q⟩ := h
  have ek : C.K = X.K := eK.trans hK.symm
  obtain ⟨p1, p2, b, rfl, h1, h2, hb, rfl⟩ := cmp_inv hs ho
  obtain ⟨b', hb2, hb'⟩ := bindR (show (inV p1 p2).bind _ = .ok b from hb)
  clear hb ho
  cases hb'
  have hb := hb2
  clear hb2
  unfold inV at hb
  split at hb
  · rename_i ys
    obtain ⟨hf, hb⟩ := Res.of_ok hb
    cases hb
    rw [Bool.and_eq_true] at hf
    obtain ⟨f1, d1⟩ := fine_ok hf.2
    obtain ⟨f2, d2⟩ := fines_ok hf.1
    obtain ⟨as, q1⟩ := h1.reads I ek hF f1 rx
    obtain ⟨bs, q2⟩ := h2.reads I ek hF (p := .lst ys) (by rw [PV.plain]; exact f2) ry
    refine SeqAt.notIn_list_data q2 q1 (PV.toDs_plain _ f2) (PV.toD_plain _ f1) ?_ ?_
    · rw [PV.toDs_depth, PV.toD_depth]; omega
    · rw [any_toD hf.1 hf.2]; exact fin_b (G := G) (o := .cmp .NotIn) I hF rfl q
  · rename_i ys
    obtain ⟨hf, hb⟩ := Res.of_ok hb
    cases hb
    rw [Bool.and_eq_true] at hf
    obtain ⟨f1, d1⟩ := fine_ok hf.2
    obtain ⟨f2, d2⟩ := fines_ok hf.1
    obtain ⟨as, q1⟩ := h1.reads I ek hF f1 rx
    obtain ⟨bs, q2⟩ := h2.reads I ek hF (p := .tup ys) (by rw [PV.plain]; exact f2) ry
    refine SeqAt.notIn_tuple_data q2 q1 (PV.toDs_plain _ f2) (PV.toD_plain _ f1) ?_ ?_
    · rw [PV.toDs_depth, PV.toD_depth]; omega
    · rw [any_toD hf.1 hf.2]; exact fin_b (G := G) (o := .cmp .NotIn) I hF rfl q
  · rename_i kvs
    obtain ⟨hf, hb⟩ := Res.of_ok hb
    cases hb
    obtain ⟨a, ob, es, rfl, D⟩ := h2.dct
    cases ry
    have k1 := (kOk_ok hf D.d.kind).1
    have hx : Rep C p1 x := by cases p1 <;> first | exact h1 | (simp [PV.keyOk] at k1; done)
    exact d_notin hu I ek (ew.trans hw.symm) hF D hf hx rx fun t => fin_b (G := G) (o := .cmp .NotIn) (I.tok t) hF rfl q
  · exact nomatch hb
theorem u_cmp (hK : X.K = G.K) (hw : X.w = G.w) (hu : X.A.units + 200 < cLine) (c : CmpOp) : OpR X (compareOp c) (fun x y H Q => UO G (.cmp c) [x, y] H Q) := by
  cases c
  · exact u_eq hK hu
  · exact u_ne hK hu
  · exact u_lt hK hu
  · exact u_le hK hu
  · exact u_gt hK hu
  · exact u_ge hK hu
  · exact u_is
  · exact u_isnot
  · exact u_in hK hw hu
  · exact u_notin hK hw hu
end
end Py
end

section
set_option Elab.async false
set_option linter.all false
set_option autoImplicit false
set_option maxRecDepth 100000
/-! Subscripts, slices. -/
namespace Py
open PySem PySem.Spec PyProof.Rows L2

theorem idx_inv {cup : Option (Int × Int)} {p q r : PV} (h : opV cup .idx [p, q] = .ok r) :
    (∃ xs i, (p = .lst xs ∨ p = .tup xs) ∧ q = .int i ∧ L2.atI xs i = some r) ∨ (∃ kvs, p = .dct kvs ∧ kOk kvs q = true ∧ dget kvs q = some r) ∨
    (∃ a b i n, p = .cup ∧ q = .int i ∧ cup = some (a, b) ∧ r = .int n ∧ L2.atI [V.int a, V.int b] i = some (V.int n)) := by
  replace h : idxV cup p q = .ok r := h
  unfold idxV at h
  split at h
  · exact .inl ⟨_, _, .inl rfl, rfl, Res.ofOpt_ok h⟩
  · exact .inl ⟨_, _, .inr rfl, rfl, Res.ofOpt_ok h⟩
  · obtain ⟨h1, h2⟩ := Res.of_ok h
    exact .inr (.inl ⟨_, rfl, h1, Res.ofOpt_ok h2⟩)
  · split at h
    · split at h
      · rename_i e
        subst e
        cases h
        exact .inr (.inr ⟨_, _, _, _, rfl, rfl, rfl, rfl, rfl⟩)
      · split at h
        · rename_i e
          subst e
          cases h
          exact .inr (.inr ⟨_, _, _, _, rfl, rfl, rfl, rfl, rfl⟩)
        · exact nomatch h
    · exact nomatch h
  · exact nomatch h
theorem reps_at {C : RC} {ps : List PV} {vs : List V} (h : Reps C ps vs) {i : Int} {r : PV} (e : L2.atI ps i = some r) : ∃ v, L2.atI vs i = some v ∧ Rep C r v := by
  unfold L2.atI at e ⊢
  rw [h.length]
  cases hj : L2.ixN ps.length i with
  | none => rw [hj] at e; exact nomatch e
  | some j =>
    rw [hj] at e
    exact h.get e
section
variable {G : GP} {X : Cx}
theorem u_idx (hK : X.K = G.K) (hw : X.w = G.w) (hu : X.A.units + 200 < cLine) : IxR X (fun x y H Q => UO G .idx [x, y] H Q) := by
  intro value slice pins s σ H x y v u Q I rx ry h hs
  obtain ⟨C, ps, r, cup, eK, ew, hF, hc, hsr, ho, q⟩ := h
  have ek : C.K = X.K := eK.trans hK.symm
  obtain ⟨p1, p2, rfl, h1, h2⟩ := hsr.two
  rcases idx_inv ho with ⟨xs, i, hp, rfl, hat⟩ | ⟨kvs, rfl, hk, hd⟩ | ⟨a, b, i, n, rfl, rfl, rfl, rfl, hat⟩
  · rcases hp with rfl | rfl
    · obtain ⟨a, vs, rfl, k1, r1⟩ := h1
      obtain ⟨z, e, rz⟩ := reps_at r1 hat
      exact ix_list value slice pins s σ H _ y v u Q I rx ry ⟨a, vs, i, z, rfl, h2, .of k1, e, q z C H (.refl hF) rz⟩ hs
    · obtain ⟨a, vs, rfl, k1, r1⟩ := h1
      obtain ⟨z, e, rz⟩ := reps_at r1 hat
      exact ix_tup value slice pins s σ H _ y v u Q I rx ry ⟨a, vs, i, z, rfl, h2, ek ▸ sqT_le hF k1, e, q z C H (.refl hF) rz⟩ hs
  · obtain ⟨a, ob, es, rfl, D⟩ := h1.dct
    cases rx
    have k1 := (kOk_ok hk D.d.kind).1
    have hx : Rep C p2 y := by cases p2 <;> first | exact h2 | (simp [PV.keyOk] at k1; done)
    have hty : s.TypeIs (.ref a) "dict" := ⟨ob, D.get I ek, D.d.exact.1⟩
    exact tail_any hty PySem.F.slot_dict_getitem.lookup (d_idx hu I ek (ew.trans hw.symm) hF D hk hx ry hd fun t u z r1 r2 => ⟨z, H, I.tok t, r1, q z C H (.refl hF) r2⟩) hs
  · obtain ⟨c, hcp, rfl⟩ := h1
    obtain ⟨c', e1, e2⟩ := hc.at_ a b rfl
    rw [hcp] at e1; cases e1
    exact ix_list value slice pins s σ H _ y v u Q I rx ry ⟨c, _, i, _, rfl, h2, .of e2, hat, q _ C H (.refl hF) rfl⟩ hs
theorem cut_V {α : Type} (xs : List α) (lo hi : Option Int) : cut xs lo hi = (xs.drop (HT.sIx xs.length 0 lo)).take (HT.sIx xs.length xs.length hi - HT.sIx xs.length 0 lo) := rfl
theorem reps_cut {C : RC} {ps : List PV} {vs : List V} (h : Reps C ps vs) (lo hi : Option Int) : Reps C (cut ps lo hi) (L2.cutV vs lo hi) := by
  unfold L2.cutV
  rw [cut_V, h.length]
  exact (h.drop _).take _
theorem slc_inv {x : PV} {l h : Option Int} {r : PV} (e : slcV x l h = .ok r) : (∃ xs, x = .lst xs ∧ r = .lst (cut xs l h)) ∨ ∃ xs, x = .tup xs ∧ r = .tup (cut xs l h) := by
  unfold slcV at e
  split at e
  · exact .inl ⟨_, rfl, (Res.ok.inj e).symm⟩
  · exact .inr ⟨_, rfl, (Res.ok.inj e).symm⟩
  · exact nomatch e
/-- a slice by values -/
def USl (G : GP) : V → Option Int → Option Int → Hp → VK → Prop := fun x lo hi H Q => ∃ C p r, C.K = G.K ∧ C.w = G.w ∧ SubH C H ∧ SRep C H p x ∧ slcV p lo hi = .ok r ∧
  ∀ v C' H', Grow C H C' H' → Rep C' r v → Q v H'
theorem u_slc (hK : X.K = G.K) : SlR X (USl G) := by
  intro pins s σ H x v vl vu lo hi sl Q I rx hs pl pu h
  obtain ⟨C, p, r, eK, ew, hF, h1, ho, q⟩ := h
  have ek : C.K = X.K := eK.trans hK.symm
  rcases slc_inv ho with ⟨xs, rfl, rfl⟩ | ⟨xs, rfl, rfl⟩
  · obtain ⟨a, vs, rfl, k1, r1⟩ := h1
    refine sl_list pins s σ H _ v vl vu lo hi sl Q I rx hs pl pu ⟨a, vs, rfl, .of k1, fun p hp => ?_⟩
    obtain ⟨C', g, rr⟩ := new_lst hF hp (reps_cut r1 lo hi)
    exact q _ C' _ g rr
  · obtain ⟨a, vs, rfl, k1, r1⟩ := h1
    refine sl_tupA pins s σ H _ v vl vu lo hi sl Q I rx hs pl pu ⟨a, vs, rfl, ek ▸ sqT_le hF k1, fun hwh => ?_, fun _ p hp => ?_⟩
    · refine q _ C H (.refl hF) ⟨a, vs, rfl, k1, ?_⟩
      rw [r1.length] at hwh
      have e : cut xs lo hi = xs := by
        rw [cut_V, hwh.1, hwh.2, List.drop_zero, Nat.sub_zero, List.take_length]
      rw [e]; exact r1
    · obtain ⟨C', g, rr⟩ := new_tup hF hp (reps_cut r1 lo hi)
      exact q _ C' _ g rr
/-! ### x[::-1] -/
theorem rev_adjust (n : Nat) : Builtin.Slice.sliceAdjust none none (-1) (n : Int) = ((n : Int) - 1, -1) := rfl
theorem rev_places (n : Nat) : Builtin.Slice.slicePlaces ((n : Int) - 1) (-1) (-1) = n := by
  unfold Builtin.Slice.slicePlaces
  rw [if_neg (by omega)]
  by_cases h : (n : Int) - 1 > -1
  · rw [if_pos h]
    have e : -(-1 : Int) = 1 := by omega
    rw [e, Int.ediv_one]
    omega
  · rw [if_neg h]
    omega
theorem fm_congr {α β : Type} {f g : α → Option β} : ∀ {l : List α}, (∀ x ∈ l, f x = g x) → l.filterMap f = l.filterMap g
  | [], _ => rfl
  | x :: l, h => by
    rw [List.filterMap_cons, List.filterMap_cons, h x List.mem_cons_self, fm_congr fun y hy => h y (List.mem_cons_of_mem _ hy)]
theorem rev_pick (xs : Array Value) : ((List.range xs.size).filterMap fun (m : Nat) => xs[(((xs.size : Int) - 1) + (m : Int) * (-1)).toNat]?).toArray = xs.toList.reverse.toArray := by
  have h1 : (List.range xs.size).filterMap (fun (m : Nat) => xs[(((xs.size : Int) - 1) + (m : Int) * (-1)).toNat]?) = ((List.range xs.size).map fun k => xs.size - 1 - k).filterMap (xs[·]?) := by
    rw [List.filterMap_map]
    refine fm_congr fun m hm => ?_
    have := List.mem_range.mp hm
    have e : (((xs.size : Int) - 1) + (m : Int) * (-1)).toNat = xs.size - 1 - m := by omega
    rw [e]; rfl
  rw [h1, PySem.W.krv_range, List.filterMap_reverse, PySem.W.krv_all]
section
variable {P : Program} {wo : World} {Ar : Around} {En : Value → Shared → Prop} {sh : Shared}
theorem rev_applied {sl : Addr} {vl vu vs : Value} {n : Nat} {Q : Int × Int × Nat → Shared → Prop} {ob : Obj} (hos : sh.heap.get? sl = some ob) (hds : ob.data = .fields #[vl, vu, vs]) (pl : IsPart vl none) (pu : IsPart vu none) (ps : IsPart vs (some (-1)))
    (hq : Q ((n : Int) - 1, -1, n) sh) : wpAny (model P wo) Ar (Builtin.Slice.sliceApplied (.ref sl) (pure (n : Int))) Q En sh := by
  unfold Builtin.Slice.sliceApplied Builtin.Slice.sliceFields
  refine wpAny_bind (wpAny_bind (wpAny_field hos hds (x := vl) rfl (wpAny_bind (wpAny_field hos hds (x := vu) rfl (wpAny_bind (wpAny_field hos hds (x := vs) rfl (wpAny_pure ?_)))))))
  refine wpAny_bind (HT.slicePart_ ps ?_)
  show wpAny (model P wo) Ar (if ((-1 : Int) == 0) = true then _ else _) Q En sh
  rw [if_neg (by decide)]
  refine wpAny_bind (HT.slicePart_ pl (wpAny_bind (HT.slicePart_ pu (wpAny_bind (wpAny_pure ?_)))))
  show wpAny (model P wo) Ar (match Builtin.Slice.sliceAdjust none none (-1) (n : Int) with | (a, b) => pure (a, (-1 : Int), Builtin.Slice.slicePlaces a b (-1))) Q En sh
  rw [rev_adjust]
  show wpAny (model P wo) Ar (pure ((n : Int) - 1, (-1 : Int), Builtin.Slice.slicePlaces ((n : Int) - 1) (-1) (-1))) Q En sh
  rw [rev_places]
  exact wpAny_pure hq
theorem rev_tuple {t sl : Addr} {items : Array Value} {vl vu vs : Value} {Q : Value → Shared → Prop} {ob : Obj} (ht : IsTup sh.heap t items) (hos : sh.heap.get? sl = some ob) (hcs : ob.cls = .type "slice") (hds : ob.data = .fields #[vl, vu, vs]) (pl : IsPart vl none) (pu : IsPart vu none) (ps : IsPart vs (some (-1)))
    (hq : Q (.ref sh.heap.objs.size) { sh with heap := sh.heap.push { cls := .type "tuple", data := .seq items.toList.reverse.toArray } })
    (hsz : items.size ≤ sizeLine) : wpAny (model P wo) Ar (getItem (.ref t) (.ref sl)) Q En sh := by
  have hok : sizeOk (.seq items.toList.reverse.toArray) := by
    show items.toList.reverse.toArray.size ≤ sizeLine
    rw [List.size_toArray, List.length_reverse, Array.length_toList]; exact hsz
  have hTs : sh.TypeIs (.ref sl) "slice" := ⟨ob, hos, hcs⟩
  unfold getItem
  try with_reducible refine wpAny_holding ?_
  first | refine wpAny_bind (wpAny_pure ?_) | skip
  refine wpAny_bind (wpAny_sequenceKey ht.typeIs (by decide) ?_)
  refine wpAny_bind (wpAny_callSpecial?_slot (name := Str.ofString "__getitem__") ht.typeIs PyProof.Rows.slot_tuple_getitem (wpAny_call_entry PyProof.Rows.slot_tuple_getitem ht.typeIs entry_tuple_getitem ?_ (args_tuple_getitem _ _)))
  show wpAny (model P wo) Ar.in1 (Builtin.Tuple.tupleItemsOf (.ref t) >>= _) _ _ sh
  refine wpAny_bind (tupleItemsOf_ ht ?_)
  refine wpAny_bind (wpAny_typeOf hTs ?_)
  rw [if_pos (by decide)]
  refine wpAny_bind (rev_applied hos hds pl pu ps ?_)
  have hno : ¬ (((items.size : Int) - 1 == 0 && (-1 : Int) == 1 && items.size == items.size) = true) := by
    intro z
    rw [Bool.and_eq_true, Bool.and_eq_true] at z
    exact absurd (eq_of_beq z.1.2) (by decide)
  show wpAny (model P wo) Ar.in1 (if ((items.size : Int) - 1 == 0 && (-1 : Int) == 1 && items.size == items.size) = true then _ else _) _ _ sh
  rw [if_neg hno, rev_pick]
  first
    | exact wpAny_bind (m := Builtin.Tuple.tupleExact _) (wpAny_newObj_type (wpAny_pure ⟨_, rfl, wpAny_pure hq⟩) hok)
    | exact wpAny_bind (m := Builtin.Tuple.tupleExact _) (wpAny_newObj_type (wpAny_bind (wpAny_pure (wpAny_pure ⟨_, rfl, wpAny_pure hq⟩))) hok)
    | exact wpAny_bind (wpAny_bind (m := Builtin.Tuple.tupleExact _) (wpAny_newObj_type (wpAny_pure (wpAny_pure ⟨_, rfl, wpAny_pure hq⟩)) hok))
    | exact wpAny_bind (wpAny_bind (m := Builtin.Tuple.tupleExact _) (wpAny_newObj_type (wpAny_pure ⟨_, rfl, wpAny_pure hq⟩) hok))
end
theorem rev_inv {cup : Option (Int × Int)} {p r : PV} (e : opV cup .rev [p] = .ok r) : (∃ xs, p = .lst xs ∧ r = .lst xs.reverse) ∨ ∃ xs, p = .tup xs ∧ r = .tup xs.reverse := by
  replace e : revV p = .ok r := e
  unfold revV at e
  split at e
  · exact .inl ⟨_, rfl, (Res.ok.inj e).symm⟩
  · exact .inr ⟨_, rfl, (Res.ok.inj e).symm⟩
  · exact nomatch e
theorem pe_rev {e : Expr} {te : TE} {k : Nat} {p1 p2 p3 pos : Pos} (hK : X.K = G.K) (he : PE X e te) :
    PE X (.Subscript e (.Slice none none (some (.UnaryOp .USub (.Constant (.int 1) k p1) p2)) p3) pos) (fun σ H Q => te σ H fun x H1 => UO G .rev [x] H1 Q) := by
  refine ⟨fun pins s σ H Q I h => Subscript_ (thn (he.run pins s σ H _ I h) fun v s1 ⟨x, H1, I1, r1, q1⟩ => ?_)⟩
  obtain ⟨C, ps, r, cup, eK, ew, hF, hc, hsr, ho, q⟩ := q1
  have ek : C.K = X.K := eK.trans hK.symm
  obtain ⟨pv, rfl, h1⟩ := hsr.one
  have hst : PO X (some (.UnaryOp .USub (.Constant (.int 1) k p1) p2)) (tPart (tUn (rU fun i => .int (-i)) (tC (.int 1)))) := po_some (pe_un un_neg pe_int)
  refine wpAny_Slice (thn (po_none.run pins s1 σ H1 (fun o H2 => o = none ∧ H2 = H1) I1 ⟨rfl, rfl⟩) fun vl s2 ⟨l, H2, I2, pl, el, e2⟩ => ?_)
  subst el e2
  refine thn (po_none.run pins s2 σ H2 (fun o H3 => o = none ∧ H3 = H2) I2 ⟨rfl, rfl⟩) fun vu s3 ⟨u, H3, I3, pu, eu, e3⟩ => ?_
  subst eu e3
  refine thn (hst.run pins s3 σ H3 (fun o H4 => o = some (-1) ∧ H4 = H3) I3 ⟨1, rfl, -1, rfl, rfl, rfl⟩) fun vs s4 ⟨o, H4, I4, pst, eo, e4⟩ => ?_
  subst eo e4
  have I5 : Inv X pins σ H4 { s4 with heap := s4.heap.push { cls := .type "slice", data := .fields #[vl, vu, vs] } } := I4.kept (t' := s4.toks) fun b ob q => Heap.get?_push_of_some _ q
  rcases rev_inv ho with ⟨xs, rfl, rfl⟩ | ⟨xs, rfl, rfl⟩
  · obtain ⟨a, ws, rfl, k1, rr⟩ := h1
    cases r1
    obtain ⟨its, rv, ht, hz⟩ := I5.list (.of k1)
    have hlen := rv.length
    show wpAny (model X.prog X.w) X.A (subscriptTail e (.Slice none none (some (.UnaryOp .USub (.Constant (.int 1) k p1) p2)) p3) (.ref a) (.ref s4.heap.objs.size)) (EP X pins σ Q) X.xe _
    refine tail_any (ops := [.ref a, .ref s4.heap.objs.size]) ht.isList.typeIs (PySem.slot_list_getitem.lookup) ?_ (by with_unfolding_all rfl)
    refine wpAny_getItem_list_slice ht.isList (Heap.IsSliceOf.new _ vl vu vs) pl pu pst (by decide) ?_ (by rw [List.size_toArray]; omega)
    rw [PySem.W.krv_pick]
    obtain ⟨C', g, r'⟩ := new_lst hF (I5.hok.fresh (Nat.le_refl _)) rr.reverse
    refine ⟨.ref _, _, I5.laid (t' := s4.toks) (o := .lst ws.reverse) (fun b ob q => Heap.get?_push_of_some _ q) (Nat.le_refl _) ?_, rfl, q _ C' _ g r'⟩
    exact ⟨by rw [List.length_reverse]; exact hz, _, 0, rv.reverse, Heap.get?_push_size _ rfl⟩
  · obtain ⟨a, ws, rfl, k1, rr⟩ := h1
    cases r1
    obtain ⟨its, rv, ht, hz⟩ := I5.tuple (ek ▸ sqT_le hF k1)
    have hlen := rv.length
    show wpAny (model X.prog X.w) X.A (subscriptTail e (.Slice none none (some (.UnaryOp .USub (.Constant (.int 1) k p1) p2)) p3) (.ref a) (.ref s4.heap.objs.size)) (EP X pins σ Q) X.xe _
    refine tail_any (ops := [.ref a, .ref s4.heap.objs.size]) ht.typeIs (PyProof.Rows.slot_tuple_getitem.lookup) ?_ (by with_unfolding_all rfl)
    refine rev_tuple ht (Heap.get?_push_size _ rfl) rfl rfl pl pu pst ?_ (by rw [List.size_toArray]; omega)
    obtain ⟨C', g, r'⟩ := new_tup hF (I5.hok.fresh (Nat.le_refl _)) rr.reverse
    refine ⟨.ref _, _, I5.laid (t' := s4.toks) (o := .tup ws.reverse) (fun b ob q => Heap.get?_push_of_some _ q) (Nat.le_refl _) ?_, rfl, q _ C' _ g r'⟩
    exact ⟨by rw [List.length_reverse]; exact hz, _, rv.reverse, ⟨_, Heap.get?_push_size _ rfl, rfl, 0, by simp⟩⟩
end
end Py
end

section
set_option Elab.async false
set_option linter.all false
set_option autoImplicit false
set_option maxRecDepth 100000
/-! Built-in functions on values. -/
namespace Py
open PySem PySem.Spec PyProof.Rows L2

theorem SReps.oneV {C : RC} {H : Hp} {ps : List PV} {xs : List V} {p : PV} (h : SReps C H ps xs) (e : ps = [p]) : ∃ x, xs = [x] ∧ SRep C H p x := by
  subst e
  obtain ⟨v, vs, rfl, h1, h2⟩ := h
  cases (show vs = [] from h2)
  exact ⟨v, rfl, h1⟩
section
variable {G : GP} {X : Cx}
theorem len_inv {cup : Option (Int × Int)} {ps : List PV} {r : PV} (h : opV cup (.bif .len) ps = .ok r) : ∃ p, ps = [p] ∧ ((∃ xs, (p = .lst xs ∨ p = .tup xs) ∧ r = .int xs.length) ∨ ∃ kvs, p = .dct kvs ∧ r = .int kvs.length) := by
  replace h : bifV .len ps = .ok r := h
  match ps, h with
  | [.lst xs], h => exact ⟨_, rfl, .inl ⟨xs, .inl rfl, (Res.ok.inj h).symm⟩⟩
  | [.tup xs], h => exact ⟨_, rfl, .inl ⟨xs, .inr rfl, (Res.ok.inj h).symm⟩⟩
  | [.dct xs], h => exact ⟨_, rfl, .inr ⟨xs, rfl, (Res.ok.inj h).symm⟩⟩
  | [], h => exact nomatch h
  | [.non], h => exact nomatch h
  | [.bl _], h => exact nomatch h
  | [.int _], h => exact nomatch h
  | [.str _], h => exact nomatch h
  | [.cup], h => exact nomatch h
  | [.fn _], h => exact nomatch h
  | [.scr _], h => exact nomatch h
  | p :: q :: ps, h =>
    exfalso
    cases p <;> exact nomatch h
theorem u_len (hK : X.K = G.K) : CallR X (.builtin "len") (fun xs H Q => UO G (.bif .len) xs H Q) := by
  intro pins s σ H xs us Q I rs h
  obtain ⟨C, ps, r, cup, eK, ew, hF, hc, hsr, ho, q⟩ := h
  have ek : C.K = X.K := eK.trans hK.symm
  obtain ⟨p, e, hp⟩ := len_inv ho
  obtain ⟨x, rfl, h1⟩ := hsr.oneV e
  rcases hp with ⟨ys, hp, rfl⟩ | ⟨kvs, rfl, rfl⟩
  · rcases hp with rfl | rfl
    · obtain ⟨a, vs, rfl, k1, r1⟩ := h1
      refine call_len_seq pins s σ H _ us Q I rs ⟨a, vs, rfl, .inl (.of k1), ?_⟩
      rw [r1.length]; exact q _ C H (.refl hF) rfl
    · obtain ⟨a, vs, rfl, k1, r1⟩ := h1
      refine call_len_seq pins s σ H _ us Q I rs ⟨a, vs, rfl, .inr (ek ▸ sqT_le hF k1), ?_⟩
      rw [r1.length]; exact q _ C H (.refl hF) rfl
  · obtain ⟨a, ob, es, rfl, hob, hd, hr⟩ := h1
    obtain ⟨u, rfl, rx⟩ := rs.one
    cases rx
    have hg := ob_at I ek hob
    obtain ⟨esA, ep, hdat, rfl⟩ := hd.data
    have hsz : esA.size = kvs.length := by rw [← Array.length_toList, hr.length]
    have hraw : s.heap.DictRaw a esA ep := ⟨ob, hg, hd.exact, hdat⟩
    have hl : kvs.length ≤ sizeLine := by rw [← LIM_eq]; exact hd.size
    refine call_len_slot (n := kvs.length) hraw.typeIs PySem.F.slot_dict_len (fun Q' hq => call_len_raw hd.sys hraw (by rw [hsz]; exact hq)) (by omega) (by rw [sizeLine_eq] at hl; omega) ⟨.int kvs.length, H, I.tok _, ⟨_, rfl⟩, q _ C H (.refl hF) rfl⟩
theorem abs_inv {cup : Option (Int × Int)} {ps : List PV} {r : PV} (h : opV cup (.bif .abs) ps = .ok r) : ∃ i, ps = [.int i] ∧ r = .int i.natAbs := by
  replace h : bifV .abs ps = .ok r := h
  cases ps with
  | nil => exact nomatch h
  | cons p ps =>
    cases ps with
    | nil => cases p <;> first | exact ⟨_, rfl, (Res.ok.inj h).symm⟩ | exact nomatch h
    | cons q ps => exfalso; cases p <;> exact nomatch h
theorem u_abs : CallR X (.builtin "abs") (fun xs H Q => UO G (.bif .abs) xs H Q) := by
  intro pins s σ H xs us Q I rs h
  obtain ⟨C, ps, r, cup, eK, ew, hF, hc, hsr, ho, q⟩ := h
  obtain ⟨i, e, rfl⟩ := abs_inv ho
  obtain ⟨x, rfl, h1⟩ := hsr.oneV e
  cases (show x = V.int i from h1)
  refine call_abs pins s σ H _ us Q I rs ⟨i, rfl, ?_⟩
  have e : (if i < 0 then -i else i) = (i.natAbs : Int) := by split <;> omega
  rw [e]
  exact q _ C H (.refl hF) rfl
theorem int_inv {cup : Option (Int × Int)} {ps : List PV} {r : PV} (h : opV cup (.bif .int) ps = .ok r) : ∃ i, ps = [.int i] ∧ r = .int i := by
  replace h : bifV .int ps = .ok r := h
  cases ps with
  | nil => exact nomatch h
  | cons p ps =>
    cases ps with
    | nil => cases p <;> first | exact ⟨_, rfl, (Res.ok.inj h).symm⟩ | exact nomatch h
    | cons q ps => exfalso; cases p <;> exact nomatch h
theorem u_int : CallR X (.type "int") (fun xs H Q => UO G (.bif .int) xs H Q) := by
  intro pins s σ H xs us Q I rs h
  obtain ⟨C, ps, r, cup, eK, ew, hF, hc, hsr, ho, q⟩ := h
  obtain ⟨i, e, rfl⟩ := int_inv ho
  obtain ⟨x, rfl, h1⟩ := hsr.oneV e
  cases (show x = V.int i from h1)
  exact call_int1 pins s σ H _ us Q I rs (.inl ⟨i, rfl, q _ C H (.refl hF) rfl⟩)
theorem tuple_inv {cup : Option (Int × Int)} {ps : List PV} {r : PV} (h : opV cup (.bif .tuple) ps = .ok r) : ∃ p xs, ps = [p] ∧ (p = .lst xs ∨ p = .tup xs) ∧ r = .tup xs := by
  replace h : bifV .tuple ps = .ok r := h
  cases ps with
  | nil => exact nomatch h
  | cons p ps =>
    cases ps with
    | nil => cases p <;> first | exact ⟨_, _, rfl, .inl rfl, (Res.ok.inj h).symm⟩ | exact ⟨_, _, rfl, .inr rfl, (Res.ok.inj h).symm⟩ | exact nomatch h
    | cons q ps => exfalso; cases p <;> exact nomatch h
theorem u_tuple (hK : X.K = G.K) : CallR X (.type "tuple") (fun xs H Q => UO G (.bif .tuple) xs H Q) := by
  intro pins s σ H xs us Q I rs h
  obtain ⟨C, ps, r, cup, eK, ew, hF, hc, hsr, ho, q⟩ := h
  have ek : C.K = X.K := eK.trans hK.symm
  obtain ⟨p, ys, e, hp, rfl⟩ := tuple_inv ho
  obtain ⟨x, rfl, h1⟩ := hsr.oneV e
  rcases hp with rfl | rfl
  · obtain ⟨a, vs, rfl, k1, r1⟩ := h1
    refine call_tuple_of pins s σ H _ us Q I rs ⟨a, vs, rfl, .inl ⟨.of k1, fun l hl => ?_⟩⟩
    obtain ⟨C', g, r'⟩ := new_tup hF hl r1
    exact q _ C' _ g r'
  · obtain ⟨a, vs, rfl, k1, r1⟩ := h1
    exact call_tuple_of pins s σ H _ us Q I rs ⟨a, vs, rfl, .inr ⟨ek ▸ sqT_le hF k1, q _ C H (.refl hF) ⟨a, vs, rfl, k1, r1⟩⟩⟩
/-- the items that are walked, as the model holds them -/
structure Src (X : Cx) (C : RC) (s : Shared) (v : Value) (xs : List PV) (vs : List V) (us : List Value) : Prop where
  vals : Vals vs us
  reps : Reps C xs vs
  size : us.length ≤ sizeLine
  col : ∀ (A : Around), A.handled = none → ∀ (E : Value → Shared → Prop) (Q : List Value → Shared → Prop), (∀ h' tk, (∀ b o, s.heap.get? b = some o → h'.get? b = some o) → Q us { s with heap := h', toks := tk }) → wpAny (model X.prog X.w) A (collect v) Q E s
theorem src_of {pins : List (Addr × Obj)} {s : Shared} {σ : L2.St} {H : Hp} {C : RC} {p : PV} {x : V} {v : Value} {xs : List PV} (I : Inv X pins σ H s) (ek : C.K = X.K) (hF : SubH C H) (h : SRep C H p x) (rx : RelV x v) (hs : seqOf p = some xs) : ∃ vs us, Src X C s v xs vs us := by
  cases p with
  | lst ys =>
    cases hs
    obtain ⟨a, vs, rfl, k1, r1⟩ := h
    cases rx
    obtain ⟨its, rv, hit, hz⟩ := I.list (.of k1)
    obtain ⟨o, ho, hc, n, hd⟩ := hit.isList
    have hl := rv.length
    refine ⟨vs, its, rv, r1, by omega, fun A hh E Q hq => wpAny_collect_seq a (.inl rfl) ho hc hd (fun h' hk => hq h' _ hk) (by rw [List.size_toArray]; omega)⟩
  | tup ys =>
    cases hs
    obtain ⟨a, vs, rfl, k1, r1⟩ := h
    cases rx
    obtain ⟨its, rv, ⟨o, ho, hc, n, hd⟩, hz⟩ := I.tuple (ek ▸ sqT_le hF k1)
    have hl := rv.length
    refine ⟨vs, its, rv, r1, by omega, fun A hh E Q hq => wpAny_collect_seq a (.inr rfl) ho hc hd (fun h' hk => hq h' _ hk) (by rw [List.size_toArray]; omega)⟩
  | dct kvs =>
    cases hs
    obtain ⟨a, ob, es, rfl, hob, hd, hr⟩ := h
    cases rx
    have hg := ob_at I ek hob
    obtain ⟨esA, ep, hdat, rfl⟩ := hd.data
    have hsz : esA.size = kvs.length := by rw [← Array.length_toList, hr.length]
    have hl : kvs.length ≤ sizeLine := by rw [← LIM_eq]; exact hd.size
    obtain ⟨vs, rv, rr⟩ := hr.keys
    refine ⟨vs, _, rv, rr, by rw [List.length_map, Array.length_toList]; omega, fun A hh E Q hq => PySem.W.kdu_collect (kdl_raw hd.sys hd.exact hdat) hh hg (by omega) fun h' tk acc hk it => ?_⟩
    have ea : acc.toList = esA.toList.map (·.key) := by
      have hln : acc.toList.length = esA.toList.length := by rw [Array.length_toList, it.1, Array.length_toList]
      apply List.ext_getElem?
      intro j
      rw [List.getElem?_map]
      cases hj : acc.toList[j]? with
      | none =>
        have h1 := List.getElem?_eq_none_iff.mp hj
        rw [List.getElem?_eq_none_iff.mpr (by omega)]; rfl
      | some u =>
        obtain ⟨en, h1, h2⟩ := it.2 j u (by rw [← Array.getElem?_toList]; exact hj)
        rw [Array.getElem?_toList, h1, h2]; rfl
    rw [ea]
    exact hq h' tk hk
  | _ => exact nomatch hs
theorem list_inv {cup : Option (Int × Int)} {ps : List PV} {r : PV} (h : opV cup (.bif .list) ps = .ok r) : ∃ p xs, ps = [p] ∧ (p = .scr xs ∨ seqOf p = some xs) ∧ r = .lst xs := by
  replace h : bifV .list ps = .ok r := h
  cases ps with
  | nil => exact nomatch h
  | cons p ps =>
    cases ps with
    | nil =>
      cases p <;> first
        | exact ⟨_, _, rfl, .inl rfl, (Res.ok.inj h).symm⟩
        | exact ⟨_, _, rfl, .inr rfl, (Res.ok.inj h).symm⟩
        | exact nomatch h
    | cons q ps => exfalso; cases p <;> exact nomatch h
theorem u_list (hK : X.K = G.K) (hc : X.calm = true) : CallR X (.type "list") (fun xs H Q => UO G (.bif .list) xs H Q) := by
  intro pins s σ H xs us Q I rs h
  obtain ⟨C, ps, r, cup, eK, ew, hF, hcu, hsr, ho, q⟩ := h
  have ek : C.K = X.K := eK.trans hK.symm
  obtain ⟨p, ys, e, hp, rfl⟩ := list_inv ho
  obtain ⟨x, rfl, h1⟩ := hsr.oneV e
  have fin : ∀ vs, Reps C ys vs → ∀ l, H l = none → Q (.ref l) (upd H l (.lst vs)) := fun vs r1 l hl => by
    obtain ⟨g, r'⟩ := own_lst hF hl r1
    exact q _ C _ g r'
  rcases hp with rfl | hp
  · obtain ⟨a, vs, rfl, k1, r1⟩ := h1
    exact call_list_of pins s σ H _ us Q I rs ⟨a, vs, rfl, .inl (ek ▸ sqL_le hF k1), fin vs r1⟩
  · cases p with
    | lst zs =>
      cases hp
      obtain ⟨a, vs, rfl, k1, r1⟩ := h1
      exact call_list_of pins s σ H _ us Q I rs ⟨a, vs, rfl, .inl (.of k1), fin vs r1⟩
    | tup zs =>
      cases hp
      obtain ⟨a, vs, rfl, k1, r1⟩ := h1
      exact call_list_of pins s σ H _ us Q I rs ⟨a, vs, rfl, .inr (ek ▸ sqT_le hF k1), fin vs r1⟩
    | dct kvs =>
      cases hp
      obtain ⟨a, ob, es, rfl, hob, hd, hr⟩ := h1
      obtain ⟨u, rfl, rx⟩ := rs.one
      cases rx
      have hg := ob_at I ek hob
      obtain ⟨esA, ep, hdat, rfl⟩ := hd.data
      have hsz : esA.size = kvs.length := by rw [← Array.length_toList, hr.length]
      have hl : kvs.length ≤ sizeLine := by rw [← LIM_eq]; exact hd.size
      obtain ⟨vs, rv, rr⟩ := hr.keys
      refine PySem.W.kdl_call (kdl_raw hd.sys hd.exact hdat) (I.ok.hd hc) hg (by omega) fun h' tk acc c' kp e it => ?_
      have ea : acc.toList = esA.toList.map (·.key) := by
        have hln : acc.toList.length = esA.toList.length := by rw [Array.length_toList, it.1, Array.length_toList]
        apply List.ext_getElem?
        intro j
        rw [List.getElem?_map]
        cases hj : acc.toList[j]? with
        | none =>
          have h1 := List.getElem?_eq_none_iff.mp hj
          rw [List.getElem?_eq_none_iff.mpr (by omega)]; rfl
        | some u =>
          obtain ⟨en, h1, h2⟩ := it.2 j u (by rw [← Array.getElem?_toList]; exact hj)
          rw [Array.getElem?_toList, h1, h2]; rfl
      have hp := I.hok.fresh (Nat.le_refl _)
      have hlv : vs.length = kvs.length := by rw [rr.length, List.length_map]
      refine ⟨.ref _, _, I.laid (t' := tk) (o := .lst vs) kp (Nat.le_refl _) ⟨by omega, acc.toList, c', by rw [ea]; exact rv, by simpa using e⟩, rfl, fin vs rr _ hp⟩
    | _ => exact nomatch hp
end
end Py
end

section
set_option Elab.async false
set_option linter.all false
set_option autoImplicit false
set_option maxRecDepth 100000
/-! Sums, any, all, sorted, min, max. -/
namespace Py
open PySem PySem.Spec PyProof.Rows L2

theorem mapM_int : ∀ {xs : List PV} {is : List Int}, xs.mapM intOf = some is → xs = is.map PV.int
  | [], is, h => by cases h; rfl
  | x :: xs, is, h => by
    rw [List.mapM_cons] at h
    obtain ⟨i, h1, h⟩ := Option.bind_eq_some_iff.mp h
    obtain ⟨js, h2, h⟩ := Option.bind_eq_some_iff.mp h
    cases h
    rw [mapM_int h2, List.map_cons]
    cases x <;> first | (cases Option.some.inj h1; rfl) | exact nomatch h1
theorem mapM_bl : ∀ {xs : List PV} {bs : List Bool}, xs.mapM blOf = some bs → xs = bs.map PV.bl
  | [], is, h => by cases h; rfl
  | x :: xs, is, h => by
    rw [List.mapM_cons] at h
    obtain ⟨i, h1, h⟩ := Option.bind_eq_some_iff.mp h
    obtain ⟨js, h2, h⟩ := Option.bind_eq_some_iff.mp h
    cases h
    rw [mapM_bl h2, List.map_cons]
    cases x <;> first | (cases Option.some.inj h1; rfl) | exact nomatch h1
theorem reps_ints {C : RC} : ∀ {is : List Int} {vs : List V}, Reps C (is.map PV.int) vs → vs = is.map V.int
  | [], _, h => h
  | i :: is, vs, h => by
    rw [List.map_cons] at h
    obtain ⟨v, r, rfl, h1, h2⟩ := h.cons_inv
    rw [reps_ints h2, show v = V.int i from h1, List.map_cons]
theorem reps_bls {C : RC} : ∀ {is : List Bool} {vs : List V}, Reps C (is.map PV.bl) vs → vs = is.map V.bl
  | [], _, h => h
  | i :: is, vs, h => by
    rw [List.map_cons] at h
    obtain ⟨v, r, rfl, h1, h2⟩ := h.cons_inv
    rw [reps_bls h2, show v = V.bl i from h1, List.map_cons]
section
variable {G : GP} {X : Cx}
theorem sum_inv {cup : Option (Int × Int)} {ps : List PV} {r : PV} (h : opV cup (.bif .sum) ps = .ok r) : ∃ (p : PV) (is : List Int), ps = [p] ∧ (p = .lst (is.map PV.int) ∨ p = .tup (is.map PV.int)) ∧ r = .int is.sum := by
  replace h : bifV .sum ps = .ok r := h
  have go : ∀ xs : List PV, ((Res.ofOpt (xs.mapM intOf)).bind fun is => Res.ok (PV.int is.sum)) = .ok r → ∃ is : List Int, xs = is.map PV.int ∧ r = .int is.sum := fun xs h => by
    obtain ⟨is, h1, h2⟩ := bindR h
    exact ⟨is, mapM_int (Res.ofOpt_ok h1), (Res.ok.inj h2).symm⟩
  cases ps with
  | nil => exact nomatch h
  | cons p ps =>
    cases ps with
    | nil =>
      cases p with
      | lst xs => obtain ⟨is, rfl, e⟩ := go xs h; exact ⟨_, is, rfl, .inl rfl, e⟩
      | tup xs => obtain ⟨is, rfl, e⟩ := go xs h; exact ⟨_, is, rfl, .inr rfl, e⟩
      | _ => exact nomatch h
    | cons q ps => exfalso; cases p <;> exact nomatch h
theorem u_sum (hK : X.K = G.K) (hc : X.calm = true) : CallR X (.builtin "sum") (fun xs H Q => UO G (.bif .sum) xs H Q) := by
  intro pins s σ H xs us Q I rs h
  obtain ⟨C, ps, r, cup, eK, ew, hF, hcu, hsr, ho, q⟩ := h
  have ek : C.K = X.K := eK.trans hK.symm
  obtain ⟨p, ns, e, hp, rfl⟩ := sum_inv ho
  obtain ⟨x, rfl, h1⟩ := hsr.oneV e
  rcases hp with rfl | rfl
  · obtain ⟨a, vs, rfl, k1, r1⟩ := h1
    rw [reps_ints r1] at k1
    exact cr_sum hc pins s σ H _ us Q I rs ⟨a, ns, rfl, .of k1, q _ C H (.refl hF) rfl⟩
  · obtain ⟨a, vs, rfl, k1, r1⟩ := h1
    rw [reps_ints r1] at k1
    obtain ⟨its, rv, hit, hz⟩ := I.tuple (ek ▸ sqT_le hF k1)
    rw [Vals.ref1 rs]
    have hi := rv.ints
    obtain ⟨ys, ey⟩ := hi.allInts.items
    have hn : numsOf (intItems ys).toList = ns := by rw [← ey]; exact hi.numsOf
    rw [nums_intItems] at hn
    rw [ey] at hit
    refine PySem.W.ktm_sumG (I.ok.hd hc) hit fun h' tk t' hk => ⟨.int ns.sum, H, I.kept hk, ⟨t', ?_⟩, q _ C H (.refl hF) rfl⟩
    rw [preSum_eq, List.take_of_length_le (by simp), hn]
theorem any_inv {cup : Option (Int × Int)} {ps : List PV} {r : PV} (h : opV cup (.bif .any) ps = .ok r) : ∃ bs : List Bool, ps = [.lst (bs.map PV.bl)] ∧ r = .bl (bs.any id) := by
  replace h : bifV .any ps = .ok r := h
  cases ps with
  | nil => exact nomatch h
  | cons p ps =>
    cases ps with
    | nil =>
      cases p with
      | lst xs =>
        obtain ⟨is, h1, h2⟩ := bindR (show ((Res.ofOpt (xs.mapM blOf)).bind fun bs => Res.ok (PV.bl (bs.any id))) = .ok r from h)
        exact ⟨is, by rw [mapM_bl (Res.ofOpt_ok h1)], (Res.ok.inj h2).symm⟩
      | _ => exact nomatch h
    | cons q ps => exfalso; cases p <;> exact nomatch h
theorem all_inv {cup : Option (Int × Int)} {ps : List PV} {r : PV} (h : opV cup (.bif .all) ps = .ok r) : ∃ bs : List Bool, ps = [.lst (bs.map PV.bl)] ∧ r = .bl (bs.all id) := by
  replace h : bifV .all ps = .ok r := h
  cases ps with
  | nil => exact nomatch h
  | cons p ps =>
    cases ps with
    | nil =>
      cases p with
      | lst xs =>
        obtain ⟨is, h1, h2⟩ := bindR (show ((Res.ofOpt (xs.mapM blOf)).bind fun bs => Res.ok (PV.bl (bs.all id))) = .ok r from h)
        exact ⟨is, by rw [mapM_bl (Res.ofOpt_ok h1)], (Res.ok.inj h2).symm⟩
      | _ => exact nomatch h
    | cons q ps => exfalso; cases p <;> exact nomatch h
theorem u_any (hc : X.calm = true) : CallR X (.builtin "any") (fun xs H Q => UO G (.bif .any) xs H Q) := by
  intro pins s σ H xs us Q I rs h
  obtain ⟨C, ps, r, cup, eK, ew, hF, hcu, hsr, ho, q⟩ := h
  obtain ⟨bs, e, rfl⟩ := any_inv ho
  obtain ⟨x, rfl, h1⟩ := hsr.oneV e
  obtain ⟨a, vs, rfl, k1, r1⟩ := h1
  rw [reps_bls r1] at k1
  exact cr_any hc pins s σ H _ us Q I rs ⟨a, bs, rfl, .of k1, q _ C H (.refl hF) rfl⟩
theorem u_all (hc : X.calm = true) : CallR X (.builtin "all") (fun xs H Q => UO G (.bif .all) xs H Q) := by
  intro pins s σ H xs us Q I rs h
  obtain ⟨C, ps, r, cup, eK, ew, hF, hcu, hsr, ho, q⟩ := h
  obtain ⟨bs, e, rfl⟩ := all_inv ho
  obtain ⟨x, rfl, h1⟩ := hsr.oneV e
  obtain ⟨a, vs, rfl, k1, r1⟩ := h1
  rw [reps_bls r1] at k1
  exact cr_all hc pins s σ H _ us Q I rs ⟨a, bs, rfl, .of k1, q _ C H (.refl hF) rfl⟩
end

/-! ### sorted -/
theorem each_vals {C : RC} : ∀ {xs : List PV} {vs : List V} {us : List Value}, Reps C xs vs → Vals vs us → PySem.W.EachIs (fun u p => ∃ v, RelV v u ∧ Rep C p v) us xs
  | [], _, _, h, r => by rw [Reps.nil_inv h] at r; cases r; exact .nil
  | x :: xs, _, _, h, r => by
    obtain ⟨v, t, rfl, h1, h2⟩ := h.cons_inv
    cases r with
    | cons r1 r2 => exact .cons ⟨v, r1, h1⟩ (each_vals h2 r2)
theorem vals_each {C : RC} : ∀ {us : List Value} {xs : List PV}, PySem.W.EachIs (fun u p => ∃ v, RelV v u ∧ Rep C p v) us xs → ∃ vs, Vals vs us ∧ Reps C xs vs
  | _, _, .nil => ⟨[], .nil, Reps.nil⟩
  | _, _, .cons ⟨v, h1, h2⟩ t => by
    obtain ⟨vs, g1, g2⟩ := vals_each t
    exact ⟨v :: vs, .cons h1 g1, Reps.cons h2 g2⟩
theorem allAlike_ok {xs : List PV} (h : allAlike xs = true) : (∀ x ∈ xs, x.fine = true) ∧ ∀ x ∈ xs, ∀ y ∈ xs, x.alike y = true := by
  unfold allAlike at h
  rw [List.all_eq_true] at h
  refine ⟨fun x hx => ?_, fun x hx y hy => ?_⟩
  · have := h x hx
    rw [Bool.and_eq_true] at this
    exact this.1
  · have := h x hx
    rw [Bool.and_eq_true] at this
    exact List.all_eq_true.mp this.2 y hy
theorem fine_okS {x : PV} (h : x.fine = true) : x.plain = true ∧ x.depth ≤ 64 := by
  unfold PV.fine at h
  rw [Bool.and_eq_true] at h
  exact ⟨h.1, of_decide_eq_true h.2⟩
theorem sortable_ok {xs : List PV} (h : sortable xs = true) : (∀ x ∈ xs, x.fine = true) ∧ PySem.W.AllAlike (xs.map PV.toD) ∧ PySem.W.Sortable (xs.map PV.toD) ∧ ∀ x ∈ xs, ∀ y ∈ xs, x.alike y = true := by
  unfold sortable at h
  rw [Bool.and_eq_true] at h
  obtain ⟨h1, h2⟩ := h
  obtain ⟨f, al⟩ := allAlike_ok h1
  refine ⟨f, fun d hd d' hd' => ?_, ?_, al⟩
  · obtain ⟨x, hx, rfl⟩ := List.mem_map.mp hd
    obtain ⟨y, hy, rfl⟩ := List.mem_map.mp hd'
    exact PV.alike_toD x y (al x hx y hy)
  · rw [Bool.or_eq_true] at h2
    rcases h2 with h2 | h2
    · refine .inl fun d hd => ?_
      obtain ⟨x, hx, rfl⟩ := List.mem_map.mp hd
      have := List.all_eq_true.mp h2 x hx
      cases x with
      | tup ys =>
        cases ys with
        | nil => exact nomatch this
        | cons y ys => exact ⟨y.toD, PV.toDs ys, by rw [PV.toD, PV.toDs]⟩
      | _ => exact nomatch this
    · refine .inr fun d hd => ?_
      obtain ⟨x, hx, rfl⟩ := List.mem_map.mp hd
      have h3 := List.all_eq_true.mp h2 x hx
      have h4 := (fine_okS (f x hx)).1
      cases x with
      | bl b => rw [PV.toD]; exact ⟨fun e => PySem.PyData.noConfusion e, fun _ e => PySem.PyData.noConfusion e⟩
      | int b => rw [PV.toD]; exact ⟨fun e => PySem.PyData.noConfusion e, fun _ e => PySem.PyData.noConfusion e⟩
      | str b => rw [PV.toD]; exact ⟨fun e => PySem.PyData.noConfusion e, fun _ e => PySem.PyData.noConfusion e⟩
      | lst b => rw [PV.toD]; exact ⟨fun e => PySem.PyData.noConfusion e, fun _ e => PySem.PyData.noConfusion e⟩
      | non => exact absurd h3 Bool.false_ne_true
      | tup _ => exact absurd h3 Bool.false_ne_true
      | _ => rw [PV.plain] at h4; exact absurd h4 Bool.false_ne_true
theorem sort_le {xs : List PV} (h : ∀ x ∈ xs, ∀ y ∈ xs, x.alike y = true) : xs.mergeSort (PySem.W.dataLe false PV.toD) = sortV xs := by
  unfold sortV
  have := @List.map_mergeSort PV PV (PySem.W.dataLe false PV.toD) PV.le id xs (fun a ha b hb => by
    rw [PySem.W.dataLe_eq]
    show (!PySem.W.dataLt b.toD a.toD) = (!PV.lt b a)
    rw [PV.lt_toD b a (h b hb a ha)])
  rw [List.map_id, List.map_id] at this
  exact this
section
variable {prog : Program} {w : World} {A : Around} {E : Value → Shared → Prop} {s : Shared}
open PySem.W in
theorem sorted_src {v : Value} {us : List Value} {xs : List PV} {R : Value → PV → Prop} {Q : Value → Shared → Prop} (hh : A.handled = none)
    (col : ∀ (A : Around), A.handled = none → ∀ (E : Value → Shared → Prop) (Q : List Value → Shared → Prop), (∀ h' tk, (∀ b o, s.heap.get? b = some o → h'.get? b = some o) → Q us { s with heap := h', toks := tk }) → wpAny (model prog w) A (collect v) Q E s)
    (e : PySem.W.EachIs R us xs) (er : PySem.W.EachIs (fun u p => ∃ as, Reads s.heap u (PV.toD p) as) us xs) (hal : PySem.W.AllAlike (xs.map PV.toD)) (hk : PySem.W.Sortable (xs.map PV.toD)) (hL : us.length ≤ sizeLine) (hu : ∀ p ∈ xs, A.units + 2 + (PV.toD p).depth < cLine)
    (h : ∀ h' tk l n out, out.length = us.length → PySem.W.EachIs R out (xs.mergeSort (PySem.W.dataLe false PV.toD)) → (∀ b o, s.heap.get? b = some o → h'.get? b = some o) → s.heap.get? l = none → h'.get? l = some { cls := .type "list", dict := none, data := .seq (List.toArray out) n, slots := #[] } → Q (.ref l) { s with heap := h', toks := tk }) :
    wpAny (model prog w) A (call (.builtin "sorted") [v]) Q E s := by
  refine call_function_entry_kw kind_sorted plain_sorted entry_sorted (args_sorted1 _) ?_
  unfold Builtin.«sorted»
  refine wpAny_bind (m := checkCount "sorted" 1 1 _) (wpAny_pure ?_)
  refine wpAny_bind (col A.in1 hh _ _ fun h' tk kp => ?_)
  refine wpAny_bind (wpAny_newList ?_ hL)
  have at_ : (h'.push (seqObj "list" us.toArray 0)).get? h'.objs.size = some (seqObj "list" us.toArray 0) := Heap.get?_push_size _ rfl
  have fr : s.heap.get? h'.objs.size = none := by
    cases h2 : s.heap.get? h'.objs.size with
    | none => rfl
    | some o => exact absurd (Heap.lt_size (kp _ _ h2)) (Nat.lt_irrefl _)
  refine wpAny_bind (wpAny_holding (wpAny_call_entry_kw slot_list_sort ⟨_, at_, rfl⟩ entry_list_sort ?body (args_list_sort _)))
  case body =>
    have k2 : ∀ b o, s.heap.get? b = some o → (sortingHeap (h'.push (seqObj "list" us.toArray 0)) h'.objs.size us).get? b = some o := fun b o q =>
      sortingHeap_old (Nat.ne_of_lt (Heap.lt_size (kp _ _ q))) (Heap.get?_push_of_some _ (kp _ _ q))
    have er' : PySem.W.EachIs (fun u p => ∃ as, Reads (sortingHeap (h'.push (seqObj "list" us.toArray 0)) h'.objs.size us) u (PV.toD p) as) us xs := er.mono fun _ _ ⟨as, r⟩ => ⟨as, PyProof.Rows.Reads.keeps k2 r⟩
    have S := SortsAt.data (prog := prog) (w := w) (A := A.in1.in1) (s := { s with heap := sortingHeap (h'.push (seqObj "list" us.toArray 0)) h'.objs.size us, toks := tk }) (each_map (R := fun v d => ∃ as, Reads (sortingHeap (h'.push (seqObj "list" us.toArray 0)) h'.objs.size us) v d as) PV.toD er') hal hk (bound_map (A := A.in1.in1) (enc := PV.toD) hu)
    show wpAny (model prog w) A.in1.in1 (Builtin.«list.sort» ⟨[.ref h'.objs.size], []⟩) _ _ _
    refine list_sort_vals (s := { s with heap := h'.push (seqObj "list" us.toArray 0), toks := tk }) at_ S hL ?_
    refine ⟨_, rfl, wpAny_pure ⟨_, rfl, ?_⟩⟩
    obtain ⟨n, en⟩ := sortedHeap_at (out := (sortVals (dataKind (sortingHeap (h'.push (seqObj "list" us.toArray 0)) h'.objs.size us) (xs.map PV.toD)) false us us).toArray) at_
    refine h _ _ h'.objs.size n _ (sortVals_length false rfl) (sortVals_data false e er' hal) (fun b o q => ?_) fr en
    have hlt := Heap.lt_size (kp _ _ q)
    exact (sortedHeap_old (Nat.ne_of_lt hlt) (by rw [size_push']; exact Nat.lt_succ_of_lt hlt)).trans (Heap.get?_push_of_some _ (kp _ _ q))
end
theorem objOk_there {P : Program} {w : World} {H : Hp} {h : Heap} {a : Addr} : ∀ {o : HO}, ObjOk P w H h a o → ∃ u, h.get? a = some u
  | .lst xs, ⟨_, _, _, _, e⟩ => ⟨_, e⟩
  | .tup xs, ⟨_, _, _, p⟩ => by obtain ⟨o, e, _⟩ := p; exact ⟨_, e⟩
  | .dK kvs, ⟨_, _, _, _, o, _, _, e, _⟩ => ⟨_, e⟩
  | .dT kvs, ⟨_, _, _, _, o, _, _, e, _⟩ => ⟨_, e⟩
  | .set S n, x => by obtain ⟨o, _, _, _, e, _⟩ := x; exact ⟨_, e⟩
  | .ins C dx fs, ⟨_, _, _, e, _⟩ => ⟨_, e⟩
  | .own y, ⟨_, e⟩ => ⟨_, e⟩
  | .xd fs, ⟨_, ⟨_, _, _, e, _⟩, _⟩ => ⟨_, e⟩
  | .rng lo hi, ⟨_, _, _, e⟩ => ⟨_, e⟩
  | .frz ob u, ⟨e, _⟩ => ⟨_, e⟩
  | .tbl ps, x => ⟨_, x⟩
  | .met f y, x => ⟨_, x⟩
  | .ext φ, ⟨_, ⟨_, e⟩, _⟩ => ⟨_, e⟩
theorem hp_none {P : Program} {w : World} {H : Hp} {h : Heap} {a : Addr} (x : HOk P w H h) (e : h.get? a = none) : H a = none := by
  cases q : H a with
  | none => rfl
  | some u =>
    obtain ⟨o, h1⟩ := objOk_there (x a u q)
    rw [e] at h1; cases h1
section
variable {G : GP} {X : Cx}
theorem sorted_inv {cup : Option (Int × Int)} {ps : List PV} {r : PV} (h : opV cup (.bif .sorted) ps = .ok r) : ∃ p xs, ps = [p] ∧ seqOf p = some xs ∧ sortable xs = true ∧ r = .lst (sortV xs) := by
  replace h : bifV .sorted ps = .ok r := h
  cases ps with
  | nil => exact nomatch h
  | cons p ps =>
    cases ps with
    | nil =>
      have h' : ((Res.ofOpt (seqOf p)).bind fun xs => Res.of (sortable xs) (Res.ok (PV.lst (sortV xs)))) = .ok r := by cases p <;> exact h
      obtain ⟨xs, h1, h2⟩ := bindR h'
      obtain ⟨h3, h4⟩ := Res.of_ok h2
      exact ⟨p, xs, rfl, Res.ofOpt_ok h1, h3, (Res.ok.inj h4).symm⟩
    | cons q ps => exfalso; cases p <;> exact nomatch h
theorem u_sorted (hK : X.K = G.K) (hc : X.calm = true) (hu : X.A.units + 200 < cLine) : CallR X (.builtin "sorted") (fun xs H Q => UO G (.bif .sorted) xs H Q) := by
  intro pins s σ H xs us Q I rs h
  obtain ⟨C, ps, r, cup, eK, ew, hF, hcu, hsr, ho, q⟩ := h
  have ek : C.K = X.K := eK.trans hK.symm
  obtain ⟨p, ys, e, hp, hso, rfl⟩ := sorted_inv ho
  obtain ⟨x, rfl, h1⟩ := hsr.oneV e
  obtain ⟨u, rfl, rx⟩ := rs.one
  obtain ⟨vs, us, S⟩ := src_of I ek hF h1 rx hp
  obtain ⟨hfine, hal, hsr, hali⟩ := sortable_ok hso
  have ev := each_vals S.reps S.vals
  have er : PySem.W.EachIs (fun u p => ∃ as, Reads s.heap u (PV.toD p) as) us ys := by
    obtain ⟨as, q⟩ := Reps.reads I ek hF ys vs us (by rw [PV.plains_all, List.all_eq_true]; exact fun x hx => (fine_okS (hfine x hx)).1) S.reps S.vals
    rw [PV.toDs_map] at q
    exact PySem.W.readsAll_each PV.toD q
  refine sorted_src (I.ok.hd hc) S.col ev er hal hsr S.size (fun p hp => by rw [PV.toD_depth]; have := (fine_okS (hfine p hp)).2; omega) fun h' tk l n out hlen ho hk hn hat => ?_
  rw [sort_le hali] at ho
  obtain ⟨vs', rv', rr'⟩ := vals_each ho
  have hH := hp_none I.hok hn
  have hlv := rv'.length
  have hsz := S.size
  refine ⟨.ref l, _, I.laidN (t' := tk) (o := .lst vs') hk hn hH ⟨by omega, out, n, rv', hat⟩, rfl, ?_⟩
  obtain ⟨g, r'⟩ := own_lst hF hH rr'
  exact q _ C _ g r'
end
end Py
end

section
set_option Elab.async false
set_option linter.all false
set_option autoImplicit false
set_option maxRecDepth 100000
/-! min, max. -/
namespace Py
open PySem PySem.Spec PyProof.Rows L2

mutual
theorem PV.toD_inj : ∀ x y : PV, x.plain = true → y.plain = true → x.toD = y.toD → x = y
  | .non, y, _, hy, e => by cases y <;> first | rfl | (rw [PV.toD, PV.toD] at e; exact PySem.PyData.noConfusion e) | (rw [PV.plain] at hy; exact absurd hy Bool.false_ne_true)
  | .bl a, y, _, hy, e => by cases y <;> first | (rw [PV.toD, PV.toD] at e; injection e with e; rw [e]; done) | (rw [PV.toD, PV.toD] at e; exact PySem.PyData.noConfusion e) | (rw [PV.plain] at hy; exact absurd hy Bool.false_ne_true)
  | .int a, y, _, hy, e => by cases y <;> first | (rw [PV.toD, PV.toD] at e; injection e with e; rw [e]; done) | (rw [PV.toD, PV.toD] at e; exact PySem.PyData.noConfusion e) | (rw [PV.plain] at hy; exact absurd hy Bool.false_ne_true)
  | .str a, y, _, hy, e => by cases y <;> first | (rw [PV.toD, PV.toD] at e; injection e with e; rw [e]; done) | (rw [PV.toD, PV.toD] at e; exact PySem.PyData.noConfusion e) | (rw [PV.plain] at hy; exact absurd hy Bool.false_ne_true)
  | .tup xs, y, hx, hy, e => by
    cases y with
    | tup ys =>
      rw [PV.toD, PV.toD] at e; injection e with e
      rw [PV.plain] at hx hy
      rw [PV.toDs_inj xs ys hx hy e]
    | _ => first | (rw [PV.toD, PV.toD] at e; exact PySem.PyData.noConfusion e) | (rw [PV.plain] at hy; exact absurd hy Bool.false_ne_true)
  | .lst xs, y, hx, hy, e => by
    cases y with
    | lst ys =>
      rw [PV.toD, PV.toD] at e; injection e with e
      rw [PV.plain] at hx hy
      rw [PV.toDs_inj xs ys hx hy e]
    | _ => first | (rw [PV.toD, PV.toD] at e; exact PySem.PyData.noConfusion e) | (rw [PV.plain] at hy; exact absurd hy Bool.false_ne_true)
  | .dct _, _, hx, _, _ => by rw [PV.plain] at hx; exact absurd hx Bool.false_ne_true
  | .cup, _, hx, _, _ => by rw [PV.plain] at hx; exact absurd hx Bool.false_ne_true
  | .fn _, _, hx, _, _ => by rw [PV.plain] at hx; exact absurd hx Bool.false_ne_true
  | .scr _, _, hx, _, _ => by rw [PV.plain] at hx; exact absurd hx Bool.false_ne_true
theorem PV.toDs_inj : ∀ xs ys : List PV, PV.plains xs = true → PV.plains ys = true → PV.toDs xs = PV.toDs ys → xs = ys
  | [], [], _, _, _ => rfl
  | [], _ :: _, _, _, e => by rw [PV.toDs, PV.toDs] at e; cases e
  | _ :: _, [], _, _, e => by rw [PV.toDs, PV.toDs] at e; cases e
  | x :: xs, y :: ys, hx, hy, e => by
    rw [PV.plains, Bool.and_eq_true] at hx hy
    rw [PV.toDs, PV.toDs] at e
    injection e with e1 e2
    rw [PV.toD_inj x y hx.1 hy.1 e1, PV.toDs_inj xs ys hx.2 hy.2 e2]
end
def minF (x : PV) (xs : List PV) : PV := xs.foldl (fun a y => if PV.lt y a then y else a) x
def maxF (x : PV) (xs : List PV) : PV := xs.foldl (fun a y => if PV.lt a y then y else a) x
theorem minF_toD : ∀ (xs : List PV) (x : PV), (∀ a ∈ x :: xs, ∀ b ∈ x :: xs, a.alike b = true) → (minF x xs).toD = PySem.W.minD x.toD (PV.toDs xs) ∧ minF x xs ∈ x :: xs
  | [], x, _ => by rw [PV.toDs]; exact ⟨rfl, List.mem_cons_self⟩
  | y :: xs, x, h => by
    have e : (if PySem.W.dataLt y.toD x.toD then y.toD else x.toD) = (if PV.lt y x then y else x).toD := by
      rw [PV.lt_toD y x (h y (by simp) x (by simp))]
      split <;> rfl
    have ih := minF_toD xs (if PV.lt y x then y else x) fun a ha b hb => h a (by
      rcases List.mem_cons.mp ha with rfl | ha
      · split <;> simp
      · simp [ha]) b (by
      rcases List.mem_cons.mp hb with rfl | hb
      · split <;> simp
      · simp [hb])
    rw [PV.toDs]
    show (minF (if PV.lt y x then y else x) xs).toD = PySem.W.minD (if PySem.W.dataLt y.toD x.toD then y.toD else x.toD) (PV.toDs xs) ∧ minF (if PV.lt y x then y else x) xs ∈ x :: y :: xs
    rw [e]
    refine ⟨ih.1, ?_⟩
    rcases List.mem_cons.mp ih.2 with q | q
    · rw [q]; split <;> simp
    · simp [q]
theorem maxF_toD : ∀ (xs : List PV) (x : PV), (∀ a ∈ x :: xs, ∀ b ∈ x :: xs, a.alike b = true) → (maxF x xs).toD = PySem.W.maxD x.toD (PV.toDs xs) ∧ maxF x xs ∈ x :: xs
  | [], x, _ => by rw [PV.toDs]; exact ⟨rfl, List.mem_cons_self⟩
  | y :: xs, x, h => by
    have e : (if PySem.W.dataLt x.toD y.toD then y.toD else x.toD) = (if PV.lt x y then y else x).toD := by
      rw [PV.lt_toD x y (h x (by simp) y (by simp))]
      split <;> rfl
    have ih := maxF_toD xs (if PV.lt x y then y else x) fun a ha b hb => h a (by
      rcases List.mem_cons.mp ha with rfl | ha
      · split <;> simp
      · simp [ha]) b (by
      rcases List.mem_cons.mp hb with rfl | hb
      · split <;> simp
      · simp [hb])
    rw [PV.toDs]
    show (maxF (if PV.lt x y then y else x) xs).toD = PySem.W.maxD (if PySem.W.dataLt x.toD y.toD then y.toD else x.toD) (PV.toDs xs) ∧ maxF (if PV.lt x y then y else x) xs ∈ x :: y :: xs
    rw [e]
    refine ⟨ih.1, ?_⟩
    rcases List.mem_cons.mp ih.2 with q | q
    · rw [q]; split <;> simp
    · simp [q]
theorem alike_none {x y : PV} (h : x.alike y = true) (hx : x.isNon = false) : y.isNon = false := by
  cases y <;> first | rfl | skip
  cases x <;> first | (rw [PV.alike] at h; exact absurd h Bool.false_ne_true) | exact absurd hx (by simp [PV.isNon]) | skip
  all_goals simp [PV.alike] at h
theorem toD_none {x : PV} (h : x.isNon = false) (hp : x.plain = true) : x.toD ≠ .none := by
  cases x <;> first | (rw [PV.toD]; intro e; cases e; done) | (rw [PV.plain] at hp; exact absurd hp Bool.false_ne_true) | exact absurd h (fun e => Bool.noConfusion e)
theorem pick_ok {x : PV} {xs : List PV} (h : (allAlike (x :: xs) && !x.isNon) = true) : (∀ y ∈ x :: xs, y.fine = true) ∧ (∀ a ∈ x :: xs, ∀ b ∈ x :: xs, a.alike b = true) ∧ PySem.W.AlikeAll (PV.toDs (x :: xs)) := by
  rw [Bool.and_eq_true] at h
  obtain ⟨f, al⟩ := allAlike_ok h.1
  have hx : x.isNon = false := by simpa using h.2
  refine ⟨f, al, ?_⟩
  rw [PV.toDs_map]
  refine ⟨fun d hd d' hd' => ?_, fun d hd => ?_⟩
  · obtain ⟨a, ha, rfl⟩ := List.mem_map.mp hd
    obtain ⟨b, hb, rfl⟩ := List.mem_map.mp hd'
    exact PV.alike_toD a b (al a ha b hb)
  · obtain ⟨a, ha, rfl⟩ := List.mem_map.mp hd
    exact toD_none (alike_none (al x (by simp) a ha) hx) (fine_okS (f a ha)).1
section
variable {G : GP} {X : Cx}
theorem fines_depth {xs : List PV} (h : ∀ y ∈ xs, y.fine = true) : PV.plains xs = true ∧ PV.depths xs ≤ 64 := fines_ok (List.all_eq_true.mpr h)
/-- the item that was picked -/
theorem vals_getV {vs : List V} {us : List Value} (r : Vals vs us) {i : Nat} {u : Value} (h : us[i]? = some u) : ∃ v, vs[i]? = some v ∧ RelV v u := by
  cases e : vs[i]? with
  | none =>
    have h1 := List.getElem?_eq_none_iff.mp e
    have h2 := r.length
    rw [List.getElem?_eq_none_iff.mpr (by omega)] at h; cases h
  | some v =>
    obtain ⟨u', h1, h2⟩ := r.get e
    rw [h] at h1; cases h1
    exact ⟨v, rfl, h2⟩
theorem picked {pins : List (Addr × Obj)} {s : Shared} {σ : L2.St} {H : Hp} {C : RC} {xs : List PV} {vs : List V} {us : List Value} (I : Inv X pins σ H s) (ek : C.K = X.K) (hF : SubH C H) (hf : ∀ y ∈ xs, y.fine = true) (hr : Reps C xs vs) (rv : Vals vs us) {i : Nat} {u : Value} (hi : us[i]? = some u)
    {h' : Heap} (hk : ∀ b o, s.heap.get? b = some o → h'.get? b = some o) {m : PV} (hm : m ∈ xs) {bs : List Addr} (hR : Reads h' u m.toD bs) : ∃ v, RelV v u ∧ Rep C m v := by
  obtain ⟨v, h1, h2⟩ := vals_getV rv hi
  obtain ⟨p, h3, h4⟩ := hr.get' h1
  have hp := (fine_okS (hf p (List.mem_of_getElem? h3))).1
  obtain ⟨as, h5⟩ := Rep.reads I ek hF p v u hp h4 h2
  have h6 := PySem.SeqAt.plain_unique _ _ _ _ _ (PV.toD_plain p hp) (PyProof.Rows.Reads.keeps hk h5) hR
  rw [PV.toD_inj p m hp (fine_okS (hf m hm)).1 h6] at h4
  exact ⟨v, h2, h4⟩
theorem min_inv {cup : Option (Int × Int)} {ps : List PV} {r : PV} (h : opV cup (.bif .min) ps = .ok r) : (∃ p x xs, ps = [p] ∧ (p = .lst (x :: xs) ∨ p = .tup (x :: xs)) ∧ (allAlike (x :: xs) && !x.isNon) = true ∧ r = minF x xs) ∨ ∃ i j, ps = [.int i, .int j] ∧ r = .int (if j < i then j else i) := by
  replace h : bifV .min ps = .ok r := h
  have go : ∀ xs : List PV, minV xs = .ok r → ∃ x ys, xs = x :: ys ∧ (allAlike (x :: ys) && !x.isNon) = true ∧ r = minF x ys := fun xs h => by
    cases xs with
    | nil => exact nomatch h
    | cons x ys =>
      obtain ⟨h1, h2⟩ := Res.of_ok (show Res.of _ _ = _ from h)
      exact ⟨x, ys, rfl, h1, (Res.ok.inj h2).symm⟩
  match ps, h with
  | [], h => exact nomatch h
  | [.lst xs], h => obtain ⟨x, ys, rfl, h1, h2⟩ := go xs h; exact .inl ⟨_, x, ys, rfl, .inl rfl, h1, h2⟩
  | [.tup xs], h => obtain ⟨x, ys, rfl, h1, h2⟩ := go xs h; exact .inl ⟨_, x, ys, rfl, .inr rfl, h1, h2⟩
  | [.non], h => exact nomatch h
  | [.bl _], h => exact nomatch h
  | [.int _], h => exact nomatch h
  | [.str _], h => exact nomatch h
  | [.cup], h => exact nomatch h
  | [.fn _], h => exact nomatch h
  | [.scr _], h => exact nomatch h
  | [.dct _], h => exact nomatch h
  | p :: q :: z :: t, h => exfalso; cases p <;> cases q <;> exact nomatch h
  | [p, q], h =>
    cases p <;> cases q <;> first | exact .inr ⟨_, _, rfl, (Res.ok.inj h).symm⟩ | exact nomatch h
theorem max_inv {cup : Option (Int × Int)} {ps : List PV} {r : PV} (h : opV cup (.bif .max) ps = .ok r) : (∃ p x xs, ps = [p] ∧ (p = .lst (x :: xs) ∨ p = .tup (x :: xs)) ∧ (allAlike (x :: xs) && !x.isNon) = true ∧ r = maxF x xs) ∨ ∃ i j, ps = [.int i, .int j] ∧ r = .int (if j > i then j else i) := by
  replace h : bifV .max ps = .ok r := h
  have go : ∀ xs : List PV, maxV xs = .ok r → ∃ x ys, xs = x :: ys ∧ (allAlike (x :: ys) && !x.isNon) = true ∧ r = maxF x ys := fun xs h => by
    cases xs with
    | nil => exact nomatch h
    | cons x ys =>
      obtain ⟨h1, h2⟩ := Res.of_ok (show Res.of _ _ = _ from h)
      exact ⟨x, ys, rfl, h1, (Res.ok.inj h2).symm⟩
  match ps, h with
  | [], h => exact nomatch h
  | [.lst xs], h => obtain ⟨x, ys, rfl, h1, h2⟩ := go xs h; exact .inl ⟨_, x, ys, rfl, .inl rfl, h1, h2⟩
  | [.tup xs], h => obtain ⟨x, ys, rfl, h1, h2⟩ := go xs h; exact .inl ⟨_, x, ys, rfl, .inr rfl, h1, h2⟩
  | [.non], h => exact nomatch h
  | [.bl _], h => exact nomatch h
  | [.int _], h => exact nomatch h
  | [.str _], h => exact nomatch h
  | [.cup], h => exact nomatch h
  | [.fn _], h => exact nomatch h
  | [.scr _], h => exact nomatch h
  | [.dct _], h => exact nomatch h
  | p :: q :: z :: t, h => exfalso; cases p <;> cases q <;> exact nomatch h
  | [p, q], h =>
    cases p <;> cases q <;> first | exact .inr ⟨_, _, rfl, (Res.ok.inj h).symm⟩ | exact nomatch h
theorem u_min (hK : X.K = G.K) (hc : X.calm = true) (hu : X.A.units + 200 < cLine) : CallR X (.builtin "min") (fun xs H Q => UO G (.bif .min) xs H Q) := by
  intro pins s σ H xs us Q I rs h
  obtain ⟨C, ps, r, cup, eK, ew, hF, hcu, hsr, ho, q⟩ := h
  have ek : C.K = X.K := eK.trans hK.symm
  rcases min_inv ho with ⟨p, y, ys, e, hp, hpk, rfl⟩ | ⟨i, j, rfl, rfl⟩
  · obtain ⟨x, rfl, h1⟩ := hsr.oneV e
    obtain ⟨hfi, hal, hAl⟩ := pick_ok hpk
    obtain ⟨hpl, hdp⟩ := fines_depth hfi
    obtain ⟨mt, mm⟩ := minF_toD ys y hal
    obtain ⟨u, rfl, rx⟩ := rs.one
    have hu' : X.A.units + 1 + PyData.depthAll (PV.toDs (y :: ys)) < cLine := by rw [PV.toDs_depth]; omega
    rcases hp with rfl | rfl
    · obtain ⟨a, vs, rfl, k1, r1⟩ := h1
      cases rx
      obtain ⟨its, rv, hit, hz⟩ := I.list (.of k1)
      obtain ⟨as, hr⟩ := Reps.reads I ek hF _ vs its hpl r1 rv
      rw [PV.toDs] at hr hAl hu'
      refine PySem.W.min_list_data (I.ok.hd hc) hit.isList hr hAl hu' fun i v h' tk bs hi hR hk => ?_
      rw [← mt] at hR
      obtain ⟨z, rz, rr⟩ := picked I ek hF hfi r1 rv (by simpa using hi) hk mm hR
      exact ⟨z, H, I.kept hk, rz, q _ C H (.refl hF) rr⟩
    · obtain ⟨a, vs, rfl, k1, r1⟩ := h1
      cases rx
      obtain ⟨its, rv, hit, hz⟩ := I.tuple (ek ▸ sqT_le hF k1)
      obtain ⟨as, hr⟩ := Reps.reads I ek hF _ vs its hpl r1 rv
      rw [PV.toDs] at hr hAl hu'
      refine PySem.W.min_tuple_data (I.ok.hd hc) hit hr hAl hu' fun i v h' tk bs hi hR hk => ?_
      rw [← mt] at hR
      obtain ⟨z, rz, rr⟩ := picked I ek hF hfi r1 rv (by simpa using hi) hk mm hR
      exact ⟨z, H, I.kept hk, rz, q _ C H (.refl hF) rr⟩
  · obtain ⟨v, vs, rfl, h1, h2⟩ := hsr
    obtain ⟨v2, vs2, rfl, h3, h4⟩ := h2
    cases (show v = V.int i from h1)
    cases (show v2 = V.int j from h3)
    cases (show vs2 = [] from h4)
    exact call_min2 hc pins s σ H _ us Q I rs ⟨i, j, rfl, q _ C H (.refl hF) rfl⟩
theorem u_max (hK : X.K = G.K) (hc : X.calm = true) (hu : X.A.units + 200 < cLine) : CallR X (.builtin "max") (fun xs H Q => UO G (.bif .max) xs H Q) := by
  intro pins s σ H xs us Q I rs h
  obtain ⟨C, ps, r, cup, eK, ew, hF, hcu, hsr, ho, q⟩ := h
  have ek : C.K = X.K := eK.trans hK.symm
  rcases max_inv ho with ⟨p, y, ys, e, hp, hpk, rfl⟩ | ⟨i, j, rfl, rfl⟩
  · obtain ⟨x, rfl, h1⟩ := hsr.oneV e
    obtain ⟨hfi, hal, hAl⟩ := pick_ok hpk
    obtain ⟨hpl, hdp⟩ := fines_depth hfi
    obtain ⟨mt, mm⟩ := maxF_toD ys y hal
    obtain ⟨u, rfl, rx⟩ := rs.one
    have hu' : X.A.units + 1 + PyData.depthAll (PV.toDs (y :: ys)) < cLine := by rw [PV.toDs_depth]; omega
    rcases hp with rfl | rfl
    · obtain ⟨a, vs, rfl, k1, r1⟩ := h1
      cases rx
      obtain ⟨its, rv, hit, hz⟩ := I.list (.of k1)
      obtain ⟨as, hr⟩ := Reps.reads I ek hF _ vs its hpl r1 rv
      rw [PV.toDs] at hr hAl hu'
      refine PySem.W.max_list_data (I.ok.hd hc) hit.isList hr hAl hu' fun i v h' tk bs hi hR hk => ?_
      rw [← mt] at hR
      obtain ⟨z, rz, rr⟩ := picked I ek hF hfi r1 rv (by simpa using hi) hk mm hR
      exact ⟨z, H, I.kept hk, rz, q _ C H (.refl hF) rr⟩
    · obtain ⟨a, vs, rfl, k1, r1⟩ := h1
      cases rx
      obtain ⟨its, rv, hit, hz⟩ := I.tuple (ek ▸ sqT_le hF k1)
      obtain ⟨as, hr⟩ := Reps.reads I ek hF _ vs its hpl r1 rv
      rw [PV.toDs] at hr hAl hu'
      refine PySem.W.max_tuple_data (I.ok.hd hc) hit hr hAl hu' fun i v h' tk bs hi hR hk => ?_
      rw [← mt] at hR
      obtain ⟨z, rz, rr⟩ := picked I ek hF hfi r1 rv (by simpa using hi) hk mm hR
      exact ⟨z, H, I.kept hk, rz, q _ C H (.refl hF) rr⟩
  · obtain ⟨v, vs, rfl, h1, h2⟩ := hsr
    obtain ⟨v2, vs2, rfl, h3, h4⟩ := h2
    cases (show v = V.int i from h1)
    cases (show v2 = V.int j from h3)
    cases (show vs2 = [] from h4)
    exact call_max2 hc pins s σ H _ us Q I rs ⟨i, j, rfl, q _ C H (.refl hF) rfl⟩
end
end Py
end

section
set_option Elab.async false
set_option linter.all false
set_option autoImplicit false
set_option maxRecDepth 100000
/-! Expressions: what each node's reading gives. -/
namespace Py
open PySem PySem.Spec PyProof.Rows L2

structure XO (G : GP) (X : Cx) : Prop where
  hK : X.K = G.K
  hw : X.w = G.w
  calm : X.calm = true
  units : X.A.units + 200 < cLine
  nd : X.N.Nodup

theorem ownR_plain {C : RC} {H : Hp} {p : PV} {a : Addr} (h : OwnR C H p a) : (∀ b, p ≠ .bl b) ∧ (∀ i, p ≠ .int i) := by
  cases p <;> first | exact h.elim | exact ⟨nofun, nofun⟩
theorem res_bl {ff : Nat → Bool} {C' : RC} {H H' : Hp} {σ : L2.St} {e : E} {b : Bool} {v : V} (h : ResV ff C' H H' σ e (.bl b) v) : v = .bl b := by
  have gen : (if freshE ff e = true then ∃ a, v = .ref a ∧ H a = none ∧ C'.F a = none ∧ C'.cp ≠ some a ∧ OwnR C' H' (.bl b) a else Rep C' (.bl b) v) → v = .bl b := fun h => by
    split at h
    · obtain ⟨a, _, _, _, _, h⟩ := h
      exact h.elim
    · exact h
  cases e <;> first | exact gen h | exact h.1
theorem res_int {ff : Nat → Bool} {C' : RC} {H H' : Hp} {σ : L2.St} {e : E} {b : Int} {v : V} (h : ResV ff C' H H' σ e (.int b) v) : v = .int b := by
  have gen : (if freshE ff e = true then ∃ a, v = .ref a ∧ H a = none ∧ C'.F a = none ∧ C'.cp ≠ some a ∧ OwnR C' H' (.int b) a else Rep C' (.int b) v) → v = .int b := fun h => by
    split at h
    · obtain ⟨a, _, _, _, _, h⟩ := h
      exact h.elim
    · exact h
  cases e <;> first | exact gen h | exact h.1
theorem resV_nb {ff : Nat → Bool} {C' : RC} {H H' : Hp} {σ : L2.St} {e : E} {p : PV} {v : V} (hb : isBor e = false) :
    ResV ff C' H H' σ e p v = (if freshE ff e = true then ∃ a, v = .ref a ∧ H a = none ∧ C'.F a = none ∧ C'.cp ≠ some a ∧ OwnR C' H' p a else Rep C' p v) := by
  cases e <;> first | rfl | exact absurd hb (by simp [isBor])
/-- a run that goes on behind another -/
theorem res_later {ff : Nat → Bool} {C' : RC} {H H1 H' : Hp} {σ : L2.St} {e : E} {p : PV} {v : V} (hb : isBor e = false) (there : ∀ b o, H b = some o → ∃ o', H1 b = some o') (h : ResV ff C' H1 H' σ e p v) : ResV ff C' H H' σ e p v := by
  have gen : (if freshE ff e = true then ∃ a, v = .ref a ∧ H1 a = none ∧ C'.F a = none ∧ C'.cp ≠ some a ∧ OwnR C' H' p a else Rep C' p v) → (if freshE ff e = true then ∃ a, v = .ref a ∧ H a = none ∧ C'.F a = none ∧ C'.cp ≠ some a ∧ OwnR C' H' p a else Rep C' p v) := fun h => by
    split at h
    · rename_i hf
      rw [if_pos hf]
      obtain ⟨a, h1, h2, h3⟩ := h
      refine ⟨a, h1, ?_, h3⟩
      cases hx : H a with
      | none => rfl
      | some o => obtain ⟨o', q⟩ := there a o hx; rw [h2] at q; cases q
    · rename_i hf
      rw [if_neg hf]; exact h
  cases e <;> first | exact gen h | exact absurd hb (by simp [isBor])
section
variable {G : GP} {X : Cx}
def isBad : E → Bool
  | .op .sub [] => true
  | _ => false
def bad : E := .op .sub []
theorem rd_bad {σ : L2.St} {H : Hp} {Q : VK} (h : rd G bad σ H Q) : False := by
  obtain ⟨C, st, p, st', hK, hw, R, he, q⟩ := h
  obtain ⟨ps0, ps, h1, h2, h3⟩ := op_split he
  have h1 : Res.ok ([], st) = Res.ok (ps0, st') := h1
  cases h1
  have h2 : Res.ok [] = Res.ok ps := h2
  cases h2
  exact nomatch h3
theorem pe_bad {e : Expr} : PE X e (rd G bad) := ⟨fun _ _ _ _ _ _ h => (rd_bad h).elim⟩
theorem rdT_bad {σ : L2.St} {H : Hp} {Q : Bool → Hp → Prop} (h : rdT G bad σ H Q) : False := by
  obtain ⟨C, st, b, st', hK, hw, R, he, q⟩ := h
  exact rd_bad (Q := fun _ _ => True) ⟨C, st, _, st', hK, hw, R, he, fun _ _ _ _ _ _ => trivial⟩
theorem pt_bad {e : Expr} : PT X e (rdT G bad) := ⟨fun _ _ _ _ _ _ h => (rdT_bad h).elim⟩

/-! ### constants, names -/
theorem rd_lit {p : PV} {v : V} (hv : ∀ C : RC, Rep C p v) {σ : L2.St} {H : Hp} {Q : VK} (h : rd G (.lit p) σ H Q) : Q v H := by
  obtain ⟨C, st, p', st', hK, hw, R, he, q⟩ := h
  have he : Res.ok (p, st) = Res.ok (p', st') := he
  cases he
  exact q v C H .refl R (hv C)
theorem rd_con {x : Str} {p : PV} {v : V} (hv : ∀ C : RC, C.K = G.K → C.w = G.w → Rep C p v) {σ : L2.St} {H : Hp} {Q : VK} (h : rd G (.con x p) σ H Q) : Q v H := by
  obtain ⟨C, st, p', st', hK, hw, R, he, q⟩ := h
  have he : Res.ok (p, st) = Res.ok (p', st') := he
  cases he
  exact q v C H .refl R (hv C hK hw)
/-- an own slot's object becomes shared, the slot a value -/
theorem Rel.freeze {C : RC} {st : St} {σ : L2.St} {H : Hp} (R : Rel C st σ H) {i : Nat} {p : PV} (h : st.env[i]? = some (Slot.own p)) :
    ∃ a C', σ[i]? = some (some (V.ref a)) ∧ Loc C st σ H C' { st with env := st.env.set i (.val p) } H ∧ Rel C' { st with env := st.env.set i (.val p) } σ H ∧ Rep C' p (.ref a) := by
  obtain ⟨a, e, hF, hc, ho⟩ := R.own i p h
  obtain ⟨o, e1⟩ := ho.some
  have hi : i < st.env.length := by
    rw [List.getElem?_eq_some_iff] at h; exact h.1
  have le : C.Le { C with F := upd C.F a o } := ⟨rfl, rfl, fun b u e => by
    show upd C.F a o b = some u
    rw [upd_ne (ne_of_none e hF)]; exact e, fun _ h => h⟩
  have Fe : ∀ b, b ≠ a → ({ C with F := upd C.F a o } : RC).F b = C.F b := fun b hb => upd_ne hb
  have Fa : ({ C with F := upd C.F a o } : RC).F a = some o := upd_same
  have rr : Rep { C with F := upd C.F a o } p (.ref a) := ho.share le (Fa.trans e1.symm)
  have other : ∀ {j : Nat} {s : Slot}, (st.env.set i (.val p))[j]? = some s → (j = i ∧ s = .val p) ∨ (j ≠ i ∧ st.env[j]? = some s) := fun {j s} h => by
    by_cases hj : i = j
    · subst hj
      rw [List.getElem?_set_self hi] at h
      cases h
      exact .inl ⟨rfl, rfl⟩
    · rw [List.getElem?_set_ne hj] at h
      exact .inr ⟨fun e => hj e.symm, h⟩
  refine ⟨a, _, e, ⟨le, fun _ _ h _ _ => h, fun _ o h => ⟨o, h⟩, fun b u e2 => ?_, fun _ h => .inl h, fun b hb => ?_⟩, ⟨fun b u e2 => ?_, by rw [List.length_set]; exact R.len, fun j q hq => ?_, fun j q hq => ?_, fun j k q r b hj hk => ?_, R.cup, R.nocup, fun c hcc => ?_⟩, rr⟩
  · by_cases hb : b = a
    · subst hb; exact .inr (.inr ⟨i, p, h, e⟩)
    · rw [Fe b hb] at e2; exact .inl e2
  · obtain ⟨j, q, h1, h2⟩ := hb
    rcases other h1 with ⟨_, z⟩ | ⟨_, z⟩
    · cases z
    · exact ⟨j, q, z, h2⟩
  · by_cases hb : b = a
    · subst hb; rw [Fa] at e2; cases e2; exact e1
    · rw [Fe b hb] at e2; exact R.sub b u e2
  · rcases other hq with ⟨rfl, z⟩ | ⟨_, z⟩
    · cases z
      exact ⟨_, e, rr⟩
    · obtain ⟨w, h1, h2⟩ := R.slot j q z
      exact ⟨w, h1, Rep.le le _ _ h2⟩
  · rcases other hq with ⟨_, z⟩ | ⟨hj, z⟩
    · cases z
    · obtain ⟨b, h1, h2, h3, h4⟩ := R.own j q z
      have hb : b ≠ a := fun e2 => by subst e2; exact hj (R.apart j i q p b z h h1 e)
      exact ⟨b, h1, by rw [Fe b hb]; exact h2, h3, h4.le le rfl⟩
  · rcases other hj with ⟨_, z⟩ | ⟨_, z⟩
    · cases z
    · rcases other hk with ⟨_, z'⟩ | ⟨_, z'⟩
      · cases z'
      · exact R.apart j k q r b z z'
  · have : c ≠ a := fun z => by subst z; exact hc hcc
    rw [Fe c this]; exact R.cpf c hcc
theorem rd_var {i : Nat} {σ : L2.St} {H : Hp} {Q : VK} (h : rd G (.var i) σ H Q) : tVar i σ H Q := by
  obtain ⟨C, st, p, st', hK, hw, R, he, q⟩ := h
  have he : ((slotV st.env i).bind fun v => Res.ok (v, ({ st with env := frz st.env i } : St))) = Res.ok (p, st') := he
  obtain ⟨v0, h1, h2⟩ := bindR he
  cases h2
  rcases slotV_ok h1 with h1 | h1
  · obtain ⟨v, e, r⟩ := R.slot i p h1
    have e2 : frz st.env i = st.env := by unfold frz; rw [h1]
    refine ⟨v, e, ?_⟩
    rw [e2] at q
    exact q v C H .refl R r
  · obtain ⟨a, C', e, L, R', r⟩ := R.freeze h1
    have e2 : frz st.env i = st.env.set i (.val p) := by unfold frz; rw [h1]
    rw [e2] at q
    exact ⟨_, e, q _ C' H L R' r⟩
theorem rd_bor {i : Nat} {σ : L2.St} {H : Hp} {Q : VK} (h : rd G (.bor i) σ H Q) : tVar i σ H Q := by
  obtain ⟨C, st, p, st', hK, hw, R, he, q⟩ := h
  have he : ((slotV st.env i).bind fun v => Res.ok (v, st)) = Res.ok (p, st') := he
  obtain ⟨v0, h1, h2⟩ := bindR he
  cases h2
  obtain ⟨v, e, r⟩ := R.slotS h1
  exact ⟨v, e, q v C H .refl R ⟨r, e⟩⟩

/-! ### tests, and, or, not, if -/
theorem rdT_B {e : E} {σ : L2.St} {H : Hp} {Q : Bool → Hp → Prop} (h : rdT G e σ H Q) : rd G e σ H fun x H1 => ∃ c, x = .bl c ∧ Q c H1 := by
  obtain ⟨C, st, b, st', hK, hw, R, he, q⟩ := h
  exact ⟨C, st, _, st', hK, hw, R, he, fun v C' H' L R' r => ⟨b, res_bl r, q C' H' L R'⟩⟩
theorem ev_and {Φ : Calls} {a b : E} {st st' : St} {p : PV} (h : ev Φ (.and a b) st = .ok (p, st')) : (∃ st1, ev Φ a st = .ok (.bl true, st1) ∧ ev Φ b st1 = .ok (p, st')) ∨ (ev Φ a st = .ok (.bl false, st') ∧ p = .bl false) := by
  rw [ev] at h
  obtain ⟨⟨p1, st1⟩, h1, h⟩ := bindR h
  cases p1 with
  | bl c =>
    cases c with
    | true => exact .inl ⟨st1, h1, h⟩
    | false => cases h; exact .inr ⟨h1, rfl⟩
  | _ => exact nomatch h
theorem ev_or {Φ : Calls} {a b : E} {st st' : St} {p : PV} (h : ev Φ (.or a b) st = .ok (p, st')) : (∃ st1, ev Φ a st = .ok (.bl false, st1) ∧ ev Φ b st1 = .ok (p, st')) ∨ (ev Φ a st = .ok (.bl true, st') ∧ p = .bl true) := by
  rw [ev] at h
  obtain ⟨⟨p1, st1⟩, h1, h⟩ := bindR h
  cases p1 with
  | bl c =>
    cases c with
    | false => exact .inl ⟨st1, h1, h⟩
    | true => cases h; exact .inr ⟨h1, rfl⟩
  | _ => exact nomatch h
theorem ev_not {Φ : Calls} {a : E} {st st' : St} {p : PV} (h : ev Φ (.not a) st = .ok (p, st')) : ∃ b, ev Φ a st = .ok (.bl b, st') ∧ p = .bl (!b) := by
  rw [ev] at h
  obtain ⟨⟨p1, st1⟩, h1, h⟩ := bindR h
  cases p1 with
  | bl c => cases h; exact ⟨c, h1, rfl⟩
  | _ => exact nomatch h
theorem ev_ite {Φ : Calls} {c a b : E} {st st' : St} {p : PV} (h : ev Φ (.ite c a b) st = .ok (p, st')) : ∃ k st1, ev Φ c st = .ok (.bl k, st1) ∧ (if k = true then ev Φ a st1 else ev Φ b st1) = .ok (p, st') := by
  rw [ev] at h
  obtain ⟨⟨p1, st1⟩, h1, h⟩ := bindR h
  cases p1 with
  | bl c =>
    cases c with
    | true => exact ⟨true, st1, h1, h⟩
    | false => exact ⟨false, st1, h1, h⟩
  | _ => exact nomatch h
/-- what comes behind: nothing borrowed, shared in the end -/
theorem rd_behind {e1 e : E} (hb : isBor e = false) (hf : ∀ ff, freshE ff e1 = false) (hb1 : isBor e1 = false) {C C1 : RC} {st st1 st' : St} {σ : L2.St} {H H1 : Hp} {p : PV} {Q : VK} (hK : C1.K = G.K) (hw : C1.w = G.w) (R1 : Rel C1 st1 σ H1) (he : ev G.Φ e st1 = .ok (p, st')) (L : Loc C st σ H C1 st1 H1)
    (q : ∀ v C' H', Loc C st σ H C' st' H' → Rel C' st' σ H' → ResV G.ff C' H H' σ e1 p v → Q v H') : rd G e σ H1 Q := by
  refine ⟨C1, st1, p, st', hK, hw, R1, he, fun v C' H' L' R' r => ?_⟩
  obtain ⟨C'', L2, R2, r2, _⟩ := res_share hb R1 L' R' r
  refine q v C'' H' (L.trans L2) R2 ?_
  rw [resV_nb hb1, if_neg (by rw [hf]; exact Bool.false_ne_true)]
  exact r2
theorem rd_and {a b : E} (hb : isBor b = false) {σ : L2.St} {H : Hp} {Q : VK} (h : rd G (.and a b) σ H Q) : tAndV (rd G a) (rd G b) σ H Q := by
  obtain ⟨C, st, p, st', hK, hw, R, he, q⟩ := h
  rcases ev_and he with ⟨st1, h1, h2⟩ | ⟨h1, rfl⟩
  · refine ⟨C, st, _, st1, hK, hw, R, h1, fun v C1 H1 L1 R1 r1 => ⟨true, res_bl r1, ?_⟩⟩
    exact rd_behind hb (fun _ => rfl) rfl (L1.le.k.trans hK) (L1.le.w.trans hw) R1 h2 L1 q
  · refine ⟨C, st, _, st', hK, hw, R, h1, fun v C1 H1 L1 R1 r1 => ⟨false, res_bl r1, ?_⟩⟩
    exact q _ C1 H1 L1 R1 rfl
theorem rd_or {a b : E} (hb : isBor b = false) {σ : L2.St} {H : Hp} {Q : VK} (h : rd G (.or a b) σ H Q) : tOrV (rd G a) (rd G b) σ H Q := by
  obtain ⟨C, st, p, st', hK, hw, R, he, q⟩ := h
  rcases ev_or he with ⟨st1, h1, h2⟩ | ⟨h1, rfl⟩
  · refine ⟨C, st, _, st1, hK, hw, R, h1, fun v C1 H1 L1 R1 r1 => ⟨false, res_bl r1, ?_⟩⟩
    exact rd_behind hb (fun _ => rfl) rfl (L1.le.k.trans hK) (L1.le.w.trans hw) R1 h2 L1 q
  · refine ⟨C, st, _, st', hK, hw, R, h1, fun v C1 H1 L1 R1 r1 => ⟨true, res_bl r1, ?_⟩⟩
    exact q _ C1 H1 L1 R1 rfl
theorem rd_not {a : E} {σ : L2.St} {H : Hp} {Q : VK} (h : rd G (.not a) σ H Q) : tNotV (rd G a) σ H Q := by
  obtain ⟨C, st, p, st', hK, hw, R, he, q⟩ := h
  obtain ⟨b, h1, rfl⟩ := ev_not he
  exact ⟨C, st, _, st', hK, hw, R, h1, fun v C1 H1 L1 R1 r1 => ⟨b, res_bl r1, q _ C1 H1 L1 R1 rfl⟩⟩
theorem rd_ite {c a b : E} (ha : isBor a = false) (hb : isBor b = false) {σ : L2.St} {H : Hp} {Q : VK} (h : rd G (.ite c a b) σ H Q) : tIf (rdT G c) (rd G a) (rd G b) σ H Q := by
  obtain ⟨C, st, p, st', hK, hw, R, he, q⟩ := h
  obtain ⟨k, st1, h1, h2⟩ := ev_ite he
  refine ⟨C, st, k, st1, hK, hw, R, h1, fun C1 H1 L1 R1 => ?_⟩
  cases k with
  | true => exact rd_behind ha (fun _ => rfl) rfl (L1.le.k.trans hK) (L1.le.w.trans hw) R1 h2 L1 q
  | false => exact rd_behind hb (fun _ => rfl) rfl (L1.le.k.trans hK) (L1.le.w.trans hw) R1 h2 L1 q
theorem rdT_and {a b : E} {σ : L2.St} {H : Hp} {Q : Bool → Hp → Prop} (h : rdT G (.and a b) σ H Q) : tAnd (rdT G a) (rdT G b) σ H Q := by
  obtain ⟨C, st, p, st', hK, hw, R, he, q⟩ := h
  rcases ev_and he with ⟨st1, h1, h2⟩ | ⟨h1, e⟩
  · exact ⟨C, st, _, st1, hK, hw, R, h1, fun C1 H1 L1 R1 => ⟨C1, st1, _, st', L1.le.k.trans hK, L1.le.w.trans hw, R1, h2, fun C2 H2 L2 R2 => q C2 H2 (L1.trans L2) R2⟩⟩
  · cases e
    exact ⟨C, st, _, st', hK, hw, R, h1, fun C1 H1 L1 R1 => q C1 H1 L1 R1⟩
theorem rdT_or {a b : E} {σ : L2.St} {H : Hp} {Q : Bool → Hp → Prop} (h : rdT G (.or a b) σ H Q) : tOr (rdT G a) (rdT G b) σ H Q := by
  obtain ⟨C, st, p, st', hK, hw, R, he, q⟩ := h
  rcases ev_or he with ⟨st1, h1, h2⟩ | ⟨h1, e⟩
  · exact ⟨C, st, _, st1, hK, hw, R, h1, fun C1 H1 L1 R1 => ⟨C1, st1, _, st', L1.le.k.trans hK, L1.le.w.trans hw, R1, h2, fun C2 H2 L2 R2 => q C2 H2 (L1.trans L2) R2⟩⟩
  · cases e
    exact ⟨C, st, _, st', hK, hw, R, h1, fun C1 H1 L1 R1 => q C1 H1 L1 R1⟩
theorem rdT_not {a : E} {σ : L2.St} {H : Hp} {Q : Bool → Hp → Prop} (h : rdT G (.not a) σ H Q) : tNot (rdT G a) σ H Q := by
  obtain ⟨C, st, p, st', hK, hw, R, he, q⟩ := h
  obtain ⟨b, h1, e⟩ := ev_not he
  cases e
  exact ⟨C, st, _, st', hK, hw, R, h1, fun C1 H1 L1 R1 => q C1 H1 L1 R1⟩
/-- a op1 b op2 c -/
theorem rd_chain {o1 o2 : CmpOp} {a b c : E} (ha : isBor a = false) (hb : isBor b = false) (hc : isBor c = false) {σ : L2.St} {H : Hp} {Q : VK} (h : rd G (.chain o1 o2 a b c) σ H Q) :
    tChain (fun x y H Q => UO G (.cmp o1) [x, y] H Q) (fun x y H Q => UO G (.cmp o2) [x, y] H Q) (rd G a) (rd G b) (rd G c) σ H Q := by
  obtain ⟨C, st, p, st', hK, hw, R, he, q⟩ := h
  rw [ev] at he
  obtain ⟨⟨p1, st1⟩, h1, he⟩ := bindR he
  obtain ⟨⟨p2, st2⟩, h2, he⟩ := bindR he
  obtain ⟨z, h3, he⟩ := bindR he
  refine ⟨C, st, p1, st1, hK, hw, R, h1, fun v C1 H1 L1 R1 r1 => ?_⟩
  obtain ⟨C1', L1', R1', r1', _⟩ := res_share ha R L1 R1 r1
  refine ⟨C1', st1, p2, st2, L1'.le.k.trans hK, L1'.le.w.trans hw, R1', h2, fun v2 C2 H2 L2 R2 r2 => ?_⟩
  obtain ⟨C2', L2', R2', r2', _⟩ := res_share hb R1' L2 R2 r2
  refine ⟨C2', [p1, p2], z, st2.cup, L2'.le.k.trans (L1'.le.k.trans hK), L2'.le.w.trans (L1'.le.w.trans hw), R2'.sub, R2'.cupH, ⟨v, [v2], rfl, (Rep.le L2'.le _ _ r1').s R2'.sub, v2, [], rfl, r2'.s R2'.sub, rfl⟩, h3, fun v3 C3 H3 g3 out => ?_⟩
  have R3 := g3.rel R2'
  have L3 : Loc C st σ H C3 st2 H3 := (L1'.trans L2').grow g3
  cases z with
  | bl k =>
    have e3 : v3 = .bl k := out
    refine ⟨k, e3, ?_⟩
    cases k with
    | false =>
      cases he
      exact q _ C3 H3 L3 R3 rfl
    | true =>
      obtain ⟨⟨p3, st3⟩, h4, he⟩ := bindR he
      obtain ⟨z', h5, he⟩ := bindR he
      cases he
      refine ⟨C3, st2, p3, st3, L3.le.k.trans hK, L3.le.w.trans hw, R3, h4, fun v4 C4 H4 L4 R4 r4 => ?_⟩
      obtain ⟨C4', L4', R4', r4', _⟩ := res_share hc R3 L4 R4 r4
      have LL := L3.trans L4'
      refine ⟨C4', [p2, p3], p, st3.cup, LL.le.k.trans hK, LL.le.w.trans hw, R4'.sub, R4'.cupH, ⟨v2, [v4], rfl, (Rep.le (g3.le.trans L4'.le) _ _ r2').s R4'.sub, v4, [], rfl, r4'.s R4'.sub, rfl⟩, h5, fun v5 C5 H5 g5 out5 => ?_⟩
      exact q v5 C5 H5 (LL.grow g5) (g5.rel R4') out5
  | _ => exact nomatch he
/-! ### argument lists one by one -/
theorem evs_cons {Φ : Calls} {e : E} {es : List E} {st st' : St} {ps0 : List PV} (h : evs Φ (e :: es) st = .ok (ps0, st')) : ∃ p st1 q, ev Φ e st = .ok (p, st1) ∧ evs Φ es st1 = .ok (q, st') ∧ ps0 = p :: q := by
  rw [evs] at h
  obtain ⟨⟨p, st1⟩, h1, h⟩ := bindR h
  obtain ⟨⟨q, st2⟩, h2, h⟩ := bindR h
  cases h
  exact ⟨p, st1, q, h1, h2, rfl⟩
theorem reread_consN {e : E} {es : List E} {v : PV} {vs : List PV} {st : St} {ps : List PV} (hb : isBor e = false) (h : reread (e :: es) (v :: vs) st = .ok ps) : ∃ ps', ps = v :: ps' ∧ reread es vs st = .ok ps' := by
  obtain ⟨p, ps', e1, e2, h3⟩ := reread_cons h
  rcases h3 with ⟨_, rfl⟩ | ⟨i, rfl, _⟩
  · exact ⟨ps', e1, e2⟩
  · exact absurd hb (by simp [isBor])
end
end Py
end

section
set_option Elab.async false
set_option linter.all false
set_option autoImplicit false
set_option maxRecDepth 100000
/-! Nodes of operations. -/
namespace Py
open PySem PySem.Spec PyProof.Rows L2

section
variable {G : GP} {X : Cx} {a b c : Expr} {a' b' c' : E} {pos : Pos}
theorem n_bin {op : Operator} {o : Op} (ho : OpR X (binaryOp op) (fun x y H Q => UO G o [x, y] H Q)) (ha : PE X a (rd G a')) (hb : PE X b (rd G b')) : PE X (.BinOp a op b pos) (rd G (.op o [a', b'])) :=
  (pe_op ho ha hb).imp fun _ _ _ h => rdA_2 (rd_op h)
theorem n_neg (ha : PE X a (rd G a')) : PE X (.UnaryOp .USub a pos) (rd G (.op .neg [a'])) :=
  (pe_un u_neg ha).imp fun _ _ _ h => rdA_1 (rd_op h)
theorem n_cmp (O : XO G X) {op : CmpOp} (ha : PE X a (rd G a')) (hb : PE X b (rd G b')) (hm : behindInMarks op b = false) : PE X (.Compare a [op] [b] pos) (rd G (.op (.cmp op) [a', b'])) :=
  (pe_cmpR (u_cmp O.hK O.hw O.units op) ha hb hm).imp fun _ _ _ h => rdA_2 (rd_op h)
theorem n_cmpT (O : XO G X) {op : CmpOp} (ha : PE X a (rd G a')) (hb : PE X b (rd G b')) (hm : behindInMarks op b = false) : PT X (.Compare a [op] [b] pos) (rdT G (.op (.cmp op) [a', b'])) :=
  (pt_cmpR (u_cmp O.hK O.hw O.units op) ha hb hm).imp fun _ _ _ h => rdA_2 (rd_op (rdT_B h))
theorem n_chain (O : XO G X) {o1 o2 : CmpOp} (fa : isBor a' = false) (fb : isBor b' = false) (fc : isBor c' = false) (ha : PE X a (rd G a')) (hb : PE X b (rd G b')) (hc : PE X c (rd G c')) (hm : lastMarks [o1, o2] [b, c] = false) :
    PE X (.Compare a [o1, o2] [b, c] pos) (rd G (.chain o1 o2 a' b' c')) :=
  (pe_chain (u_cmp O.hK O.hw O.units o1) (u_cmp O.hK O.hw O.units o2) ha hb hc hm).imp fun _ _ _ h => rd_chain fa fb fc h
theorem n_chainT (O : XO G X) {o1 o2 : CmpOp} (fa : isBor a' = false) (fb : isBor b' = false) (fc : isBor c' = false) (ha : PE X a (rd G a')) (hb : PE X b (rd G b')) (hc : PE X c (rd G c')) (hm : lastMarks [o1, o2] [b, c] = false) :
    PT X (.Compare a [o1, o2] [b, c] pos) (rdT G (.chain o1 o2 a' b' c')) :=
  (pt_chain (u_cmp O.hK O.hw O.units o1) (u_cmp O.hK O.hw O.units o2) ha hb hc hm).imp fun _ _ _ h => rd_chain fa fb fc (rdT_B h)
theorem n_test (ha : PE X a (rd G a')) (he : ∀ whole, isTrue a X.env whole = (do let v ← whole; standAt a.pos; holding [v] (truthy v))) : PT X a (rdT G a') :=
  (pt_val ha he).imp fun _ _ _ h => rdT_B h
theorem n_idx (O : XO G X) (ha : PE X a (rd G a')) (hb : PE X b (rd G b')) (hs : PlainIx b) : PE X (.Subscript a b pos) (rd G (.op .idx [a', b'])) :=
  (pe_ix (u_idx O.hK O.hw O.units) ha hb hs).imp fun _ _ _ h => rdA_2 (rd_op h)
/-! ### slices -/
theorem slc_tt {cup : Option (Int × Int)} {ps : List PV} {r : PV} (h : opV cup (.slc true true) ps = .ok r) : ∃ p l u, ps = [p, .int l, .int u] ∧ slcV p (some l) (some u) = .ok r := by
  match ps, h with
  | [p, .int l, .int u], h => exact ⟨p, l, u, rfl, h⟩
theorem slc_tf {cup : Option (Int × Int)} {ps : List PV} {r : PV} (h : opV cup (.slc true false) ps = .ok r) : ∃ p l, ps = [p, .int l] ∧ slcV p (some l) none = .ok r := by
  match ps, h with
  | [p, .int l], h => exact ⟨p, l, rfl, h⟩
theorem slc_ft {cup : Option (Int × Int)} {ps : List PV} {r : PV} (h : opV cup (.slc false true) ps = .ok r) : ∃ p l, ps = [p, .int l] ∧ slcV p none (some l) = .ok r := by
  match ps, h with
  | [p, .int l], h => exact ⟨p, l, rfl, h⟩
theorem slc_ff {cup : Option (Int × Int)} {ps : List PV} {r : PV} (h : opV cup (.slc false false) ps = .ok r) : ∃ p, ps = [p] ∧ slcV p none none = .ok r := by
  match ps, h with
  | [p], h => exact ⟨p, rfl, h⟩
/-- the sliced value, behind its bounds -/
def Obj1 (G : GP) (σ : L2.St) (a' : E) (Q : V → RC → St → Hp → PV → Prop) (C : RC) (st : St) (H : Hp) : Prop := True
theorem reread1 {a' : E} {p1 p2 : PV} {st' : St} (h : reread [a'] [p1] st' = .ok [p2]) : (isBor a' = false ∧ p2 = p1) ∨ ∃ i, a' = .bor i ∧ slotV st'.env i = .ok p2 := by
  obtain ⟨p, ps', e, e2, h3⟩ := reread_cons h
  cases e
  exact h3
theorem reread_head {a' : E} {es : List E} {p1 p2 : PV} {ps0 ps : List PV} {st' : St} (h : reread (a' :: es) (p1 :: ps0) st' = .ok (p2 :: ps)) : ((isBor a' = false ∧ p2 = p1) ∨ ∃ i, a' = .bor i ∧ slotV st'.env i = .ok p2) ∧ reread es ps0 st' = .ok ps := by
  obtain ⟨p, ps', e, e2, h3⟩ := reread_cons h
  cases e
  exact ⟨h3, e2⟩
theorem nb_head {a' : E} {p1 p2 : PV} {st' : St} (hb : isBor a' = false) (h : (isBor a' = false ∧ p2 = p1) ∨ ∃ i, a' = .bor i ∧ slotV st'.env i = .ok p2) : p2 = p1 := by
  rcases h with ⟨_, e⟩ | ⟨i, e, _⟩
  · exact e
  · subst e; exact absurd hb (fun e => Bool.noConfusion e)
/-- an operand, at the time that it is used -/
theorem opnd {G : GP} {a' : E} {C C1 : RC} {st st1 : St} {σ : L2.St} {H H1 : Hp} {p1 : PV} {v : V} (R : Rel C st σ H) (L1 : Loc C st σ H C1 st1 H1) (R1 : Rel C1 st1 σ H1) (r1 : ResV G.ff C1 H H1 σ a' p1 v) :
    ∃ C1', Loc C st σ H C1' st1 H1 ∧ Rel C1' st1 σ H1 ∧ ∀ {C2 : RC} {st' : St} {H' : Hp} {p2 : PV}, C1'.Le C2 → Rel C2 st' σ H' → ((isBor a' = false ∧ p2 = p1) ∨ ∃ i, a' = .bor i ∧ slotV st'.env i = .ok p2) → SRep C2 H' p2 v := by
  cases hb : isBor a' with
  | false =>
    obtain ⟨C1', L1', R1', r1', _⟩ := res_share hb R L1 R1 r1
    refine ⟨C1', L1', R1', fun le R2 h => ?_⟩
    rcases h with ⟨_, rfl⟩ | ⟨i, rfl, _⟩
    · exact (Rep.le le _ _ r1').s R2.sub
    · exact absurd hb (by simp [isBor])
  | true =>
    refine ⟨C1, L1, R1, fun le R2 h => ?_⟩
    rcases h with ⟨h, _⟩ | ⟨i, rfl, h⟩
    · cases h
    · have r1 : SRep C1 H1 p1 v ∧ σ[i]? = some (some v) := r1
      obtain ⟨v', e', r'⟩ := R2.slotS h
      rw [r1.2] at e'
      cases e'
      exact r'
theorem rd_slc_tt {l' u' : E} (hl : isBor l' = false) (hu : isBor u' = false) {σ : L2.St} {H : Hp} {Q : VK} (h : rd G (.op (.slc true true) [a', l', u']) σ H Q) :
    tSl (USl G) (rd G a') (tPart (rd G l')) (tPart (rd G u')) σ H Q := by
  obtain ⟨C, st, p, st', hK, hw, R, he, q⟩ := h
  obtain ⟨ps0, ps, h1, h2, h3⟩ := op_split he
  obtain ⟨p1, l, u, rfl, k0⟩ := slc_tt h3
  obtain ⟨q1, st1, qs1, e1, h5, rfl⟩ := evs_cons h1
  obtain ⟨q2, st2, qs2, e2, h6, rfl⟩ := evs_cons h5
  obtain ⟨q3, st3, qs, e3, h7, rfl⟩ := evs_cons h6
  cases (show Res.ok ([], st3) = Res.ok (qs, st') from h7)
  obtain ⟨k1, g2⟩ := reread_head h2
  obtain ⟨k2, g3⟩ := reread_head g2
  obtain ⟨k3, _⟩ := reread_head g3
  have k2 : PV.int l = q2 := nb_head hl k2
  have k3 : PV.int u = q3 := nb_head hu k3
  subst k2 k3
  refine ⟨C, st, q1, st1, hK, hw, R, e1, fun v C1 H1 L1 R1 r1 => ?_⟩
  obtain ⟨C1', L1', R1', fin⟩ := opnd R L1 R1 r1
  refine ⟨C1', st1, _, st2, L1'.le.k.trans hK, L1'.le.w.trans hw, R1', e2, fun v2 C2 H2 L2 R2 r2 => ⟨l, res_int r2, ?_⟩⟩
  refine ⟨C2, st2, _, st', L2.le.k.trans (L1'.le.k.trans hK), L2.le.w.trans (L1'.le.w.trans hw), R2, e3, fun v3 C3 H3 L3 R3 r3 => ⟨u, res_int r3, ?_⟩⟩
  have LL := (L1'.trans L2).trans L3
  refine ⟨C3, p1, p, LL.le.k.trans hK, LL.le.w.trans hw, R3.sub, fin (L2.le.trans L3.le) R3 k1, k0, fun v4 C4 H4 g r => q v4 C4 H4 (LL.grow g) (g.rel R3) r⟩
theorem rd_slc_tf {l' : E} (hl : isBor l' = false) {σ : L2.St} {H : Hp} {Q : VK} (h : rd G (.op (.slc true false) [a', l']) σ H Q) :
    tSl (USl G) (rd G a') (tPart (rd G l')) tNoPart σ H Q := by
  obtain ⟨C, st, p, st', hK, hw, R, he, q⟩ := h
  obtain ⟨ps0, ps, h1, h2, h3⟩ := op_split he
  obtain ⟨p1, l, rfl, k0⟩ := slc_tf h3
  obtain ⟨q1, st1, qs1, e1, h5, rfl⟩ := evs_cons h1
  obtain ⟨q2, st2, qs, e2, h6, rfl⟩ := evs_cons h5
  cases (show Res.ok ([], st2) = Res.ok (qs, st') from h6)
  obtain ⟨k1, g2⟩ := reread_head h2
  obtain ⟨k2, _⟩ := reread_head g2
  have k2 : PV.int l = q2 := nb_head hl k2
  subst k2
  refine ⟨C, st, q1, st1, hK, hw, R, e1, fun v C1 H1 L1 R1 r1 => ?_⟩
  obtain ⟨C1', L1', R1', fin⟩ := opnd R L1 R1 r1
  refine ⟨C1', st1, _, st', L1'.le.k.trans hK, L1'.le.w.trans hw, R1', e2, fun v2 C2 H2 L2 R2 r2 => ⟨l, res_int r2, ?_⟩⟩
  have LL := L1'.trans L2
  exact ⟨C2, p1, p, LL.le.k.trans hK, LL.le.w.trans hw, R2.sub, fin L2.le R2 k1, k0, fun v4 C4 H4 g r => q v4 C4 H4 (LL.grow g) (g.rel R2) r⟩
theorem rd_slc_ft {l' : E} (hl : isBor l' = false) {σ : L2.St} {H : Hp} {Q : VK} (h : rd G (.op (.slc false true) [a', l']) σ H Q) :
    tSl (USl G) (rd G a') tNoPart (tPart (rd G l')) σ H Q := by
  obtain ⟨C, st, p, st', hK, hw, R, he, q⟩ := h
  obtain ⟨ps0, ps, h1, h2, h3⟩ := op_split he
  obtain ⟨p1, l, rfl, k0⟩ := slc_ft h3
  obtain ⟨q1, st1, qs1, e1, h5, rfl⟩ := evs_cons h1
  obtain ⟨q2, st2, qs, e2, h6, rfl⟩ := evs_cons h5
  cases (show Res.ok ([], st2) = Res.ok (qs, st') from h6)
  obtain ⟨k1, g2⟩ := reread_head h2
  obtain ⟨k2, _⟩ := reread_head g2
  have k2 : PV.int l = q2 := nb_head hl k2
  subst k2
  refine ⟨C, st, q1, st1, hK, hw, R, e1, fun v C1 H1 L1 R1 r1 => ?_⟩
  obtain ⟨C1', L1', R1', fin⟩ := opnd R L1 R1 r1
  refine ⟨C1', st1, _, st', L1'.le.k.trans hK, L1'.le.w.trans hw, R1', e2, fun v2 C2 H2 L2 R2 r2 => ⟨l, res_int r2, ?_⟩⟩
  have LL := L1'.trans L2
  exact ⟨C2, p1, p, LL.le.k.trans hK, LL.le.w.trans hw, R2.sub, fin L2.le R2 k1, k0, fun v4 C4 H4 g r => q v4 C4 H4 (LL.grow g) (g.rel R2) r⟩
theorem rd_slc_ff {σ : L2.St} {H : Hp} {Q : VK} (h : rd G (.op (.slc false false) [a']) σ H Q) :
    tSl (USl G) (rd G a') tNoPart tNoPart σ H Q := by
  obtain ⟨C, st, p, st', hK, hw, R, he, q⟩ := h
  obtain ⟨ps0, ps, h1, h2, h3⟩ := op_split he
  obtain ⟨p1, rfl, k0⟩ := slc_ff h3
  obtain ⟨q1, st1, qs, e1, h5, rfl⟩ := evs_cons h1
  cases (show Res.ok ([], st1) = Res.ok (qs, st') from h5)
  obtain ⟨k1, _⟩ := reread_head h2
  refine ⟨C, st, q1, st', hK, hw, R, e1, fun v C1 H1 L1 R1 r1 => ?_⟩
  obtain ⟨C1', L1', R1', fin⟩ := opnd R L1 R1 r1
  exact ⟨C1', p1, p, L1'.le.k.trans hK, L1'.le.w.trans hw, R1'.sub, fin (.refl _) R1' k1, k0, fun v4 C4 H4 g r => q v4 C4 H4 (L1'.grow g) (g.rel R1') r⟩
theorem n_slc_tt (O : XO G X) {l u : Expr} {l' u' : E} {p2 : Pos} (hl : isBor l' = false) (hu : isBor u' = false) (ha : PE X a (rd G a')) (kl : PE X l (rd G l')) (ku : PE X u (rd G u')) :
    PE X (.Subscript a (.Slice (some l) (some u) none p2) pos) (rd G (.op (.slc true true) [a', l', u'])) := (pe_slice (u_slc O.hK) ha (po_some kl) (po_some ku)).imp fun _ _ _ h => rd_slc_tt hl hu h
theorem n_slc_tf (O : XO G X) {l : Expr} {l' : E} {p2 : Pos} (hl : isBor l' = false) (ha : PE X a (rd G a')) (kl : PE X l (rd G l')) :
    PE X (.Subscript a (.Slice (some l) none none p2) pos) (rd G (.op (.slc true false) [a', l'])) := (pe_slice (u_slc O.hK) ha (po_some kl) po_none).imp fun _ _ _ h => rd_slc_tf hl h
theorem n_slc_ft (O : XO G X) {l : Expr} {l' : E} {p2 : Pos} (hl : isBor l' = false) (ha : PE X a (rd G a')) (kl : PE X l (rd G l')) :
    PE X (.Subscript a (.Slice none (some l) none p2) pos) (rd G (.op (.slc false true) [a', l'])) := (pe_slice (u_slc O.hK) ha po_none (po_some kl)).imp fun _ _ _ h => rd_slc_ft hl h
theorem n_slc_ff (O : XO G X) {p2 : Pos} (ha : PE X a (rd G a')) :
    PE X (.Subscript a (.Slice none none none p2) pos) (rd G (.op (.slc false false) [a'])) := (pe_slice (u_slc O.hK) ha po_none po_none).imp fun _ _ _ h => rd_slc_ff h
theorem n_rev (O : XO G X) {k : Nat} {p1 p2 p3 : Pos} (ha : PE X a (rd G a')) : PE X (.Subscript a (.Slice none none (some (.UnaryOp .USub (.Constant (.int 1) k p1) p2)) p3) pos) (rd G (.op .rev [a'])) :=
  (pe_rev O.hK ha).imp fun _ _ _ h => rdA_1 (rd_op h)

/-! ### displays -/
theorem allR_len {C : RC} {H : Hp} : ∀ {es : List E} {ps : List PV} {vs : List V}, AllR C H es ps vs → vs.length = es.length
  | [], _, _, ⟨_, rfl⟩ => rfl
  | e :: es, _, _, ⟨p, ps, v, vs, rfl, rfl, h, t⟩ => by rw [List.length_cons, List.length_cons, allR_len t]
theorem rdA_len {es : List E} {σ : L2.St} {H : Hp} {Q : List V → Hp → Prop} (h : rdA G es σ H Q) : rdA G es σ H fun vs H1 => vs.length = es.length ∧ Q vs H1 := by
  obtain ⟨C, st, ps0, st', ps, hK, hw, R, he, hr, q⟩ := h
  exact ⟨C, st, ps0, st', ps, hK, hw, R, he, hr, fun vs C' H' L R' a => ⟨allR_len a, q vs C' H' L R' a⟩⟩
theorem rdA_mono {es : List E} {σ : L2.St} {H : Hp} {Q Q' : List V → Hp → Prop} (h : rdA G es σ H Q) (i : ∀ vs H, Q vs H → Q' vs H) : rdA G es σ H Q' := by
  obtain ⟨C, st, ps0, st', ps, hK, hw, R, he, hr, q⟩ := h
  exact ⟨C, st, ps0, st', ps, hK, hw, R, he, hr, fun vs C' H' L R' a => i _ _ (q vs C' H' L R' a)⟩
theorem n_tup {es : List Expr} {es' : List E} {x1} (hs : SndL G X es es') (hb : noBor es' = true) (hl : decide (es'.length ≤ 100000) = true) : PE X (.Tuple es x1 pos) (rd G (.op .tup es')) :=
  (pe_tup hs.pa).imp fun _ _ _ h => rdA_mono (rdA_len (rd_opR hb h)) fun vs H1 ⟨hv, u⟩ => by
    obtain ⟨C, ps, r, cup, eK, ew, hF, hc, hsr, ho, q⟩ := u
    have := of_decide_eq_true hl
    refine ⟨by rw [sizeLine_eq]; omega, fun p hp => ?_⟩
    cases (show Res.ok (PV.tup ps) = Res.ok r from ho)
    obtain ⟨C', g, r'⟩ := new_tup hF hp hsr
    exact q _ C' _ g r'
theorem n_lst {es : List Expr} {es' : List E} (hs : SndL G X es es') (hb : noBor es' = true) (hl : decide (es'.length ≤ 100000) = true) : PE X (.List es pos) (rd G (.op .lst es')) :=
  (pe_lst hs.pa).imp fun _ _ _ h => rdA_mono (rdA_len (rd_opR hb h)) fun vs H1 ⟨hv, u⟩ => by
    obtain ⟨C, ps, r, cup, eK, ew, hF, hc, hsr, ho, q⟩ := u
    have := of_decide_eq_true hl
    refine ⟨by rw [sizeLine_eq]; omega, fun p hp => ?_⟩
    cases (show Res.ok (PV.lst ps) = Res.ok r from ho)
    obtain ⟨g, r'⟩ := own_lst hF hp hsr
    exact q _ C _ g r'
/-- {} -/
theorem dob_nil {w : World} {a : Addr} (h : (a == sysModules) = false) : DOb w a { cls := .type "dict", data := .dict #[] } [] [] :=
  ⟨⟨rfl, rfl, rfl⟩, ⟨#[], 0, rfl, rfl⟩, h, Nat.zero_le _, (fun _ h => nomatch h), ⟨0, Nat.zero_le _, (fun _ h => nomatch h)⟩, List.nodup_nil, rfl⟩
theorem n_dct0 : PE X (.Dict [] [] pos) (rd G (.op .dct [])) := ⟨fun pins s σ H Q I h => by
  obtain ⟨C, ps, r, cup, eK, ew, hF, hc, hsr, ho, q⟩ := rdA_nil (rd_opR (by rfl) h)
  have hp := I.hok.fresh (Nat.le_refl s.heap.objs.size)
  cases (show ps = [] from by cases ps with | nil => rfl | cons p ps => obtain ⟨_, _, e, _⟩ := hsr.cons_inv; cases e)
  cases (show Res.ok (PV.dct []) = Res.ok r from ho)
  have hsys : (s.heap.objs.size == sysModules) = false := beq_eq_false_iff_ne.mpr (Ne.symm (Nat.ne_of_lt I.big))
  have at_ : (s.heap.push { cls := .type "dict", data := .dict #[] }).get? s.heap.objs.size = some { cls := .type "dict", data := .dict #[] } := Heap.get?_push_size _ rfl
  refine wpAny_Dict_empty ⟨.ref s.heap.objs.size, _, I.laid (a := s.heap.objs.size) (o := .ext (IsOb s.heap.objs.size { cls := .type "dict", data := .dict #[] })) (t' := s.toks) (fun _ _ q => Heap.get?_push_of_some _ q) (Nat.le_refl _) ⟨at_, ⟨_, at_⟩, fun h1 h2 e k => k _ e⟩, rfl, ?_⟩
  refine q _ C _ (.newOwn hF hp _) ?_
  show if true = true then _ else _
  rw [if_pos rfl]
  refine ⟨_, rfl, hp, ?_, _, [], upd_same, dob_nil hsys, rfl⟩
  cases e : C.F s.heap.objs.size with
  | none => rfl
  | some u => have := hF _ u e; rw [hp] at this; cases this⟩
end
end Py
end

section
set_option Elab.async false
set_option linter.all false
set_option autoImplicit false
set_option maxRecDepth 100000
/-! Calls: built-in functions, isinstance, methods, one's own functions. -/
namespace Py
open PySem PySem.Spec PyProof.Rows L2

/-! ### built-in functions by their names -/
def bifOf (x : Str) : Option Bif :=
  if x = "len" then some .len else if x = "abs" then some .abs else if x = "int" then some .int else if x = "tuple" then some .tuple else if x = "list" then some .list
  else if x = "sorted" then some .sorted else if x = "sum" then some .sum else if x = "min" then some .min else if x = "max" then some .max
  else if x = "any" then some .any else if x = "all" then some .all else none
section
variable {G : GP} {X : Cx} {pos p : Pos} {x : Str} {e : Expr} {es : List Expr} {e' : E} {es' : List E}
theorem n_callB {id : String} {b : Bif} (hc : CallR X (.builtin id) (fun xs H Q => UO G (.bif b) xs H Q)) (hg : Gl X x) (hm : X.mg x = none) (hv : bootBuiltins x = some (.builtin id)) (hn : x ≠ "__name__") (hdb : (x == ("__debug__" : Str)) = false) (hs : SndL G X (e :: es) es') :
    PE X (.Call (.Name x p) (e :: es) [] pos) (rd G (.op (.bif b) es')) := by
  have h2 := hs.star
  rw [List.all_cons, Bool.and_eq_true] at h2
  exact (pe_callB hc hg hm hv hs.pa hn hdb (star_cons h2.1) (star_any h2.2)).imp fun _ _ _ h => rd_op h
theorem n_callTy {T : String} {b : Bif} (hc : CallR X (.type T) (fun xs H Q => UO G (.bif b) xs H Q)) (hg : Gl X x) (hm : X.mg x = none) (hv : bootBuiltins x = some (.type T)) (hn : x ≠ "__name__") (hdb : (x == ("__debug__" : Str)) = false) (hs : SndL G X (e :: es) es') :
    PE X (.Call (.Name x p) (e :: es) [] pos) (rd G (.op (.bif b) es')) := by
  have h2 := hs.star
  rw [List.all_cons, Bool.and_eq_true] at h2
  exact (pe_callTy hc hg hm hv hs.pa hn hdb (star_cons h2.1) (star_any h2.2)).imp fun _ _ _ h => rd_op h
theorem bt_len : bootBuiltins ("len" : Str) = some (.builtin "len") := by decide +kernel
theorem bt_abs : bootBuiltins ("abs" : Str) = some (.builtin "abs") := by decide +kernel
theorem bt_int : bootBuiltins ("int" : Str) = some (.type "int") := by decide +kernel
theorem bt_tuple : bootBuiltins ("tuple" : Str) = some (.type "tuple") := by decide +kernel
theorem bt_list : bootBuiltins ("list" : Str) = some (.type "list") := by decide +kernel
theorem bt_dict : bootBuiltins ("dict" : Str) = some (.type "dict") := by decide +kernel
theorem bt_sorted : bootBuiltins ("sorted" : Str) = some (.builtin "sorted") := by decide +kernel
theorem bt_sum : bootBuiltins ("sum" : Str) = some (.builtin "sum") := by decide +kernel
theorem bt_min : bootBuiltins ("min" : Str) = some (.builtin "min") := by decide +kernel
theorem bt_max : bootBuiltins ("max" : Str) = some (.builtin "max") := by decide +kernel
theorem bt_any : bootBuiltins ("any" : Str) = some (.builtin "any") := by decide +kernel
theorem bt_all : bootBuiltins ("all" : Str) = some (.builtin "all") := by decide +kernel
theorem bt_isi : bootBuiltins ("isinstance" : Str) = some (.builtin "isinstance") := by decide +kernel
theorem bt_bool : bootBuiltins ("bool" : Str) = some (.type "bool") := by decide +kernel
theorem bt_str : bootBuiltins ("str" : Str) = some (.type "str") := by decide +kernel
theorem n_bif (O : XO G X) {b : Bif} (hb : bifOf x = some b) (hg : Gl X x) (hm : X.mg x = none) (hs : SndL G X (e :: es) es') : PE X (.Call (.Name x p) (e :: es) [] pos) (rd G (.op (.bif b) es')) := by
  unfold bifOf at hb
  split at hb
  · rename_i e; subst e; cases hb; exact n_callB (u_len O.hK) hg hm bt_len (by decide) (by decide) hs
  split at hb
  · rename_i e; subst e; cases hb; exact n_callB u_abs hg hm bt_abs (by decide) (by decide) hs
  split at hb
  · rename_i e; subst e; cases hb; exact n_callTy u_int hg hm bt_int (by decide) (by decide) hs
  split at hb
  · rename_i e; subst e; cases hb; exact n_callTy (u_tuple O.hK) hg hm bt_tuple (by decide) (by decide) hs
  split at hb
  · rename_i e; subst e; cases hb; exact n_callTy (u_list O.hK O.calm) hg hm bt_list (by decide) (by decide) hs
  split at hb
  · rename_i e; subst e; cases hb; exact n_callB (u_sorted O.hK O.calm O.units) hg hm bt_sorted (by decide) (by decide) hs
  split at hb
  · rename_i e; subst e; cases hb; exact n_callB (u_sum O.hK O.calm) hg hm bt_sum (by decide) (by decide) hs
  split at hb
  · rename_i e; subst e; cases hb; exact n_callB (u_min O.hK O.calm O.units) hg hm bt_min (by decide) (by decide) hs
  split at hb
  · rename_i e; subst e; cases hb; exact n_callB (u_max O.hK O.calm O.units) hg hm bt_max (by decide) (by decide) hs
  split at hb
  · rename_i e; subst e; cases hb; exact n_callB (u_any O.calm) hg hm bt_any (by decide) (by decide) hs
  split at hb
  · rename_i e; subst e; cases hb; exact n_callB (u_all O.calm) hg hm bt_all (by decide) (by decide) hs
  cases hb
/-! ### isinstance(x, T) -/
def tyOf (x : Str) : Option Ty :=
  if x = "int" then some .int else if x = "bool" then some .bool else if x = "tuple" then some .tuple else if x = "list" then some .list else if x = "str" then some .str else none
def tyN : Ty → String
  | .int => "int"
  | .bool => "bool"
  | .tuple => "tuple"
  | .list => "list"
  | .str => "str"
theorem tyOf_ok {x : Str} {t : Ty} (h : tyOf x = some t) : bootBuiltins x = some (.type (tyN t)) ∧ x ≠ "__name__" ∧ (x == ("__debug__" : Str)) = false := by
  unfold tyOf at h
  split at h
  · rename_i e; subst e; cases h; exact ⟨bt_int, by decide, by decide⟩
  split at h
  · rename_i e; subst e; cases h; exact ⟨bt_bool, by decide, by decide⟩
  split at h
  · rename_i e; subst e; cases h; exact ⟨bt_tuple, by decide, by decide⟩
  split at h
  · rename_i e; subst e; cases h; exact ⟨bt_list, by decide, by decide⟩
  split at h
  · rename_i e; subst e; cases h; exact ⟨bt_str, by decide, by decide⟩
  cases h
theorem ki {K : PySem.W.Frag} (t : Ty) : kitB "int" (tyN t) = some (match t with | .int => true | _ => false) ∧ kitB "bool" (tyN t) = some (match t with | .int => true | .bool => true | _ => false) ∧ kitB "str" (tyN t) = some (match t with | .str => true | _ => false) ∧
    kitB "tuple" (tyN t) = some (match t with | .tuple => true | _ => false) ∧ kitB "list" (tyN t) = some (match t with | .list => true | _ => false) ∧ kitB "NoneType" (tyN t) = some false ∧ kitB "dict" (tyN t) = some false := by
  cases t <;> decide +kernel
theorem u_isi (O : XO G X) {t : Ty} : CallR X (.builtin "isinstance") (fun xs H Q => ∃ x, xs = [x, V.ty (tyN t)] ∧ UO G (.isi t) [x] H Q) := by
  intro pins s σ H xs us Q I rs h
  obtain ⟨x, rfl, C, ps, r, cup, eK, ew, hF, hc, hsr, ho, q⟩ := h
  have ek : C.K = X.K := eK.trans O.hK.symm
  obtain ⟨p, rfl, h1⟩ := hsr.one
  have ho : isiV t p = .ok r := ho
  obtain ⟨u1, u2, rfl, r1, r2⟩ := vals2 rs
  cases (show u2 = Value.type (tyN t) from r2)
  obtain ⟨k1, k2, k3, k4, k5, k6, k7⟩ := ki (K := X.K) t
  have fin : ∀ (T : String) (b : Bool) (P : Heap → Prop), PySem.W.KitX X.K u1 (.type T) P → P s.heap → u1 ≠ .builtin "__main__.__loader__#opaque" → kitB T (tyN t) = some b → r = .bl b → wpAny (model X.prog X.w) X.A (call (.builtin "isinstance") [u1, .type (tyN t)]) (EP X pins σ Q) X.xe s := fun T b P Z p hx e hr => by
    subst hr
    exact PySem.W.kia_one Z I.kIn p (kit_ty e) hx fun tk => ⟨.bl b, H, I.tok tk, rfl, q _ C H (.refl hF) rfl⟩
  cases p with
  | non => cases (show x = V.non from h1); cases (show u1 = Value.none from r1); exact fin _ _ _ PySem.W.kitx_none True.intro (fun z => nomatch z) k6 (Res.ok.inj ho).symm
  | bl b => cases (show x = V.bl b from h1); cases (show u1 = Value.bool b from r1); exact fin _ _ _ PySem.W.kitx_bool True.intro (fun z => nomatch z) k2 (Res.ok.inj ho).symm
  | int b => cases (show x = V.int b from h1); obtain ⟨t, q⟩ := (show ∃ t, u1 = Value.int b t from r1); cases q; exact fin _ _ _ PySem.W.kitx_int True.intro (fun z => nomatch z) k1 (Res.ok.inj ho).symm
  | str b => cases (show x = V.str b from h1); obtain ⟨t, q⟩ := (show ∃ t, u1 = Value.str b t from r1); cases q; exact fin _ _ _ PySem.W.kitx_str True.intro (fun z => nomatch z) k3 (Res.ok.inj ho).symm
  | tup xs =>
    obtain ⟨a, vs, rfl, k, _⟩ := h1
    cases r1
    obtain ⟨its, rv, ⟨o, h1, h2, _⟩, hz⟩ := I.tuple (ek ▸ sqT_le hF k)
    exact fin _ _ _ PySem.W.kitx_tuple ⟨o, h1, h2⟩ (fun z => nomatch z) k4 (Res.ok.inj ho).symm
  | lst xs =>
    obtain ⟨a, vs, rfl, k, _⟩ := h1
    cases r1
    obtain ⟨its, rv, hit, hz⟩ := I.list (.of k)
    obtain ⟨o, h1, h2, _⟩ := hit.isList
    exact fin _ _ _ PySem.W.kitx_list ⟨o, h1, h2⟩ (fun z => nomatch z) k5 (Res.ok.inj ho).symm
  | dct kvs =>
    obtain ⟨a, ob, es, rfl, hob, hd, hr⟩ := h1
    cases r1
    exact fin _ _ _ PySem.W.kitx_dict ⟨ob, ob_at I ek hob, hd.exact.1⟩ (fun z => nomatch z) k7 (Res.ok.inj ho).symm
  | _ => exact nomatch ho
theorem n_isi (O : XO G X) {t : Ty} {y : Str} {p2 : Pos} (hx : x = "isinstance") (hg : Gl X x) (hm : X.mg x = none) (hn : notStar e = true) (he : PE X e (rd G e')) (ht : tyOf y = some t) (hgy : Gl X y) (hmy : X.mg y = none) :
    PE X (.Call (.Name x p) [e, .Name y p2] [] pos) (rd G (.op (.isi t) [e'])) := by
  obtain ⟨hb, h1, h2⟩ := tyOf_ok ht
  subst hx
  have hT : PE X (.Name y p2) (tC (.ty (tyN t))) := pe_bltn hgy hmy hb rfl h1 h2
  refine (pe_callB (u_isi O (t := t)) hg hm bt_isi (pa_cons he (pa_cons hT pa_nil (star_cons rfl)) (star_cons hn)) (by decide) (by decide) (star_cons hn) (star_any rfl)).imp fun σ H Q h => ?_
  exact rd_mono (rdA_1 (rd_op h)) fun v H1 q => ⟨v, rfl, q⟩
end
end Py
end

section
set_option Elab.async false
set_option linter.all false
set_option autoImplicit false
set_option maxRecDepth 100000
/-! Calls of one's own functions: the promise of each. -/
namespace Py
open PySem PySem.Spec PyProof.Rows L2

/-- what a call leaves as it was -/
structure Post (C : RC) (H : Hp) (C' : RC) (H' : Hp) : Prop where
  le : C.Le C'
  keep : ∀ b o, H b = some o → C.cp ≠ some b → H' b = some o
  there : ∀ b o, H b = some o → ∃ o', H' b = some o'
  fnew : ∀ b o, C'.F b = some o → C.F b = some o ∨ H b = none
  cnew : ∀ c, C'.cp = some c → C.cp = some c ∨ H c = none
  sub : SubH C' H'
structure CupOk (C : RC) (cu : Option (Int × Int)) (H : Hp) : Prop where
  cup : ∀ x y, cu = some (x, y) → ∃ c, C.cp = some c ∧ H c = some (.lst [.int x, .int y])
  nocup : cu = none → C.cp = none
  cpf : ∀ c, C.cp = some c → C.F c = none
def OutF (fr : Bool) (C' : RC) (H H' : Hp) (p : PV) (v : V) : Prop :=
  if fr = true then ∃ a, v = .ref a ∧ H a = none ∧ C'.F a = none ∧ C'.cp ≠ some a ∧ OwnR C' H' p a else Rep C' p v
/-- the one promise of all: what the little language's run tells -/
def spU (G : GP) (k : Nat) : Sp := fun vs H Q _ => ∃ C ps cup r cup', C.K = G.K ∧ C.w = G.w ∧ SubH C H ∧ CupOk C cup H ∧ Reps C ps vs ∧ G.Φ k ps cup = .ok (r, cup') ∧
  ∀ v C' H', Post C H C' H' → CupOk C' cup' H' → OutF (G.ff k) C' H H' r v → Q v H'
theorem Rel.cupOk {C : RC} {st : St} {σ : L2.St} {H : Hp} (R : Rel C st σ H) : CupOk C st.cup H := ⟨R.cup, R.nocup, R.cpf⟩
theorem Post.rel {C C' : RC} {st : St} {σ : L2.St} {H H' : Hp} {cup' : Option (Int × Int)} (p : Post C H C' H') (R : Rel C st σ H) (k : CupOk C' cup' H') : Rel C' { st with cup := cup' } σ H' := by
  refine ⟨p.sub, R.len, fun i q h => ?_, fun i q h => ?_, R.apart, k.cup, k.nocup, k.cpf⟩
  · obtain ⟨v, e, r⟩ := R.slot i q h
    exact ⟨v, e, Rep.le p.le _ _ r⟩
  · obtain ⟨a, e, h1, h2, h3⟩ := R.own i q h
    obtain ⟨o, ho⟩ := h3.some
    refine ⟨a, e, ?_, fun z => ?_, h3.le p.le ((p.keep a o ho h2).trans ho.symm)⟩
    · cases z : C'.F a with
      | none => rfl
      | some u =>
        rcases p.fnew a u z with q | q
        · rw [h1] at q; cases q
        · rw [ho] at q; cases q
    · rcases p.cnew a z with q | q
      · exact h2 q
      · rw [ho] at q; cases q
theorem Post.loc {C C' : RC} {st : St} {σ : L2.St} {H H' : Hp} {cup' : Option (Int × Int)} (p : Post C H C' H') : Loc C st σ H C' { st with cup := cup' } H' :=
  ⟨p.le, fun b o h _ hc => p.keep b o h hc, p.there, fun b o h => (p.fnew b o h).imp id .inl, p.cnew, fun _ h => h⟩
theorem evs_nil {Φ : Calls} {st st' : St} {ps0 : List PV} (h : evs Φ [] st = .ok (ps0, st')) : ps0 = [] ∧ st' = st := by
  cases (show Res.ok ([], st) = Res.ok (ps0, st') from h)
  exact ⟨rfl, rfl⟩
theorem noBor_cons {e : E} {es : List E} (h : noBor (e :: es) = true) : isBor e = false ∧ noBor es = true := by
  have h' : (!isBor e) = true ∧ noBor es = true := by simpa [noBor, List.all_cons, Bool.and_eq_true] using h
  exact ⟨by simpa using h'.1, h'.2⟩
theorem reread_nb {Φ : Calls} : ∀ {es : List E} {st st' : St} {ps0 : List PV} (st2 : St), noBor es = true → evs Φ es st = .ok (ps0, st') → reread es ps0 st2 = .ok ps0
  | [], st, st', ps0, st2, _, h => by obtain ⟨rfl, rfl⟩ := evs_nil h; rfl
  | e :: es, st, st', ps0, st2, hb, h => by
    obtain ⟨p, st1, q, h1, h2, rfl⟩ := evs_cons h
    obtain ⟨b1, b2⟩ := noBor_cons hb
    have ih := reread_nb st2 b2 h2
    have : reread (e :: es) (p :: q) st2 = ((reread es q st2).bind fun r => .ok (p :: r)) := by
      cases e <;> first | rfl | exact absurd b1 (fun e => Bool.noConfusion e)
    rw [this, ih]
    rfl
section
variable {G : GP} {X : Cx} {pos p : Pos} {x : Str} {e : Expr} {es : List Expr} {es' : List E} {k : Nat}
theorem rd_call (hb : noBor es' = true) {σ : L2.St} {H : Hp} {Q : VK} (h : rd G (.call k es') σ H Q) : rdA G es' σ H fun vs H1 => spU G k vs H1 Q E0 := by
  obtain ⟨C, st, p, st', hK, hw, R, he, q⟩ := h
  rw [ev] at he
  obtain ⟨⟨ps, st1⟩, h1, he⟩ := bindR he
  obtain ⟨⟨r, cup'⟩, h2, he⟩ := bindR he
  cases he
  refine ⟨C, st, ps, st1, ps, hK, hw, R, h1, reread_nb st1 hb h1, fun vs C1 H1 L1 R1 a => ⟨C1, ps, st1.cup, r, cup', L1.le.k.trans hK, L1.le.w.trans hw, R1.sub, R1.cupOk, a.r hb, h2, fun v C' H' P K O => ?_⟩⟩
  refine q v C' H' (L1.trans P.loc) (P.rel R1 K) ?_
  show if G.ff k = true then _ else _
  unfold OutF at O
  split at O
  · rename_i hf
    rw [if_pos hf]
    obtain ⟨a, h1, h2, h3⟩ := O
    refine ⟨a, h1, ?_, h3⟩
    cases hx : H a with
    | none => rfl
    | some u => obtain ⟨u', q⟩ := L1.there a u hx; rw [h2] at q; cases q
  · rename_i hf
    rw [if_neg hf]; exact O
/-- the function k is known by the name x -/
def FnK (G : GP) (X : Cx) (k : Nat) (x : Str) : Prop := ∃ f fd ps kk, FnOk X.prog X.w X.K X.mg X.base CX0 kk f fd ps (spU G k) ∧ Room kk X.A ∧ X.mg x = some (.ref f) ∧ PySem.W.keepIn X.K (.ref f) = true ∧ Binds X.K fd ps []
theorem n_call (F : FnK G X k x) (hg : Gl X x) (hdb : (x == ("__debug__" : Str)) = false) (hb : noBor es' = true) (hs : SndL G X es es') : PE X (.Call (.Name x p) es [] pos) (rd G (.call k es')) := by
  obtain ⟨f, fd, ps, kk, Fn, hr, hm, hk, hbi⟩ := F
  cases es with
  | nil =>
    cases hs
    refine (pe_call0 (dvs := []) Fn hr hg hm hk hbi .nil pass0 hdb).imp fun σ H Q h => ?_
    exact rdA_nil (rd_call hb h)
  | cons e es =>
    have h2 := hs.star
    rw [List.all_cons, Bool.and_eq_true] at h2
    refine (pe_call (dvs := []) Fn hr hg hm hk hbi .nil pass0 hs.pa hdb (star_cons h2.1) (star_any h2.2)).imp fun σ H Q h => ?_
    show rdA G es' σ H fun vs H1 => spU G k (vs ++ []) H1 Q E0
    exact rdA_mono (rd_call hb h) fun vs H1 q => by rw [List.append_nil]; exact q

/-! ### methods of a value: o.m(..) -/
theorem ev_meth {Φ : Calls} {o : Op} {a : E} {es : List E} {st st' : St} {p : PV} (h : ev Φ (.meth o a es) st = .ok (p, st')) :
    ∃ p1 st1 ps0 p2 ps, ev Φ a st = .ok (p1, st1) ∧ evs Φ es st1 = .ok (ps0, st') ∧ reread (a :: es) (p1 :: ps0) st' = .ok (p2 :: ps) ∧ kname p2 = kname p1 ∧ opV st'.cup o (p2 :: ps) = .ok p := by
  rw [ev] at h
  obtain ⟨⟨p1, st1⟩, h1, h⟩ := bindR h
  obtain ⟨⟨ps0, st2⟩, h2, h⟩ := bindR h
  obtain ⟨vs, h3, h⟩ := bindR h
  cases vs with
  | nil => exact nomatch h
  | cons v ws =>
    obtain ⟨h4, h5⟩ := Res.of_ok h
    obtain ⟨y, h6, h7⟩ := bindR h5
    cases h7
    exact ⟨p1, st1, ps0, v, ws, h1, h2, h3, of_decide_eq_true h4, h6⟩
/-- the type of a value that is told by its kind -/
theorem srep_type {pins : List (Addr × Obj)} {s : Shared} {σ : L2.St} {H : Hp} {C : RC} {p : PV} {v : V} {u : Value} {T : String} (I : Inv X pins σ H s) (ek : C.K = X.K) (hF : SubH C H) (h : SRep C H p v) (r : RelV v u) (hT : kname p = some T) :
    s.TypeIs u T ∧ ∀ a, u = .ref a → ∃ ob, s.heap.get? a = some ob ∧ ob.dict = none := by
  cases p with
  | lst xs =>
    cases hT
    obtain ⟨a, vs, rfl, k, _⟩ := h
    cases r
    obtain ⟨its, rv, ⟨o, n, h1, h2, h3, h4⟩, hz⟩ := I.list (.of k)
    exact ⟨⟨o, h1, h2⟩, fun b e => by cases e; exact ⟨o, h1, h3⟩⟩
  | dct kvs =>
    cases hT
    obtain ⟨a, ob, es, rfl, hob, hd, hr⟩ := h
    cases r
    have hg := ob_at I ek hob
    exact ⟨⟨ob, hg, hd.exact.1⟩, fun b e => by cases e; exact ⟨ob, hg, hd.exact.2.1⟩⟩
  | _ => exact nomatch hT
theorem evalArgs_any {M : Model} {A : Around} {E : Value → Shared → Prop} {s : Shared} {f : Value} {env : Env} {pos : Pos} : ∀ {es : List Expr}, es.all notStar = true → ∀ {Q : Args → Shared → Prop}, wpAny M A (spliced (backTo pos (starEach es env))) (fun vs s' => Q ⟨vs, []⟩ s') E s → wpAny M A (evalArgs f true (backTo pos (starEach es env)) []) Q E s
  | [], _, Q, h => by
    have h' : wpAny M A (spliced []) (fun vs s' => Q ⟨vs, []⟩ s') E s := h
    unfold evalArgs
    refine wpAny_bind (wpAny_mono h' (fun vs s' h' => ?_) fun _ _ x => x)
    refine wpAny_holding ?_
    exact wpAny_bind (wpAny_pure (wpAny_bind (wpAny_pure (wpAny_pure h'))))
  | e :: es, hs, Q, h => by
    rw [List.all_cons, Bool.and_eq_true] at hs
    rw [star_cons hs.1] at h ⊢
    exact Calls.evalArgs_plain h
/-- what a method of a value is, and what it answers by the little language -/
structure MethOk (G : GP) (X : Cx) (name : Str) (o : Op) : Prop where
  knd : ∀ cup p ps r, opV cup o (p :: ps) = .ok r → ∃ T, kname p = some T
  run : ∀ cup p ps r T, opV cup o (p :: ps) = .ok r → kname p = some T → ∃ id, PlainAttrs T ∧ PySem.Slot T name id ∧ typeOf (.builtin id) = pure (.type "method_descriptor") ∧
    ∀ (pins : List (Addr × Obj)) (s : Shared) (σ : L2.St) (H : Hp) (x : V) (xs : List V) (v : Value) (us : List Value) (Q : VK) (C : RC), Inv X pins σ H s → RelV x v → Vals xs us → C.K = G.K → C.w = G.w → SubH C H → CupH C cup H → SRep C H p x → SReps C H ps xs →
      (∀ v C' H', Grow C H C' H' → OutR (freshO o) C' H H' r v → Q v H') → wpAny (model X.prog X.w) X.A (call (.builtin id) (v :: us)) (EP X pins σ Q) X.xe s
theorem freshE_meth {ff : Nat → Bool} {o : Op} {a : E} {es : List E} : freshE ff (.meth o a es) = false := rfl
theorem n_meth (O : XO G X) {name : Str} {o : Op} {a : Expr} {a' : E} {apos cpos : Pos} (M : MethOk G X name o) (hf : freshO o = false) (ha : PE X a (rd G a')) (hb : noBor es' = true) (hs : SndL G X es es')
    (hbase : attributeBase a name X.env (eval a X.env) = eval a X.env) (hline : (apos.endLine == cpos.line) = true) (hl : decide (es.length < 29) = true) : PE X (.Call (.Attribute a name apos) es [] cpos) (rd G (.meth o a' es')) := by
  refine ⟨fun pins s σ H Q I h => ?_⟩
  obtain ⟨C, st, p, st', hK, hw, R, he, q⟩ := h
  obtain ⟨p1, st1, ps0, p2, ps, h1, h2, h3, h4, h5⟩ := ev_meth he
  obtain ⟨k1, h3'⟩ := reread_head h3
  rw [reread_nb st' hb h2] at h3'
  cases h3'
  obtain ⟨T, hT⟩ := M.knd _ _ _ _ h5
  obtain ⟨id, pa, slot, hty, run⟩ := M.run _ _ _ _ T h5 hT
  have hstar := hs.star
  have hfew : ((backTo cpos (starEach es X.env)).all (fun x => !x.1) && (backToKw cpos (keywordEach [] X.env)).all (fun x => x.1.isSome) && decide (es.length + ([] : List Keyword).length + (if ([] : List Keyword).isEmpty then 0 else 1) < 30)) = true := by
    have e1 : (backTo cpos (starEach es X.env)).all (fun x => !x.1) = true := by
      have := star_any (env := X.env) (pos := cpos) hstar
      rw [List.all_eq_not_any_not]
      simpa using this
    have e2 := of_decide_eq_true hl
    rw [e1]
    show (true && true && decide (es.length + 0 + 0 < 30)) = true
    simp only [Bool.true_and, decide_eq_true_eq]
    omega
  have rda : rd G a' σ H (fun x H1 => ∃ C1 : RC, C1.K = G.K ∧ SubH C1 H1 ∧ SRep C1 H1 p1 x ∧ rdA G es' σ H1 fun xs H2 => ∃ C2 : RC, C2.K = G.K ∧ C2.w = G.w ∧ SubH C2 H2 ∧ CupH C2 st'.cup H2 ∧ SRep C2 H2 p2 x ∧ SReps C2 H2 ps0 xs ∧ opV st'.cup o (p2 :: ps0) = .ok p ∧ ∀ v C' H', Grow C2 H2 C' H' → OutR (freshO o) C' H2 H' p v → Q v H') := by
    refine ⟨C, st, p1, st1, hK, hw, R, h1, fun v C1 H1 L1 R1 r1 => ?_⟩
    obtain ⟨C1', L1', R1', fin⟩ := opnd R L1 R1 r1
    refine ⟨C1', L1'.le.k.trans hK, R1'.sub, ?_, C1', st1, ps0, st', ps0, L1'.le.k.trans hK, L1'.le.w.trans hw, R1', h2, reread_nb st' hb h2, fun vs C2 H2 L2 R2 a => ⟨C2, L2.le.k.trans (L1'.le.k.trans hK), L2.le.w.trans (L1'.le.w.trans hw), R2.sub, R2.cupH, fin L2.le R2 k1, a.s R2.sub, h5, fun v4 C4 H4 g out => ?_⟩⟩
    · cases hb : isBor a' with
      | false => exact fin (.refl _) R1' (.inl ⟨hb, rfl⟩)
      | true =>
        cases a' with
        | bor i =>
          have h1 : ((slotV st.env i).bind fun v => Res.ok (v, st)) = .ok (p1, st1) := h1
          obtain ⟨w, e1, e2⟩ := bindR h1
          cases e2
          exact fin (.refl _) R1' (.inr ⟨i, rfl, e1⟩)
        | _ => cases hb
    · have LL := (L1'.trans L2).grow g
      refine q v4 C4 H4 LL (g.rel R2) ?_
      rw [resV_nb rfl, freshE_meth, if_neg Bool.false_ne_true]
      unfold OutR at out
      rw [hf, if_neg Bool.false_ne_true] at out
      exact out
  refine wpAny_Call_method_late hbase hfew hline rfl (thn (ha.run pins s σ H _ I rda) fun v s1 ⟨x, H1, I1, r1, C1, e1, hF1, sr, q1⟩ => ?_)
  obtain ⟨t1, t2⟩ := srep_type I1 (e1.trans O.hK.symm) hF1 sr r1 (h4.symm.trans hT)
  refine ⟨T, id, pa, slot, hty, t1, t2, ?_⟩
  have hA := hs.pa.run cpos pins s1 σ H1 _ I1 q1
  refine Calls.callWith_builtin (star_any hstar) ?_
  refine evalArgs_any hstar ?_
  exact thn hA fun us s2 ⟨vs, H2, I2, r2, C2, e2, ew2, hF2, hc2, s1', s2', o2, q2⟩ => run pins s2 σ H2 x vs v us Q C2 I2 r1 r2 e2 ew2 hF2 hc2 s1' s2' q2
end
end Py
end

section
set_option Elab.async false
set_option linter.all false
set_option autoImplicit false
set_option maxRecDepth 100000
/-! Methods: get of dicts, index and count of lists. -/
namespace Py
open PySem PySem.Spec PyProof.Rows L2

section
variable {G : GP} {X : Cx}
theorem m_get1 (O : XO G X) : MethOk G X "get" .get1 := by
  refine ⟨fun cup p ps r h => ?_, fun cup p ps r T h hT => ?_⟩
  · match p, ps, h with
    | .dct kvs, [k], h => exact ⟨_, rfl⟩
  · match p, ps, h, hT with
    | .dct kvs, [k], h, hT =>
      cases hT
      refine ⟨_, PySem.F.plainAttrs_dict, PySem.F.slot_dict_get, PySem.F.type_dict_get, fun pins s σ H x xs v us Q C I rx rxs eK ew hF hc sr srs q => ?_⟩
      obtain ⟨h1, h2⟩ := Res.of_ok (show Res.of _ _ = _ from h)
      cases h2
      obtain ⟨a, ob, es, rfl, D⟩ := sr.dct
      cases rx
      obtain ⟨w, vs, rfl, sk, sn⟩ := srs
      cases (show vs = [] from sn)
      obtain ⟨u, rfl, ru⟩ := rxs.one
      have k1 := (kOk_ok h1 D.d.kind).1
      have hx : Rep C k w := by cases k <;> first | exact sk | (simp [PV.keyOk] at k1; done)
      exact d_get1 O.units I (eK.trans O.hK.symm) (ew.trans O.hw.symm) hF D h1 hx ru fun t u z r1 r2 => ⟨z, H, I.tok t, r1, q z C H (.refl hF) r2⟩
theorem SRep.up {C : RC} {H : Hp} {p : PV} {v : V} (h : SRep C H p v) (hp : kname p = none) : Rep C p v := by
  cases p <;> first | exact h | exact nomatch hp
/-- d.get(k, x): x no list, no dict -/
theorem m_get2 (O : XO G X) : MethOk G X "get" .get2 := by
  refine ⟨fun cup p ps r h => ?_, fun cup p ps r T h hT => ?_⟩
  · match p, ps, h with
    | .dct kvs, [k, d], h => exact ⟨_, rfl⟩
  · match p, ps, h, hT with
    | .dct kvs, [k, d], h, hT =>
      cases hT
      refine ⟨_, PySem.F.plainAttrs_dict, PySem.F.slot_dict_get, PySem.F.type_dict_get, fun pins s σ H x xs v us Q C I rx rxs eK ew hF hc sr srs q => ?_⟩
      obtain ⟨h0, h2⟩ := Res.of_ok (show Res.of _ _ = _ from h)
      rw [Bool.and_eq_true] at h0
      obtain ⟨h1, hd⟩ := h0
      cases h2
      obtain ⟨a, ob, es, rfl, D⟩ := sr.dct
      cases rx
      obtain ⟨w, vs, rfl, sk, w2, vs2, rfl, sk2, sn⟩ := srs
      cases (show vs2 = [] from sn)
      obtain ⟨u, u2, rfl, ru, ru2⟩ := rxs.two
      have k1 := (kOk_ok h1 D.d.kind).1
      have hx : Rep C k w := by cases k <;> first | exact sk | (simp [PV.keyOk] at k1; done)
      have hx2 : Rep C d w2 := sk2.up (by cases d <;> first | rfl | (simp [kname] at hd; done))
      exact d_get2 O.units I (eK.trans O.hK.symm) (ew.trans O.hw.symm) hF D h1 hx ru ⟨w2, ru2, hx2⟩ fun t u z r1 r2 => ⟨z, H, I.tok t, r1, q z C H (.refl hF) r2⟩
theorem fine_plain {x : PV} (h : x.fine = true) : x.plain = true ∧ x.depth ≤ 64 := fine_okS h
theorem eqv_any {ys : List PV} {x : PV} (h : ys.all PV.fine = true) (hx : x.fine = true) : ∀ z ∈ ys, PyData.eqv z.toD x.toD = z.eqv x := fun z hz => PV.eqv_toD z x (fine_plain (List.all_eq_true.mp h z hz)).1 (fine_plain hx).1
theorem findIdx_congr {α β : Type} {f : α → β} {p : α → Bool} {q : β → Bool} : ∀ {l : List α}, (∀ z ∈ l, q (f z) = p z) → (l.map f).findIdx? q = l.findIdx? p
  | [], _ => rfl
  | x :: l, h => by
    rw [List.map_cons, List.findIdx?_cons, List.findIdx?_cons, h x List.mem_cons_self, findIdx_congr fun z hz => h z (List.mem_cons_of_mem _ hz)]
theorem m_index (O : XO G X) : MethOk G X "index" .index := by
  refine ⟨fun cup p ps r h => ?_, fun cup p ps r T h hT => ?_⟩
  · match p, ps, h with
    | .lst ys, [k], h => exact ⟨_, rfl⟩
  · match p, ps, h, hT with
    | .lst ys, [k], h, hT =>
      cases hT
      refine ⟨_, PySem.F.plainAttrs_list, PySem.F.slot_list_index, PySem.F.type_list_index, fun pins s σ H x xs v us Q C I rx rxs eK ew hF hc sr srs q => ?_⟩
      have ek : C.K = X.K := eK.trans O.hK.symm
      obtain ⟨h1, h2⟩ := Res.of_ok (show Res.of _ _ = _ from h)
      rw [Bool.and_eq_true] at h1
      obtain ⟨j, hj, hr⟩ := Option.map_eq_some_iff.mp (Res.ofOpt_ok h2)
      subst hr
      obtain ⟨a, vs, rfl, k1, r1⟩ := sr
      cases rx
      obtain ⟨w, vs2, rfl, sk, sn⟩ := srs
      cases (show vs2 = [] from sn)
      obtain ⟨u, rfl, ru⟩ := rxs.one
      obtain ⟨its, rv, hit, hz⟩ := I.list (.of k1)
      obtain ⟨as, hr⟩ := Reps.reads I ek hF ys vs its (fines_ok h1.1).1 r1 rv
      obtain ⟨bs, hx⟩ := SRep.reads I ek hF (fine_plain h1.2).1 sk ru
      obtain ⟨⟨cls, dd, data, sls⟩, n, ho, hcl, hdn, hdt⟩ := hit
      simp only at hcl hdt
      subst hcl hdt
      have hpl : PyData.plainAll (PV.toDs ys) = true := PV.toDs_plain ys (fines_ok h1.1).1
      have hpx : k.toD.plain = true := PV.toD_plain k (fine_plain h1.2).1
      have hp : SeqAt.dataPlace (PV.toDs ys) k.toD = some j := by
        unfold SeqAt.dataPlace
        rw [PV.toDs_map, findIdx_congr (eqv_any h1.1 h1.2)]; exact hj
      obtain ⟨hjs, e1, e2⟩ := SeqAt.hit_at (vs := its.toArray) hr hpl hp
      have hsl := sizeLine_eq
      have hl := rv.length
      have hj2 : j < its.length := by simpa using hjs
      have hroom : X.A.units + 1 + min (PyData.depthAll (PV.toDs ys)) k.toD.depth < cLine := by
        have := (fine_plain h1.2).2
        have := O.units
        rw [PV.toD_depth]; omega
      refine call_meets PySem.F.slot_list_index ⟨_, ho, rfl⟩ PySem.F.entry_list_index (PySem.F.args_list_index_2 _ _)
        (SeqAt.list_indexAt a its.toArray n dd sls u (fun u => PyData.eqv (SeqAt.readOf s.heap u) k.toD) j hjs (by omega) e1 e2) ⟨ho, SeqAt.items_plain (vs := its.toArray) hr hx hpl hpx hroom, ?_⟩
      exact ⟨.int j, H, I.tok _, ⟨_, rfl⟩, q _ C H (.refl hF) rfl⟩
theorem m_count (O : XO G X) : MethOk G X "count" .count := by
  refine ⟨fun cup p ps r h => ?_, fun cup p ps r T h hT => ?_⟩
  · match p, ps, h with
    | .lst ys, [k], h => exact ⟨_, rfl⟩
  · match p, ps, h, hT with
    | .lst ys, [k], h, hT =>
      cases hT
      refine ⟨_, PySem.F.plainAttrs_list, PySem.F.slot_list_count, PySem.F.type_list_count, fun pins s σ H x xs v us Q C I rx rxs eK ew hF hc sr srs q => ?_⟩
      have ek : C.K = X.K := eK.trans O.hK.symm
      obtain ⟨h1, h2⟩ := Res.of_ok (show Res.of _ _ = _ from h)
      rw [Bool.and_eq_true] at h1
      cases h2
      obtain ⟨a, vs, rfl, k1, r1⟩ := sr
      cases rx
      obtain ⟨w, vs2, rfl, sk, sn⟩ := srs
      cases (show vs2 = [] from sn)
      obtain ⟨u, rfl, ru⟩ := rxs.one
      obtain ⟨its, rv, hit, hz⟩ := I.list (.of k1)
      obtain ⟨as, hr⟩ := Reps.reads I ek hF ys vs its (fines_ok h1.1).1 r1 rv
      obtain ⟨bs, hx⟩ := SRep.reads I ek hF (fine_plain h1.2).1 sk ru
      have hpl : PyData.plainAll (PV.toDs ys) = true := PV.toDs_plain ys (fines_ok h1.1).1
      have hpx : k.toD.plain = true := PV.toD_plain k (fine_plain h1.2).1
      have hroom : X.A.units + 1 + min (PyData.depthAll (PV.toDs ys)) k.toD.depth < cLine := by
        have := (fine_plain h1.2).2
        have := O.units
        rw [PV.toD_depth]; omega
      refine SeqAt.count_list_data (vs := its.toArray) hit.isList hr hx hpl hpx hroom ⟨V.int ((ys.countP fun (z : PV) => z.eqv k : Nat) : Int), H, I.tok _, ?_, q _ C H (.refl hF) rfl⟩
      have e : (PV.toDs ys).countP (fun y => PyData.eqv y k.toD) = ys.countP fun z => z.eqv k := by
        rw [PV.toDs_map, List.countP_map]
        exact List.countP_congr fun z hz => by rw [show ((fun y => PyData.eqv y k.toD) ∘ PV.toD) z = z.eqv k from eqv_any h1.1 h1.2 z hz]
      rw [e]
      exact ⟨_, rfl⟩
end
end Py
end

section
set_option Elab.async false
set_option linter.all false
set_option autoImplicit false
set_option maxRecDepth 100000
/-! What loops walk; targets. -/
namespace Py
open PySem PySem.Spec PyProof.Rows L2

/-- J walks the values xs, whatever else is shared meanwhile -/
structure WkJ (J : It) (C : RC) (xs : List PV) : Prop where
  stop : ∀ H, SubH C H → J.stop xs.length H
  go : ∀ i p H, SubH C H → xs[i]? = some p → J.go i H
  yld : ∀ i p H C2 x H', SubH C2 H → xs[i]? = some p → C.Le C2 → J.yld i H x H' → ∃ C', Grow C2 H C' H' ∧ Rep C' p x
theorem SubH.le {C C' : RC} {H : Hp} (h : SubH C' H) (l : C.Le C') : SubH C H := fun b o e => h b o (l.f b o e)
def rdI (G : GP) (it : E) : TI := fun σ H R => ∃ C st p st' xs, C.K = G.K ∧ C.w = G.w ∧ Rel C st σ H ∧ ev G.Φ it st = .ok (p, st') ∧ ltOf p = some xs ∧
  ∀ J C' H', Loc C st σ H C' st' H' → Rel C' st' σ H' → WkJ J C' xs → R J H'
section
variable {G : GP} {X : Cx}
theorem wk_list {K : PySem.W.Frag} {a : Addr} {xs : List PV} {vs : List V} {C : RC} (h : C.F a = some (.lst vs)) (r : Reps C xs vs) : WkJ (Itl K a) C xs := by
  refine ⟨fun H s => ⟨vs, .inl (.of (s _ _ h)), Nat.le_of_eq r.length⟩, fun i p H s e => ?_, fun i p H C2 x H' s e l y => ?_⟩
  · obtain ⟨v, e1, _⟩ := r.get e
    exact ⟨vs, v, .inl (.of (s _ _ h)), e1⟩
  · obtain ⟨rfl, y⟩ := y
    obtain ⟨v, e1, e2⟩ := r.get e
    have e3 := y vs (.inl (.of (s _ _ (l.f _ _ h))))
    rw [e1] at e3; cases e3
    exact ⟨C2, .refl s, Rep.le l _ _ e2⟩
theorem wk_tup {a : Addr} {xs : List PV} {vs : List V} {C : RC} (h : SqT C.K C.F a vs) (r : Reps C xs vs) : WkJ (Itt C.K a) C xs := by
  refine ⟨fun H s => ⟨vs, sqT_le s h, Nat.le_of_eq r.length⟩, fun i p H s e => ?_, fun i p H C2 x H' s e l y => ?_⟩
  · obtain ⟨v, e1, _⟩ := r.get e
    exact ⟨vs, v, sqT_le s h, e1⟩
  · obtain ⟨rfl, y⟩ := y
    obtain ⟨v, e1, e2⟩ := r.get e
    have e3 := y vs (sqT_le s (sqT_le l.f h))
    rw [e1] at e3; cases e3
    exact ⟨C2, .refl s, Rep.le l _ _ e2⟩
theorem rng_len (a b : Int) : (rng a b).length = (b - a).toNat := by unfold rng; rw [List.length_map, List.length_range]
theorem rng_get {a b : Int} {i : Nat} {p : PV} (h : (rng a b)[i]? = some p) : i < (b - a).toNat ∧ p = .int (a + i) := by
  have hi : i < (rng a b).length := by
    rw [List.getElem?_eq_some_iff] at h; exact h.1
  rw [rng_len] at hi
  refine ⟨hi, ?_⟩
  unfold rng at h
  rw [List.getElem?_map, List.getElem?_range hi] at h
  cases h; rfl
theorem wk_rng {a b : Int} {C : RC} : WkJ (Itr a (b - a).toNat) C (rng a b) := by
  refine ⟨fun H s => Nat.le_of_eq (rng_len a b).symm, fun i p H s e => (rng_get e).1, fun i p H C2 x H' s e l y => ?_⟩
  obtain ⟨rfl, rfl⟩ := y
  obtain ⟨_, rfl⟩ := rng_get e
  exact ⟨C2, .refl s, rfl⟩
/-- the keys of a dict that stays as it is -/
def Itx (K : PySem.W.Frag) (d : Addr) (o : Obj) (ks : List V) : It :=
  ⟨fun i H => (H d = some (.ext (IsOb d o)) ∨ K.lookup d = some o) ∧ i < ks.length, fun i H x H' => H' = H ∧ ks[i]? = some x, fun i H => (H d = some (.ext (IsOb d o)) ∨ K.lookup d = some o) ∧ ks.length ≤ i⟩
theorem at_ob {pins : List (Addr × Obj)} {s : Shared} {σ : L2.St} {H : Hp} (I : Inv X pins σ H s) {d : Addr} {o : Obj} (h : H d = some (.ext (IsOb d o)) ∨ X.K.lookup d = some o) : s.heap.get? d = some o := by
  rcases h with h | h
  · exact (I.hok d _ h).1
  · exact I.kIn d o h
theorem turn_x {P : Program} {w : World} {K : PySem.W.Frag} {tg : Expr} {d : Addr} {o : Obj} {es : Array DictEntry} {ep : Nat} {ks : List V} (it : Addr) (hod : o.data = .dict es ep) (hsz : es.size = ks.length) (hks : ∀ (i : Nat) (v : V), ks[i]? = some v → ∃ en : DictEntry, es[i]? = some en ∧ RelV v en.key) :
    Turn P w K tg (Itx K d o ks) [it] it (fun i h => h.IsKeyIter it d i ks.length ep) where
  mem := by simp
  obj := fun i h st b hb => by
    obtain rfl : b = it := by simpa using hb
    obtain ⟨oi, e, c, dd⟩ := st
    exact ⟨oi, e, fun v z => by rw [dd] at z; cases z⟩
  keep := fun i h h' st k => st.at fun oi e => k it (by simp) oi e
  item := by
    intro X hP hw hK hc i pins s σ H E I hf st hg
    subst hP hw hK
    obtain ⟨hd, hi⟩ := hg
    obtain ⟨f0, f1, f2, f3, f4, f5⟩ := hf it (by simp)
    have hgd := at_ob I hd
    have hkv : ks[i]? = some ks[i] := List.getElem?_eq_getElem hi
    obtain ⟨en, hen, hkey⟩ := hks i _ hkv
    refine next_key_item st hgd hod hsz hen fun h' st' sb => ?_
    have I1 : Inv X pins σ H { s with heap := h' } := I.turned (t' := s.toks) (fun b ob hb e => (sb.2 b hb).trans e) f0 f1 f3 f4 f5
    obtain ⟨oi, e, c, dd⟩ := id st'
    exact ⟨en.key, rfl, go_of (s := { s with heap := h' }) e c dd (by decide) ⟨ks[i], H, I1, hkey, ⟨rfl, hkv⟩, st', fun b hb => (hf b hb).1⟩⟩
  done := by
    intro X hP hw hK hc i pins s σ H E I hf st hg
    subst hP hw hK
    obtain ⟨hd, hi⟩ := hg
    obtain ⟨f0, f1, f2, f3, f4, f5⟩ := hf it (by simp)
    exact next_key_end (I.ok.hd hc) st (at_ob I hd) hod hsz hi fun h' eb => ⟨rfl, I.turned (t' := s.toks) (fun b ob hb e => eb b ob hb e) f0 f1 f3 f4 f5⟩
  self := fun A i s Q E st h => by
    refine wpAny_pyIter_slot st.typeIs PySem.F.slot_dict_keyiterator_iter (wpAny_call_entry PySem.F.slot_dict_keyiterator_iter st.typeIs PySem.F.entry_dict_keyiterator_iter ?_ (PySem.F.args_dict_keyiterator_iter_1 _))
    show wpAny _ _ (ret (.ref it)) _ _ s
    exact wpAny_pure ⟨_, rfl, "dict_keyiterator", _, st.typeIs, PySem.F.slot_dict_keyiterator_next.lookup, h⟩
def iDct (K : PySem.W.Frag) (td : TE) : TI := fun σ H R => td σ H fun x H1 => ∃ (d : Addr) (o : Obj) (es : Array DictEntry) (ep : Nat) (ks : List V), x = .ref d ∧ (d == sysModules) = false ∧ (H1 d = some (.ext (IsOb d o)) ∨ K.lookup d = some o) ∧ o.ExactDict ∧ o.data = .dict es ep ∧ es.size = ks.length ∧
  (∀ (i : Nat) (v : V), ks[i]? = some v → ∃ en : DictEntry, es[i]? = some en ∧ RelV v en.key) ∧ R (Itx K d o ks) H1
theorem pi_dct {tg e : Expr} {td : TE} (he : PE X e td) : PI X tg e (iDct X.K td) := by
  refine ⟨fun pins s σ H R I h => ?_⟩
  refine thn (he.run pins s σ H _ I h) fun u s1 ⟨x, H1, I1, rx, d, o, es, ep, ks, ex, hs, hd, hx, hdt, hsz, hks, q⟩ => ?_
  subst ex
  obtain rfl : u = Value.ref d := rx
  refine iter_keys hs (at_ob I1 hd) hx hdt (pi_one (tk := s1.toks) I1 _ (turn_x _ hdt hsz hks) ⟨_, Heap.get?_push_size _ rfl, rfl, ?_⟩ q)
  rw [hsz] <;> rfl
theorem repE_keys {C : RC} : ∀ {kvs : List (PV × PV)} {es : List DictEntry}, RepE C kvs es → ∃ ks : List V, Reps C (kvs.map (·.1)) ks ∧ ks.length = es.length ∧ ∀ (i : Nat) (v : V), ks[i]? = some v → ∃ en : DictEntry, es[i]? = some en ∧ RelV v en.key
  | [], es, h => by rw [show _ = [] from h]; exact ⟨[], rfl, rfl, fun i v e => by simp at e⟩
  | (k, x) :: kvs, es, h => by
    obtain ⟨e, r, rfl, ⟨u, h1, h2⟩, _, h3⟩ := h
    obtain ⟨ks, g1, g2, g3⟩ := repE_keys h3
    refine ⟨u :: ks, Reps.cons h2 g1, by rw [List.length_cons, List.length_cons, g2], fun i v hv => ?_⟩
    cases i with
    | zero => simp at hv; subst hv; exact ⟨e, rfl, h1⟩
    | succ i => simp at hv; simpa using g3 i v hv
theorem wk_dct {d : Addr} {o : Obj} {xs : List PV} {ks : List V} {C : RC} (h : Kn C d o) (r : Reps C xs ks) : WkJ (Itx C.K d o ks) C xs := by
  have at_ : ∀ H, SubH C H → (H d = some (.ext (IsOb d o)) ∨ C.K.lookup d = some o) := fun H s => h.imp (s _ _) id
  refine ⟨fun H s => ⟨at_ H s, Nat.le_of_eq r.length⟩, fun i p H s e => ?_, fun i p H C2 x H' s e l y => ?_⟩
  · refine ⟨at_ H s, ?_⟩
    rw [r.length]
    exact (List.getElem?_eq_some_iff.mp e).1
  · obtain ⟨rfl, y⟩ := y
    obtain ⟨v, e1, e2⟩ := r.get e
    rw [e1] at y; cases y
    exact ⟨C2, .refl s, Rep.le l _ _ e2⟩
/-- an expression that comes to a list or a tuple -/
theorem p_val (O : XO G X) {tg e : Expr} {e' : E} (hb : isBor e' = false) (he : PE X e (rd G e')) : PI X tg e (rdI G e') := by
  refine ⟨fun pins s σ H R I h => ?_⟩
  obtain ⟨C, st, p, st', xs, hK, hw, Rl, hev, hl, q⟩ := h
  cases p with
  | lst ys =>
    cases hl
    refine (pi_list he).run pins s σ H R I ⟨C, st, _, st', hK, hw, Rl, hev, fun v C1 H1 L1 R1 r1 => ?_⟩
    obtain ⟨C', L', R', r', _⟩ := res_share hb Rl L1 R1 r1
    obtain ⟨a, vs, rfl, k, rr⟩ := r'
    exact ⟨a, rfl, ⟨vs, .inl (.of (R'.sub _ _ k))⟩, q _ C' H1 L' R' (wk_list k rr)⟩
  | tup ys =>
    cases hl
    refine (pi_tup he).run pins s σ H R I ⟨C, st, _, st', hK, hw, Rl, hev, fun v C1 H1 L1 R1 r1 => ?_⟩
    obtain ⟨C', L', R', r', _⟩ := res_share hb Rl L1 R1 r1
    obtain ⟨a, vs, rfl, k, rr⟩ := r'
    have ek : C'.K = X.K := (L'.le.k.trans hK).trans O.hK.symm
    refine ⟨a, rfl, ⟨vs, ek ▸ sqT_le R'.sub k⟩, q _ C' H1 L' R' (ek ▸ wk_tup k rr)⟩
  | dct kvs =>
    cases hl
    refine (pi_dct he).run pins s σ H R I ⟨C, st, _, st', hK, hw, Rl, hev, fun v C1 H1 L1 R1 r1 => ?_⟩
    obtain ⟨C', L', R', r', _⟩ := res_share hb Rl L1 R1 r1
    obtain ⟨d, ob, es, rfl, hkn, hd, hr⟩ := r'
    obtain ⟨esA, ep, hdat, rfl⟩ := hd.data
    obtain ⟨ks, k1, k2, k3⟩ := repE_keys hr
    have ek : C'.K = X.K := (L'.le.k.trans hK).trans O.hK.symm
    exact ⟨d, ob, esA, ep, ks, rfl, hd.sys, ek ▸ hkn.imp (R'.sub _ _) id, hd.exact, hdat, by rw [k2, Array.length_toList], fun i v e => by simpa using k3 i v e, q _ C' H1 L' R' (ek ▸ wk_dct hkn k1)⟩
  | _ => exact nomatch hl
theorem ev_itr {Φ : Calls} {k : Itk} {es : List E} {st st' : St} {p : PV} (h : ev Φ (.itr k es) st = .ok (p, st')) : ∃ ps0 ps xs, evs Φ es st = .ok (ps0, st') ∧ reread es ps0 st' = .ok ps ∧ itrV k ps = .ok xs ∧ p = .lst xs := by
  rw [ev] at h
  obtain ⟨⟨ps0, st1⟩, h1, h⟩ := bindR h
  obtain ⟨ps, h2, h⟩ := bindR h
  obtain ⟨xs, h3, h⟩ := bindR h
  cases h
  exact ⟨ps0, ps, xs, h1, h2, h3, rfl⟩
theorem rdI_itr {k : Itk} {es' : List E} {σ : L2.St} {H : Hp} {R : It → Hp → Prop} (hb : noBor es' = true) (h : rdI G (.itr k es') σ H R) :
    rdA G es' σ H fun vs H1 => ∃ C ps xs, C.K = G.K ∧ C.w = G.w ∧ SubH C H1 ∧ Reps C ps vs ∧ itrV k ps = .ok xs ∧ ∀ J, WkJ J C xs → R J H1 := by
  obtain ⟨C, st, p, st', xs, hK, hw, Rl, hev, hl, q⟩ := h
  obtain ⟨ps0, ps, ys, h1, h2, h3, rfl⟩ := ev_itr hev
  cases hl
  exact ⟨C, st, ps0, st', ps, hK, hw, Rl, h1, h2, fun vs C1 H1 L1 R1 a => ⟨C1, ps, _, L1.le.k.trans hK, L1.le.w.trans hw, R1.sub, a.r hb, h3, fun J w => q J C1 H1 L1 R1 w⟩⟩
theorem p_range1 {tg e : Expr} {e' : E} {p pos : Pos} (hb : isBor e' = false) (hn : notStar e = true) (hg : Gl X "range") (hm : X.mg "range" = none) (he : PE X e (rd G e')) : PI X tg (.Call (.Name "range" p) [e] [] pos) (rdI G (.itr .range1 [e'])) :=
  (pi_range1 hg hm (SndL.cons hn he .nil).pa (star_cons hn)).imp fun σ H R h => rdA_mono (rdI_itr (by simp [noBor, hb]) h) fun vs H1 ⟨C, ps, xs, eK, ew, hF, r, hi, q⟩ => by
    match ps, hi with
    | [.int n], hi =>
      obtain ⟨h1, h2⟩ := Res.of_ok (show Res.of _ _ = _ from hi)
      simp only [Bool.and_eq_true, decide_eq_true_eq] at h1
      cases h2
      obtain ⟨v, t, rfl, h3, h4⟩ := r.cons_inv
      cases h4
      refine ⟨n, by rw [show v = V.int n from h3], h1.1, h1.2, q _ ?_⟩
      have := wk_rng (a := 0) (b := n) (C := C)
      rw [Int.sub_zero] at this
      exact this
theorem p_range2 {tg e f : Expr} {e' f' : E} {p pos : Pos} (hb : isBor e' = false) (hb2 : isBor f' = false) (hn : notStar e = true) (hn2 : notStar f = true) (hg : Gl X "range") (hm : X.mg "range" = none) (he : PE X e (rd G e')) (hf : PE X f (rd G f')) :
    PI X tg (.Call (.Name "range" p) [e, f] [] pos) (rdI G (.itr .range2 [e', f'])) :=
  (pi_range2 hg hm (SndL.cons hn he (SndL.cons hn2 hf .nil)).pa (by rw [star_cons hn, star_cons hn2]; rfl) (star_cons hn2)).imp fun σ H R h => rdA_mono (rdI_itr (by simp [noBor, hb, hb2]) h) fun vs H1 ⟨C, ps, xs, eK, ew, hF, r, hi, q⟩ => by
    match ps, hi with
    | [.int a, .int b], hi =>
      obtain ⟨h1, h2⟩ := Res.of_ok (show Res.of _ _ = _ from hi)
      simp only [Bool.and_eq_true, decide_eq_true_eq] at h1
      cases h2
      obtain ⟨v, t, rfl, h3, h4⟩ := r.cons_inv
      obtain ⟨v2, t2, rfl, h5, h6⟩ := h4.cons_inv
      cases h6
      refine ⟨a, b, by rw [show v = V.int a from h3, show v2 = V.int b from h5], ⟨h1.1.1.1, h1.1.1.2, h1.1.2, h1.2⟩, q _ wk_rng⟩
theorem zip_get {xs ys : List PV} {i : Nat} {p : PV} (h : (List.zipWith (fun a b => PV.tup [a, b]) xs ys)[i]? = some p) : ∃ x y, xs[i]? = some x ∧ ys[i]? = some y ∧ p = .tup [x, y] := by
  rw [List.getElem?_zipWith] at h
  cases h1 : xs[i]? with
  | none => rw [h1] at h; exact nomatch h
  | some x =>
    cases h2 : ys[i]? with
    | none => rw [h1, h2] at h; exact nomatch h
    | some y =>
      rw [h1, h2] at h
      cases h
      exact ⟨x, y, rfl, rfl, rfl⟩
theorem new_pair {C : RC} {H : Hp} (hF : SubH C H) {T : Addr} (hT : H T = none) {x y : PV} {u v : V} (h1 : Rep C x u) (h2 : Rep C y v) : ∃ C', Grow C H C' (upd H T (.tup [u, v])) ∧ Rep C' (.tup [x, y]) (.ref T) :=
  new_tup hF hT (Reps.cons h1 (Reps.cons h2 Reps.nil))
theorem zip_stop (xs ys : List PV) : xs.length ≤ (List.zipWith (fun a b => PV.tup [a, b]) xs ys).length ∨ ys.length ≤ (List.zipWith (fun a b => PV.tup [a, b]) xs ys).length := by
  rw [List.length_zipWith]; omega
theorem wk_zipL {K : PySem.W.Frag} {a b : Addr} {xs ys : List PV} {vs ws : List V} {C : RC} (h : C.F a = some (.lst vs)) (h' : C.F b = some (.lst ws)) (r : Reps C xs vs) (r' : Reps C ys ws) : WkJ (Itz K a b) C (List.zipWith (fun a b => .tup [a, b]) xs ys) := by
  refine ⟨fun H s => ⟨vs, ws, .inl (.of (s _ _ h)), .inl (.of (s _ _ h')), ?_⟩, fun i p H s e => ?_, fun i p H C2 x H' s e l y => ?_⟩
  · rw [r.length, r'.length]; exact zip_stop xs ys
  · obtain ⟨x, y, e1, e2, _⟩ := zip_get e
    obtain ⟨u, g1, _⟩ := r.get e1
    obtain ⟨v, g2, _⟩ := r'.get e2
    exact ⟨vs, ws, u, v, .inl (.of (s _ _ h)), .inl (.of (s _ _ h')), g1, g2⟩
  · obtain ⟨x1, y1, e1, e2, rfl⟩ := zip_get e
    obtain ⟨u, g1, k1⟩ := r.get e1
    obtain ⟨v, g2, k2⟩ := r'.get e2
    obtain ⟨T, u', v', rfl, hT, rfl, z1, z2⟩ := y
    have q1 := z1 vs (.inl (.of (s _ _ (l.f _ _ h))))
    have q2 := z2 ws (.inl (.of (s _ _ (l.f _ _ h'))))
    rw [g1] at q1; cases q1
    rw [g2] at q2; cases q2
    exact new_pair s hT (Rep.le l _ _ k1) (Rep.le l _ _ k2)
theorem wk_zipT {a b : Addr} {xs ys : List PV} {vs ws : List V} {C : RC} (h : SqT C.K C.F a vs) (h' : SqT C.K C.F b ws) (r : Reps C xs vs) (r' : Reps C ys ws) : WkJ (RZ.ItzT C.K a b) C (List.zipWith (fun a b => .tup [a, b]) xs ys) := by
  refine ⟨fun H s => ⟨vs, ws, sqT_le s h, sqT_le s h', ?_⟩, fun i p H s e => ?_, fun i p H C2 x H' s e l y => ?_⟩
  · rw [r.length, r'.length]; exact zip_stop xs ys
  · obtain ⟨x, y, e1, e2, _⟩ := zip_get e
    obtain ⟨u, g1, _⟩ := r.get e1
    obtain ⟨v, g2, _⟩ := r'.get e2
    exact ⟨vs, ws, u, v, sqT_le s h, sqT_le s h', g1, g2⟩
  · obtain ⟨x1, y1, e1, e2, rfl⟩ := zip_get e
    obtain ⟨u, g1, k1⟩ := r.get e1
    obtain ⟨v, g2, k2⟩ := r'.get e2
    obtain ⟨T, u', v', rfl, hT, rfl, z1, z2⟩ := y
    have q1 := z1 vs (sqT_le s (sqT_le l.f h))
    have q2 := z2 ws (sqT_le s (sqT_le l.f h'))
    rw [g1] at q1; cases q1
    rw [g2] at q2; cases q2
    exact new_pair s hT (Rep.le l _ _ k1) (Rep.le l _ _ k2)
theorem wk_enum {K : PySem.W.Frag} {a : Addr} {xs : List PV} {vs : List V} {C : RC} (h : C.F a = some (.lst vs)) (r : Reps C xs vs) : WkJ (Ite K a) C (xs.zipIdx.map fun p => .tup [.int p.2, p.1]) := by
  have get : ∀ {i : Nat} {p : PV}, (xs.zipIdx.map fun p => PV.tup [.int p.2, p.1])[i]? = some p → ∃ x, xs[i]? = some x ∧ p = .tup [.int i, x] := fun {i p} e => by
    rw [List.getElem?_map, List.getElem?_zipIdx, Nat.zero_add] at e
    cases h1 : xs[i]? with
    | none => rw [h1] at e; exact nomatch e
    | some x => rw [h1] at e; cases e; exact ⟨x, rfl, rfl⟩
  refine ⟨fun H s => ⟨vs, .inl (.of (s _ _ h)), ?_⟩, fun i p H s e => ?_, fun i p H C2 x H' s e l y => ?_⟩
  · rw [r.length, List.length_map, List.length_zipIdx]; exact Nat.le_refl _
  · obtain ⟨x, e1, _⟩ := get e
    obtain ⟨u, g1, _⟩ := r.get e1
    exact ⟨vs, u, .inl (.of (s _ _ h)), g1⟩
  · obtain ⟨x1, e1, rfl⟩ := get e
    obtain ⟨u, g1, k1⟩ := r.get e1
    obtain ⟨T, u', rfl, hT, rfl, z1⟩ := y
    have q1 := z1 vs (.inl (.of (s _ _ (l.f _ _ h))))
    rw [g1] at q1; cases q1
    exact new_pair s hT rfl (Rep.le l _ _ k1)
theorem p_enum {elts : List Expr} {kk : Nat} {tpos : Pos} {e : Expr} {e' : E} {p pos : Pos} (hb : isBor e' = false) (hn : notStar e = true) (hg : Gl X "enumerate") (hm : X.mg "enumerate" = none) (he : PE X e (rd G e')) :
    PI X (.Tuple elts kk tpos) (.Call (.Name "enumerate" p) [e] [] pos) (rdI G (.itr .enum [e'])) :=
  (pi_enum hg hm (SndL.cons hn he .nil).pa (star_cons hn)).imp fun σ H R h => rdA_mono (rdI_itr (by simp [noBor, hb]) h) fun vs H1 ⟨C, ps, xs, eK, ew, hF, r, hi, q⟩ => by
    match ps, hi with
    | [.lst ys], hi =>
      cases (show Res.ok _ = Res.ok xs from hi)
      obtain ⟨v, t, rfl, h3, h4⟩ := r.cons_inv
      cases h4
      obtain ⟨a, ws, rfl, k, rr⟩ := h3
      exact ⟨a, ws, rfl, .inl (.of (hF _ _ k)), q _ (wk_enum k rr)⟩
theorem p_zip (O : XO G X) {elts : List Expr} {kk : Nat} {tpos : Pos} {e f : Expr} {e' f' : E} {p pos : Pos} (hb : isBor e' = false) (hb2 : isBor f' = false) (hn : notStar e = true) (hn2 : notStar f = true) (hg : Gl X "zip") (hm : X.mg "zip" = none) (he : PE X e (rd G e')) (hf : PE X f (rd G f')) :
    PI X (.Tuple elts kk tpos) (.Call (.Name "zip" p) [e, f] [] pos) (rdI G (.itr .zip [e', f'])) :=
  (RZ.pi_zipA hg hm (SndL.cons hn he (SndL.cons hn2 hf .nil)).pa (star_cons hn) (star_any (by rw [List.all_cons, hn2]; rfl))).imp fun σ H R h => rdA_mono (rdI_itr (by simp [noBor, hb, hb2]) h) fun vs H1 ⟨C, ps, xs, eK, ew, hF, r, hi, q⟩ => by
    have ek : C.K = X.K := eK.trans O.hK.symm
    match ps, hi with
    | [.lst ys, .lst zs], hi =>
      cases (show Res.ok _ = Res.ok xs from hi)
      obtain ⟨v, t, rfl, h3, h4⟩ := r.cons_inv
      obtain ⟨v2, t2, rfl, h5, h6⟩ := h4.cons_inv
      cases h6
      obtain ⟨a, ws, rfl, k, rr⟩ := h3
      obtain ⟨b, us, rfl, k', rr'⟩ := h5
      exact ⟨a, b, ws, us, rfl, .inl ⟨.inl (.of (hF _ _ k)), .inl (.of (hF _ _ k')), q _ (wk_zipL k k' rr rr')⟩⟩
    | [.tup ys, .tup zs], hi =>
      cases (show Res.ok _ = Res.ok xs from hi)
      obtain ⟨v, t, rfl, h3, h4⟩ := r.cons_inv
      obtain ⟨v2, t2, rfl, h5, h6⟩ := h4.cons_inv
      cases h6
      obtain ⟨a, ws, rfl, k, rr⟩ := h3
      obtain ⟨b, us, rfl, k', rr'⟩ := h5
      exact ⟨a, b, ws, us, rfl, .inr ⟨ek ▸ sqT_le hF k, ek ▸ sqT_le hF k', q _ (ek ▸ wk_zipT k k' rr rr')⟩⟩
end
end Py
end

section
set_option Elab.async false
set_option linter.all false
set_option autoImplicit false
set_option maxRecDepth 100000
/-! Targets: what a store does to the slots; slots that are forgotten for a while. -/
namespace Py
open PySem PySem.Spec PyProof.Rows L2

mutual
def gP (K : PySem.W.Frag) : Pat → TG
  | .nm i => gName i
  | .tup ps => gTup K ps.length (gPs K ps)
def gPs (K : PySem.W.Frag) : List Pat → TGs
  | [] => gNil
  | p :: ps => gCons (gP K p) (gPs K ps)
end
mutual
def pvs : Pat → List Nat
  | .nm i => [i]
  | .tup ps => pvss ps
def pvss : List Pat → List Nat
  | [] => []
  | p :: ps => pvs p ++ pvss ps
end
/-- one slot is given a shared value -/
theorem Rel.setV {C : RC} {st : St} {σ : L2.St} {H : Hp} (R : Rel C st σ H) (i : Nat) {x : PV} {v : V} (r : Rep C x v) : Rel C { st with env := st.env.set i (.val x) } (σ.set i (some v)) H := by
  have other : ∀ {j : Nat} {s : Slot}, (st.env.set i (.val x))[j]? = some s → (j = i ∧ s = .val x ∧ i < st.env.length) ∨ (j ≠ i ∧ st.env[j]? = some s) := fun {j s} h => by
    by_cases hj : i = j
    · subst hj
      by_cases hi : i < st.env.length
      · rw [List.getElem?_set_self hi] at h; cases h
        exact .inl ⟨rfl, rfl, hi⟩
      · rw [List.getElem?_eq_none (by simpa using hi)] at h; cases h
    · rw [List.getElem?_set_ne hj] at h
      exact .inr ⟨fun e => hj e.symm, h⟩
  have ne : ∀ {j : Nat}, j ≠ i → (σ.set i (some v))[j]? = σ[j]? := fun h => List.getElem?_set_ne (Ne.symm h)
  refine ⟨R.sub, by rw [List.length_set, List.length_set]; exact R.len, fun j q h => ?_, fun j q h => ?_, fun j k q s a hj hk e1 e2 => ?_, R.cup, R.nocup, R.cpf⟩
  · rcases other h with ⟨rfl, e, hi⟩ | ⟨hj, h⟩
    · cases e
      exact ⟨v, by rw [List.getElem?_set_self (by rw [← R.len]; exact hi)], r⟩
    · rw [ne hj]; exact R.slot j q h
  · rcases other h with ⟨_, e, _⟩ | ⟨hj, h⟩
    · cases e
    · rw [ne hj]; exact R.own j q h
  · rcases other hj with ⟨_, e, _⟩ | ⟨n1, hj⟩
    · cases e
    · rcases other hk with ⟨_, e, _⟩ | ⟨n2, hk⟩
      · cases e
      · rw [ne n1] at e1
        rw [ne n2] at e2
        exact R.apart j k q s a hj hk e1 e2
theorem Ow.setV {st : St} {σ : L2.St} {i : Nat} {x : PV} {v : V} {b : Addr} (h : Ow { st with env := st.env.set i (.val x) } (σ.set i (some v)) b) : Ow st σ b := by
  obtain ⟨j, q, h1, h2⟩ := h
  by_cases hj : i = j
  · subst hj
    by_cases hi : i < st.env.length
    · rw [show ({ st with env := st.env.set i (.val x) } : St).env[i]? = some (.val x) from List.getElem?_set_self hi] at h1; cases h1
    · rw [List.getElem?_eq_none (by simpa using hi)] at h1; cases h1
  · rw [show ({ st with env := st.env.set i (.val x) } : St).env[j]? = st.env[j]? from List.getElem?_set_ne hj] at h1
    rw [List.getElem?_set_ne hj] at h2
    exact ⟨j, q, h1, h2⟩
/-- what a store leaves -/
structure Stored (C : RC) (st : St) (σ : L2.St) (H : Hp) (env' : List Slot) (σ' : L2.St) (vs : List Nat) : Prop where
  rel : Rel C { st with env := env' } σ' H
  out : ∀ j, j ∉ vs → σ'[j]? = σ[j]?
  len : σ'.length = σ.length
  ow : ∀ b, Ow { st with env := env' } σ' b → Ow st σ b
mutual
theorem bind_ok {K : PySem.W.Frag} {C : RC} (hK : C.K = K) {H : Hp} : ∀ (p : Pat) (x : PV) (st : St) (env' : List Slot) (σ : L2.St) (v : V) (Q : L2.St → Hp → Prop), bindP p x st.env = .ok env' → Rel C st σ H → Rep C x v →
    (∀ σ', Stored C st σ H env' σ' (pvs p) → Q σ' H) → gP K p v σ H Q
  | .nm i, x, st, env', σ, v, Q, h, R, r, q => by
    cases (show Res.ok (st.env.set i (.val x)) = Res.ok env' from h)
    exact q _ ⟨R.setV i r, fun j hj => List.getElem?_set_ne (by rw [pvs] at hj; simpa using fun e => hj (by simp [e])), List.length_set, fun b hb => hb.setV⟩
  | .tup ps, x, st, env', σ, v, Q, h, R, r, q => by
    cases x with
    | tup xs =>
      have h : bindPs ps xs st.env = .ok env' := h
      obtain ⟨a, vs, rfl, hs, rr⟩ := r
      refine ⟨a, vs, rfl, hK ▸ sqT_le R.sub hs, ?_, binds_ok hK ps xs st env' σ vs Q h R rr q⟩
      rw [rr.length]
      exact binds_len ps xs _ _ h
    | _ => exact nomatch h
theorem binds_ok {K : PySem.W.Frag} {C : RC} (hK : C.K = K) {H : Hp} : ∀ (ps : List Pat) (xs : List PV) (st : St) (env' : List Slot) (σ : L2.St) (vs : List V) (Q : L2.St → Hp → Prop), bindPs ps xs st.env = .ok env' → Rel C st σ H → Reps C xs vs →
    (∀ σ', Stored C st σ H env' σ' (pvss ps) → Q σ' H) → gPs K ps vs σ H Q
  | [], [], st, env', σ, vs, Q, h, R, r, q => by
    cases (show Res.ok st.env = Res.ok env' from h)
    cases r.nil_inv
    exact ⟨rfl, q σ ⟨R, fun _ _ => rfl, rfl, fun _ h => h⟩⟩
  | [], _ :: _, st, env', σ, vs, Q, h, R, r, q => nomatch h
  | _ :: _, [], st, env', σ, vs, Q, h, R, r, q => nomatch h
  | p :: ps, x :: xs, st, env', σ, vs, Q, h, R, r, q => by
    obtain ⟨e1, h1, h2⟩ := bindR (show ((bindP p x st.env).bind fun e => bindPs ps xs e) = .ok env' from h)
    obtain ⟨v, t, rfl, r1, r2⟩ := r.cons_inv
    refine ⟨v, t, rfl, bind_ok hK p x st e1 σ v _ h1 R r1 fun σ1 S1 => ?_⟩
    refine binds_ok hK ps xs { st with env := e1 } env' σ1 t Q h2 S1.rel r2 fun σ2 S2 => q σ2 ⟨S2.rel, fun j hj => ?_, S2.len.trans S1.len, fun b hb => S1.ow b (S2.ow b hb)⟩
    rw [pvss, List.mem_append, not_or] at hj
    rw [S2.out j hj.2, S1.out j hj.1]
theorem binds_len : ∀ (ps : List Pat) (xs : List PV) (env env' : List Slot), bindPs ps xs env = .ok env' → xs.length = ps.length
  | [], [], _, _, _ => rfl
  | [], _ :: _, _, _, h => nomatch h
  | _ :: _, [], _, _, h => nomatch h
  | p :: ps, x :: xs, env, env', h => by
    obtain ⟨e1, h1, h2⟩ := bindR (show ((bindP p x env).bind fun e => bindPs ps xs e) = .ok env' from h)
    rw [List.length_cons, List.length_cons, binds_len ps xs _ _ h2]
end
/-! ### forgotten slots -/
theorem wipeE_len (env : List Slot) : ∀ vs : List Nat, (wipeE env vs).length = env.length
  | [] => rfl
  | v :: vs => by unfold wipeE; rw [List.length_set, wipeE_len env vs]
theorem wipeE_get {env : List Slot} {i : Nat} {s : Slot} : ∀ {vs : List Nat}, (wipeE env vs)[i]? = some s → (s = .unk ∧ i ∈ vs) ∨ (env[i]? = some s ∧ i ∉ vs)
  | [], h => .inr ⟨h, List.not_mem_nil⟩
  | v :: vs, h => by
    unfold wipeE at h
    by_cases hi : v = i
    · subst hi
      by_cases hv : v < (wipeE env vs).length
      · rw [List.getElem?_set_self hv] at h; cases h
        exact .inl ⟨rfl, List.mem_cons_self⟩
      · rw [List.getElem?_eq_none (by simpa using hv)] at h; cases h
    · rw [List.getElem?_set_ne hi] at h
      rcases wipeE_get h with ⟨h1, h2⟩ | ⟨h1, h2⟩
      · exact .inl ⟨h1, List.mem_cons_of_mem _ h2⟩
      · refine .inr ⟨h1, fun z => ?_⟩
        rcases List.mem_cons.mp z with z | z
        · exact hi z.symm
        · exact h2 z
theorem wipe_out' {σ : L2.St} {i : Nat} : ∀ {vs : List Nat}, i ∉ vs → (wipe σ vs)[i]? = σ[i]?
  | [], _ => rfl
  | v :: vs, h => by
    rw [List.mem_cons, not_or] at h
    unfold wipe
    rw [List.getElem?_set_ne (Ne.symm h.1), wipe_out' h.2]
theorem wipe_in' {σ : L2.St} {i : Nat} {x : V} : ∀ {vs : List Nat}, (wipe σ vs)[i]? = some (some x) → i ∉ vs ∧ σ[i]? = some (some x) := fun h => (wipe_some h).symm
/-- two lists of slots that agree outside vs are one when those are forgotten -/
theorem wipe_congr {σ σ' : L2.St} (hl : σ'.length = σ.length) {vs : List Nat} (h : ∀ j, j ∉ vs → σ'[j]? = σ[j]?) : wipe σ' vs = wipe σ vs := by
  apply List.ext_getElem?
  intro j
  by_cases hj : j ∈ vs
  · have key : ∀ τ : L2.St, (wipe τ vs)[j]? = if j < τ.length then some none else none := fun τ => by
      clear h hl
      induction vs with
      | nil => exact absurd hj List.not_mem_nil
      | cons v vs ih =>
        unfold wipe
        by_cases hv : v = j
        · subst hv
          by_cases hlt : v < (wipe τ vs).length
          · rw [List.getElem?_set_self hlt]; rw [wipe_length] at hlt; rw [if_pos hlt]
          · rw [List.getElem?_eq_none (by simpa using hlt)]; rw [wipe_length] at hlt; rw [if_neg hlt]
        · rw [List.getElem?_set_ne hv]
          exact ih (by rcases List.mem_cons.mp hj with z | z; exact absurd z.symm hv; exact z)
    rw [key, key, hl]
  · rw [wipe_out' hj, wipe_out' hj, h j hj]
theorem wipe_eq_out {σ σ' : L2.St} {vs : List Nat} (h : wipe σ' vs = wipe σ vs) {j : Nat} (hj : j ∉ vs) : σ'[j]? = σ[j]? := by
  rw [← wipe_out' (vs := vs) (σ := σ') hj, h, wipe_out' hj]
theorem Rel.wipe {C : RC} {st : St} {σ : L2.St} {H : Hp} (R : Rel C st σ H) (vs : List Nat) : Rel C { st with env := wipeE st.env vs } (L2.wipe σ vs) H := by
  refine ⟨R.sub, by rw [wipeE_len, wipe_length]; exact R.len, fun j q h => ?_, fun j q h => ?_, fun j k q s a hj hk e1 e2 => ?_, R.cup, R.nocup, R.cpf⟩
  · rcases wipeE_get h with ⟨h, _⟩ | ⟨h, hj⟩
    · cases h
    · rw [wipe_out' hj]; exact R.slot j q h
  · rcases wipeE_get h with ⟨h, _⟩ | ⟨h, hj⟩
    · cases h
    · rw [wipe_out' hj]; exact R.own j q h
  · rcases wipeE_get hj with ⟨hj, _⟩ | ⟨hj, n1⟩
    · cases hj
    · rcases wipeE_get hk with ⟨hk, _⟩ | ⟨hk, n2⟩
      · cases hk
      · rw [wipe_out' n1] at e1
        rw [wipe_out' n2] at e2
        exact R.apart j k q s a hj hk e1 e2
theorem Ow.wipe {st : St} {σ : L2.St} {vs : List Nat} {b : Addr} (h : Ow { st with env := wipeE st.env vs } (L2.wipe σ vs) b) : Ow st σ b := by
  obtain ⟨j, q, h1, h2⟩ := h
  rcases wipeE_get h1 with ⟨h, _⟩ | ⟨h, hj⟩
  · cases h
  · rw [wipe_out' hj] at h2
    exact ⟨j, q, h, h2⟩
theorem backE_get {old new : List Slot} {i : Nat} {s : Slot} : ∀ {vs : List Nat}, (backE old new vs)[i]? = some s → (i ∈ vs ∧ (s = .unk ∨ ∃ p, s = .val p ∧ old[i]? = some (.val p))) ∨ (new[i]? = some s ∧ i ∉ vs)
  | [], h => .inr ⟨h, List.not_mem_nil⟩
  | v :: vs, h => by
    unfold backE at h
    by_cases hi : v = i
    · subst hi
      by_cases hv : v < (backE old new vs).length
      · rw [List.getElem?_set_self hv] at h
        refine .inl ⟨List.mem_cons_self, ?_⟩
        cases e : old[v]? with
        | none => rw [e] at h; cases h; exact .inl rfl
        | some z =>
          rw [e] at h
          cases z with
          | val p => cases h; exact .inr ⟨p, rfl, rfl⟩
          | unk => cases h; exact .inl rfl
          | own p => cases h; exact .inl rfl
      · rw [List.getElem?_eq_none (by simpa using hv)] at h; cases h
    · rw [List.getElem?_set_ne hi] at h
      rcases backE_get h with ⟨h1, h2⟩ | ⟨h1, h2⟩
      · exact .inl ⟨List.mem_cons_of_mem _ h1, h2⟩
      · refine .inr ⟨h1, fun z => ?_⟩
        rcases List.mem_cons.mp z with z | z
        · exact hi z.symm
        · exact h2 z
theorem backE_len (old new : List Slot) : ∀ vs : List Nat, (backE old new vs).length = new.length
  | [] => rfl
  | v :: vs => by unfold backE; rw [List.length_set, backE_len old new vs]
/-- behind a block: its own names as they were -/
theorem Rel.back {C C2 : RC} {st st2 : St} {σ σ2 : L2.St} {H H2 : Hp} {vs : List Nat} (R : Rel C st σ H) (R2 : Rel C2 st2 σ2 H2) (l : C.Le C2) (hw : L2.wipe σ2 vs = L2.wipe σ vs) : Rel C2 { st2 with env := backE st.env st2.env vs } σ H2 := by
  have hl : σ2.length = σ.length := by rw [← wipe_length σ2 vs, hw, wipe_length]
  refine ⟨R2.sub, by rw [backE_len]; exact R2.len.trans hl, fun j q h => ?_, fun j q h => ?_, fun j k q s a hj hk e1 e2 => ?_, R2.cup, R2.nocup, R2.cpf⟩
  · rcases backE_get h with ⟨_, h⟩ | ⟨h, hj⟩
    · rcases h with h | ⟨p, h, h2⟩
      · cases h
      · cases h
        obtain ⟨v, e, r⟩ := R.slot j _ h2
        exact ⟨v, e, Rep.le l _ _ r⟩
    · rw [← wipe_eq_out hw hj]; exact R2.slot j q h
  · rcases backE_get h with ⟨_, h⟩ | ⟨h, hj⟩
    · rcases h with h | ⟨p, h, _⟩ <;> cases h
    · rw [← wipe_eq_out hw hj]; exact R2.own j q h
  · rcases backE_get hj with ⟨_, h⟩ | ⟨hj, n1⟩
    · rcases h with h | ⟨p, h, _⟩ <;> cases h
    · rcases backE_get hk with ⟨_, h⟩ | ⟨hk, n2⟩
      · rcases h with h | ⟨p, h, _⟩ <;> cases h
      · rw [← wipe_eq_out hw n1] at e1
        rw [← wipe_eq_out hw n2] at e2
        exact R2.apart j k q s a hj hk e1 e2
theorem Ow.back {st st2 : St} {σ σ2 : L2.St} {vs : List Nat} {b : Addr} (hw : L2.wipe σ2 vs = L2.wipe σ vs) (h : Ow { st2 with env := backE st.env st2.env vs } σ b) : Ow st2 σ2 b := by
  obtain ⟨j, q, h1, h2⟩ := h
  rcases backE_get h1 with ⟨_, h⟩ | ⟨h, hj⟩
  · rcases h with h | ⟨p, h, _⟩ <;> cases h
  · rw [← wipe_eq_out hw hj] at h2
    exact ⟨j, q, h, h2⟩
end Py
end

section
set_option Elab.async false
set_option linter.all false
set_option autoImplicit false
set_option maxRecDepth 100000
/-! Comprehensions of lists. -/
namespace Py
open PySem PySem.Spec PyProof.Rows L2

/-- what a run leaves as it was, where slots' places may have turned -/
structure Loc2 (C : RC) (st : St) (σ : L2.St) (H : Hp) (C' : RC) (st' : St) (σ' : L2.St) (H' : Hp) : Prop where
  le : C.Le C'
  keep : ∀ b o, H b = some o → ¬ Ow st σ b → C.cp ≠ some b → H' b = some o
  there : ∀ b o, H b = some o → ∃ o', H' b = some o'
  fnew : ∀ b o, C'.F b = some o → C.F b = some o ∨ H b = none ∨ Ow st σ b
  cnew : ∀ c, C'.cp = some c → C.cp = some c ∨ H c = none
  ow : ∀ b, Ow st' σ' b → Ow st σ b
theorem Loc2.refl {C : RC} {st : St} {σ : L2.St} {H : Hp} : Loc2 C st σ H C st σ H := ⟨.refl C, fun _ _ h _ _ => h, fun _ o h => ⟨o, h⟩, fun _ _ h => .inl h, fun _ h => .inl h, fun _ h => h⟩
theorem Loc2.trans {C C1 C2 : RC} {st st1 st2 : St} {σ σ1 σ2 : L2.St} {H H1 H2 : Hp} (a : Loc2 C st σ H C1 st1 σ1 H1) (b : Loc2 C1 st1 σ1 H1 C2 st2 σ2 H2) : Loc2 C st σ H C2 st2 σ2 H2 := by
  have cne : ∀ {x o}, H x = some o → C.cp ≠ some x → C1.cp ≠ some x := fun {x o} h hc e => by
    rcases a.cnew x e with q | q
    · exact hc q
    · rw [h] at q; cases q
  have free : ∀ x, H1 x = none → H x = none := fun x h1 => by
    cases hx : H x with
    | none => rfl
    | some o =>
      obtain ⟨o', e⟩ := a.there x o hx
      rw [h1] at e; cases e
  refine ⟨a.le.trans b.le, fun x o h hw hc => b.keep x o (a.keep x o h hw hc) (fun q => hw (a.ow x q)) (cne h hc), fun x o h => ?_, fun x o h => ?_, fun c h => ?_, fun x h => a.ow x (b.ow x h)⟩
  · obtain ⟨o', e⟩ := a.there x o h
    exact b.there x o' e
  · rcases b.fnew x o h with q | q | q
    · exact a.fnew x o q
    · exact .inr (.inl (free x q))
    · exact .inr (.inr (a.ow x q))
  · rcases b.cnew c h with q | q
    · exact a.cnew c q
    · exact .inr (free c q)
theorem Loc.l2 {C C' : RC} {st st' : St} {σ : L2.St} {H H' : Hp} (L : Loc C st σ H C' st' H') : Loc2 C st σ H C' st' σ H' := ⟨L.le, L.keep, L.there, L.fnew, L.cnew, L.ow⟩
/-- the new list D within a block: (C1, st1, σ1, H1) the state ahead of it -/
structure BI (C1 : RC) (st1 : St) (σ1 : L2.St) (H1 : Hp) (D : Addr) (C : RC) (st : St) (σ : L2.St) (H : Hp) (acc : List PV) (accV : List V) : Prop where
  loc : Loc2 C1 st1 σ1 H1 C st σ H
  rel : Rel C st σ H
  hd : H D = some (.lst accV)
  fd : C.F D = none
  cd : C.cp ≠ some D
  reps : Reps C acc accV
  nd : ¬ Ow st1 σ1 D
  h1 : H1 D = none
section
variable {C1 : RC} {st1 : St} {σ1 : L2.St} {H1 : Hp} {D : Addr} {C C' : RC} {st st' : St} {σ σ' : L2.St} {H H' : Hp} {acc : List PV} {accV : List V}
theorem Ow.no (R : Rel C1 st1 σ1 H1) (hD : H1 D = none) : ¬ Ow st1 σ1 D := fun ⟨i, p, h, e⟩ => by
  obtain ⟨a, e2, _, _, h4⟩ := R.own i p h
  obtain ⟨o, h5⟩ := h4.some
  rw [e] at e2; cases e2
  rw [hD] at h5; cases h5
theorem BI.start (R : Rel C1 st1 σ1 H1) (hD : H1 D = none) : BI C1 st1 σ1 H1 D C1 st1 σ1 (upd H1 D (.lst [])) [] [] := by
  have g := Grow.newOwn (o := .lst []) R.sub hD
  refine ⟨g.loc.l2, g.rel R, upd_same, ?_, fun e => ?_, Reps.nil, Ow.no R hD, hD⟩
  · cases e : C1.F D with
    | none => rfl
    | some u => have := R.sub D u e; rw [hD] at this; cases this
  · obtain ⟨o, q⟩ := R.cpt e
    rw [hD] at q; cases q
/-- a run within the block -/
theorem BI.run2 (b : BI C1 st1 σ1 H1 D C st σ H acc accV) (L : Loc2 C st σ H C' st' σ' H') (R : Rel C' st' σ' H') : BI C1 st1 σ1 H1 D C' st' σ' H' acc accV := by
  have nd : ¬ Ow st σ D := fun h => b.nd (b.loc.ow D h)
  refine ⟨b.loc.trans L, R, L.keep D _ b.hd nd b.cd, ?_, fun e => ?_, Reps.le L.le _ _ b.reps, b.nd, b.h1⟩
  · cases e : C'.F D with
    | none => rfl
    | some u =>
      rcases L.fnew D u e with q | q | q
      · rw [b.fd] at q; cases q
      · rw [b.hd] at q; cases q
      · exact (nd q).elim
  · rcases L.cnew D e with q | q
    · exact b.cd q
    · rw [b.hd] at q; cases q
theorem BI.run (b : BI C1 st1 σ1 H1 D C st σ H acc accV) (L : Loc C st σ H C' st' H') (R : Rel C' st' σ H') : BI C1 st1 σ1 H1 D C' st' σ H' acc accV := b.run2 L.l2 R
theorem BI.grow (b : BI C1 st1 σ1 H1 D C st σ H acc accV) (g : Grow C H C' H') : BI C1 st1 σ1 H1 D C' st σ H' acc accV := b.run g.loc (g.rel b.rel)
theorem BI.wipe (b : BI C1 st1 σ1 H1 D C st σ H acc accV) (vs : List Nat) : BI C1 st1 σ1 H1 D C { st with env := wipeE st.env vs } (L2.wipe σ vs) H acc accV :=
  b.run2 ⟨.refl C, fun _ _ h _ _ => h, fun _ o h => ⟨o, h⟩, fun _ _ h => .inl h, fun _ h => .inl h, fun _ h => h.wipe⟩ (b.rel.wipe vs)
theorem BI.stored {env' : List Slot} {vs : List Nat} (b : BI C1 st1 σ1 H1 D C st σ H acc accV) (s : Stored C st σ H env' σ' vs) : BI C1 st1 σ1 H1 D C { st with env := env' } σ' H acc accV :=
  b.run2 ⟨.refl C, fun _ _ h _ _ => h, fun _ o h => ⟨o, h⟩, fun _ _ h => .inl h, fun _ h => .inl h, s.ow⟩ s.rel
/-- an object that is nobody's is written -/
theorem Rel.updD (R : Rel C st σ H) (hF : C.F D = none) (hc : C.cp ≠ some D) (hn : ¬ Ow st σ D) (o : HO) : Rel C st σ (upd H D o) := by
  have ne : ∀ {b}, b ≠ D → upd H D o b = H b := fun h => upd_ne h
  refine ⟨fun b u e => ?_, R.len, R.slot, fun i p h => ?_, R.apart, fun x y h => ?_, R.nocup, R.cpf⟩
  · rw [ne (ne_of_none e hF)]; exact R.sub b u e
  · obtain ⟨a, e, h1, h2, h3⟩ := R.own i p h
    exact ⟨a, e, h1, h2, h3.le (.refl C) (ne fun z => by subst z; exact hn ⟨i, p, h, e⟩)⟩
  · obtain ⟨c, h1, h2⟩ := R.cup x y h
    exact ⟨c, h1, by rw [ne fun z => by subst z; exact hc h1]; exact h2⟩
theorem BI.push (b : BI C1 st1 σ1 H1 D C st σ H acc accV) {x : PV} {v : V} (r : Rep C x v) : BI C1 st1 σ1 H1 D C st σ (upd H D (.lst (accV ++ [v]))) (acc ++ [x]) (accV ++ [v]) := by
  have nd : ¬ Ow st σ D := fun h => b.nd (b.loc.ow D h)
  refine ⟨⟨b.loc.le, fun x o h hw hc => ?_, fun x o h => ?_, b.loc.fnew, b.loc.cnew, b.loc.ow⟩, b.rel.updD b.fd b.cd nd _, upd_same, b.fd, b.cd, b.reps.append (Reps.cons r Reps.nil), b.nd, b.h1⟩
  · rw [upd_ne (ne_of_none h b.h1)]; exact b.loc.keep x o h hw hc
  · rw [upd_ne (ne_of_none h b.h1)]; exact b.loc.there x o h
end
/-- one loop of a block -/
theorem lc_W {J : It} {xs : List PV} {Cw : RC} (wk : WkJ J Cw xs) {T : PV → St → Res (List PV × St)} {vs : List Nat} {σ0 : L2.St} {C1 : RC} {st1 : St} {σ1 : L2.St} {H1 : Hp} {D : Addr} {Cs : RC} {sts stE : St} {Hs : Hp} {acc0 acc : List PV} {accV0 : List V} {g : TG} {K : L2.St → Hp → (Hp → Prop) → Prop} {E : Hp → Prop}
    (start : BI C1 st1 σ1 H1 D Cs sts σ0 Hs acc0 accV0) (lw : Cw.Le Cs) (run : lcLoop T xs sts = .ok (acc, stE)) (hlen : (acc0 ++ acc).length ≤ LIM)
    (fin : ∀ C' σ' H' accV', L2.wipe σ' vs = L2.wipe σ0 vs → Cs.Le C' → BI C1 st1 σ1 H1 D C' stE σ' H' (acc0 ++ acc) accV' → E H')
    (turn : ∀ (x : PV) (v : V) (st : St) (r : List PV × St) (C : RC) (H : Hp) (a1 : List PV) (aV : List V), T x st = .ok r → Cs.Le C → BI C1 st1 σ1 H1 D C { st with env := wipeE st.env vs } (L2.wipe σ0 vs) H a1 aV → Rep C x v → (a1 ++ r.1).length ≤ LIM →
      ∀ Nx : Hp → Prop, (∀ C2 σ2 H2 aV2, L2.wipe σ2 vs = L2.wipe σ0 vs → C.Le C2 → BI C1 st1 σ1 H1 D C2 r.2 σ2 H2 (a1 ++ r.1) aV2 → Nx H2) → g v (L2.wipe σ0 vs) H fun σ2 H2 => L2.wipe σ2 vs = L2.wipe σ0 vs ∧ K σ2 H2 Nx) :
    ∃ W : Nat → Nat → Hp → Prop, (∃ m, W 0 m Hs) ∧ ∀ i m H, W i m H → (J.stop i H ∧ E H) ∨ (J.go i H ∧ ∃ Nx : Hp → Prop, (∀ H', Nx H' → ∃ m', m' < m ∧ W (i + 1) m' H') ∧
      ∀ x H', J.yld i H x H' → g x (L2.wipe σ0 vs) H' fun σ2 H2 => L2.wipe σ2 vs = L2.wipe σ0 vs ∧ K σ2 H2 Nx) := by
  refine ⟨fun i m H => m = xs.length - i ∧ i ≤ xs.length ∧ ∃ C st σ' a1 a2 aV, BI C1 st1 σ1 H1 D C st σ' H (acc0 ++ a1) aV ∧ Cs.Le C ∧ L2.wipe σ' vs = L2.wipe σ0 vs ∧ lcLoop T (xs.drop i) st = .ok (a2, stE) ∧ acc = a1 ++ a2,
    ⟨xs.length, by simp, Nat.zero_le _, Cs, sts, σ0, [], acc, accV0, by rw [List.append_nil]; exact start, .refl _, rfl, run, rfl⟩, ?_⟩
  rintro i m H ⟨rfl, hi, C, st, σ', a1, a2, aV, b, le, hw, hr, ha⟩
  by_cases hlt : i < xs.length
  · have hx : xs[i]? = some xs[i] := List.getElem?_eq_getElem hlt
    rw [List.drop_eq_getElem_cons hlt] at hr
    obtain ⟨r, e1, hr⟩ := bindR (show ((T xs[i] st).bind fun r => (lcLoop T (xs.drop (i + 1)) r.2).bind fun q => Res.ok (r.1 ++ q.1, q.2)) = .ok (a2, stE) from hr)
    obtain ⟨q, e2, hr⟩ := bindR hr
    cases hr
    refine .inr ⟨wk.go i _ H (b.rel.sub.le (lw.trans le)) hx, fun H' => ∃ C2 σ2 aV2, L2.wipe σ2 vs = L2.wipe σ0 vs ∧ C.Le C2 ∧ BI C1 st1 σ1 H1 D C2 r.2 σ2 H' (acc0 ++ a1 ++ r.1) aV2, ?_, fun x H' y => ?_⟩
    · rintro H' ⟨C2, σ2, aV2, k1, k2, k3⟩
      refine ⟨xs.length - (i + 1), by omega, rfl, hlt, C2, r.2, σ2, a1 ++ r.1, q.1, aV2, by rw [← List.append_assoc]; exact k3, le.trans k2, k1, e2, ?_⟩
      rw [ha, List.append_assoc]
    · obtain ⟨C', g', rx⟩ := wk.yld i _ H C x H' b.rel.sub hx (lw.trans le) y
      have b' := (b.grow g').wipe vs
      rw [hw] at b'
      refine turn xs[i] x st r C' H' _ aV e1 (le.trans g'.le) b' rx ?_ _ fun C2 σ2 H2 aV2 k1 k2 k3 => ⟨C2, σ2, aV2, k1, g'.le.trans k2, k3⟩
      rw [ha] at hlen
      simp only [List.length_append] at hlen ⊢
      omega
  · have e : i = xs.length := by omega
    subst e
    rw [List.drop_length] at hr
    cases (show Res.ok ([], st) = Res.ok (a2, stE) from hr)
    rw [List.append_nil] at ha
    subst ha
    exact .inl ⟨wk.stop H (b.rel.sub.le (lw.trans le)), fin C σ' H aV hw le b⟩
section
variable {G : GP}
theorem ev_lc {Φ : Calls} {own : List Nat} {p : Pat} {it c elt : E} {st st' : St} {x : PV} (h : ev Φ (.lc own p it c elt) st = .ok (x, st')) :
    ∃ pi st1 xs acc st2, ev Φ it st = .ok (pi, st1) ∧ ltOf pi = some xs ∧ lcLoop (fun x st => (bindP p x (wipeE st.env own)).bind fun env => (ev Φ c { st with env := env }).bind fun b => match b.1 with
        | .bl true => (ev Φ elt b.2).bind fun y => .ok ([y.1], y.2)
        | .bl false => .ok ([], b.2)
        | _ => .no) xs st1 = .ok (acc, st2) ∧ acc.length ≤ LIM ∧ x = .lst acc ∧ st' = { st2 with env := backE st1.env st2.env own } := by
  rw [ev] at h
  obtain ⟨⟨pi, st1⟩, h1, h⟩ := bindR h
  obtain ⟨xs, h2, h⟩ := bindR h
  obtain ⟨⟨acc, st2⟩, h3, h⟩ := bindR h
  obtain ⟨h4, h5⟩ := Res.of_ok h
  cases h5
  exact ⟨pi, st1, xs, acc, st2, h1, Res.ofOpt_ok h2, h3, of_decide_eq_true h4, rfl, rfl⟩
theorem pv_wipe {C : RC} {st : St} {σ σ' : L2.St} {H : Hp} {env' : List Slot} {own vs : List Nat} (hp : ∀ i ∈ vs, i ∈ own) (s : Stored C st (L2.wipe σ own) H env' σ' vs) : L2.wipe σ' own = L2.wipe σ own :=
  wipe_congr (s.len.trans (wipe_length _ _)) fun j hj => (s.out j fun z => hj (hp j z)).trans (wipe_out' hj)
theorem rd_lc {own : List Nat} {p : Pat} {it c elt : E} (hp : ∀ i ∈ pvs p, i ∈ own) (he : isBor elt = false) {σ : L2.St} {H : Hp} {Q : VK} (h : rd G (.lc own p it c elt) σ H Q) :
    tLc (rdI G it) (gP G.K p) (rdT G c) (rd G elt) own σ H Q := by
  obtain ⟨C, st, p0, st', hK, hw, R, hev, q⟩ := h
  obtain ⟨pi, st1, xs, acc, st2, e1, e2, e3, e4, rfl, rfl⟩ := ev_lc hev
  refine ⟨C, st, pi, st1, xs, hK, hw, R, e1, e2, fun J C1 H1 L1 R1 wk D hD => ?_⟩
  refine lc_W (K := fun σ2 H2 Nx => rdT G c σ2 H2 fun b H3 => if b = true then rd G elt σ2 H3 fun y H4 => ∃ acc, H4 D = some (.lst acc) ∧ acc.length < sizeLine ∧ Nx (upd H4 D (.lst (acc ++ [y]))) else Nx H3) wk (BI.start R1 hD) (.refl _) e3 (by rw [List.nil_append]; exact e4) (fun C' σ' H' accV' hw' le b => ?_) (fun x v st r Ck Hk a1 aV hT le b rx hlen Nx nx => ?_)
  · have RB : Rel C' { st2 with env := backE st1.env st2.env own } σ H' := R1.back b.rel b.loc.le hw'
    refine q _ C' H' (L1.trans ⟨b.loc.le, b.loc.keep, b.loc.there, b.loc.fnew, b.loc.cnew, fun a ha => b.loc.ow a (ha.back hw')⟩) RB ?_
    rw [resV_nb rfl]
    show if true = true then _ else _
    try dsimp only
    rw [if_pos rfl]
    refine ⟨D, rfl, ?_, b.fd, b.cd, accV', b.hd, by simpa using b.reps⟩
    cases hx : H D with
    | none => rfl
    | some u => obtain ⟨u', q⟩ := L1.there D u hx; rw [hD] at q; cases q
  · obtain ⟨env, h1, h2⟩ := bindR hT
    obtain ⟨⟨bv, st3⟩, h3, h4⟩ := bindR h2
    have hKk : Ck.K = G.K := le.k.trans (L1.le.k.trans hK)
    have hwk : Ck.w = G.w := le.w.trans (L1.le.w.trans hw)
    refine bind_ok hKk p x { st with env := wipeE st.env own } env (L2.wipe σ own) v _ h1 b.rel rx fun σ' S => ⟨pv_wipe hp S, ?_⟩
    have b1 := b.stored S
    cases bv with
    | bl k =>
      refine ⟨Ck, { st with env := env }, k, st3, hKk, hwk, S.rel, h3, fun C3 H3 L3 R3 => ?_⟩
      have b2 := b1.run L3 R3
      cases k with
      | false =>
        cases h4
        try dsimp only
        rw [if_neg Bool.false_ne_true]
        exact nx C3 σ' H3 aV (pv_wipe hp S) L3.le (by rw [List.append_nil]; exact b2)
      | true =>
        obtain ⟨⟨y, st4⟩, h5, h6⟩ := bindR h4
        cases h6
        try dsimp only
        rw [if_pos rfl]
        refine ⟨C3, st3, y, st4, L3.le.k.trans hKk, L3.le.w.trans hwk, R3, h5, fun yv C4 H4 L4 R4 r4 => ?_⟩
        obtain ⟨C5, L5, R5, r5, _⟩ := res_share he R3 L4 R4 r4
        have b3 := b2.run L5 R5
        refine ⟨aV, b3.hd, ?_, nx C5 σ' _ (aV ++ [yv]) (pv_wipe hp S) (L3.le.trans L5.le) (b3.push r5)⟩
        rw [b3.reps.length]
        simp only [List.length_append, List.length_singleton] at hlen
        rw [← LIM_eq]; omega
    | _ => exact nomatch h4
/-! ### two clauses -/
theorem ev_lc2 {Φ : Calls} {own vs1 : List Nat} {p p1 : Pat} {it c it1 c1 elt : E} {st st' : St} {x : PV} (h : ev Φ (.lc2 own p it c vs1 p1 it1 c1 elt) st = .ok (x, st')) :
    ∃ pi st1 xs acc st2, ev Φ it st = .ok (pi, st1) ∧ ltOf pi = some xs ∧ lcLoop (fun x st => (bindP p x (wipeE st.env own)).bind fun env => (ev Φ c { st with env := env }).bind fun b => match b.1 with
        | .bl true => (ev Φ it1 b.2).bind fun r1 => (Res.ofOpt (ltOf r1.1)).bind fun ys =>
            lcLoop (fun y st => (bindP p1 y (wipeE st.env vs1)).bind fun env => (ev Φ c1 { st with env := env }).bind fun b1 => match b1.1 with
              | .bl true => (ev Φ elt b1.2).bind fun z => .ok ([z.1], z.2)
              | .bl false => .ok ([], b1.2)
              | _ => .no) ys r1.2
        | .bl false => .ok ([], b.2)
        | _ => .no) xs st1 = .ok (acc, st2) ∧ acc.length ≤ LIM ∧ x = .lst acc ∧ st' = { st2 with env := backE st1.env st2.env own } := by
  rw [ev] at h
  obtain ⟨⟨pi, st1⟩, h1, h⟩ := bindR h
  obtain ⟨xs, h2, h⟩ := bindR h
  obtain ⟨⟨acc, st2⟩, h3, h⟩ := bindR h
  obtain ⟨h4, h5⟩ := Res.of_ok h
  cases h5
  exact ⟨pi, st1, xs, acc, st2, h1, Res.ofOpt_ok h2, h3, of_decide_eq_true h4, rfl, rfl⟩
theorem wipe_wider {σ σ' : L2.St} {own vs : List Nat} (hv : ∀ i ∈ vs, i ∈ own) (h : L2.wipe σ' vs = L2.wipe σ vs) : L2.wipe σ' own = L2.wipe σ own := by
  have hl : σ'.length = σ.length := by rw [← wipe_length σ' vs, h, wipe_length]
  exact wipe_congr hl fun j hj => wipe_eq_out h fun z => hj (hv j z)
theorem rd_lc2 {own vs1 : List Nat} {p p1 : Pat} {it c it1 c1 elt : E} (hp : ∀ i ∈ pvs p, i ∈ own) (hp1 : ∀ i ∈ pvs p1, i ∈ vs1) (hv : ∀ i ∈ vs1, i ∈ own) (he : isBor elt = false) {σ : L2.St} {H : Hp} {Q : VK} (h : rd G (.lc2 own p it c vs1 p1 it1 c1 elt) σ H Q) :
    tLc2 (rdI G it) (gP G.K p) (rdT G c) (rdI G it1) (gP G.K p1) (rdT G c1) (rd G elt) own vs1 σ H Q := by
  obtain ⟨C, st, p0, st', hK, hw, R, hev, q⟩ := h
  obtain ⟨pi, st1, xs, acc, st2, e1, e2, e3, e4, rfl, rfl⟩ := ev_lc2 hev
  refine ⟨C, st, pi, st1, xs, hK, hw, R, e1, e2, fun J C1 H1 L1 R1 wk D hD => ?_⟩
  refine lc_W (K := fun σ2 H2 Nx => rdT G c σ2 H2 fun b H3 => if b = true then rdI G it1 σ2 H3 fun J1 H4 => ∃ W1 : Nat → Nat → Hp → Prop, (∃ m, W1 0 m H4) ∧ ∀ j k H, W1 j k H →
      (J1.stop j H ∧ Nx H) ∨ (J1.go j H ∧ ∃ Nx1 : Hp → Prop, (∀ H', Nx1 H' → ∃ k', k' < k ∧ W1 (j + 1) k' H') ∧ ∀ x H', J1.yld j H x H' → gP G.K p1 x (L2.wipe σ2 vs1) H' fun σ3 H5 => L2.wipe σ3 vs1 = L2.wipe σ2 vs1 ∧ rdT G c1 σ3 H5 fun b H6 =>
        if b = true then rd G elt σ3 H6 fun y H7 => ∃ acc, H7 D = some (.lst acc) ∧ acc.length < sizeLine ∧ Nx1 (upd H7 D (.lst (acc ++ [y]))) else Nx1 H6) else Nx H3) wk (BI.start R1 hD) (.refl _) e3 (by rw [List.nil_append]; exact e4) (fun C' σ' H' accV' hw' le b => ?_) (fun x v st r Ck Hk a1 aV hT le b rx hlen Nx nx => ?_)
  · have RB : Rel C' { st2 with env := backE st1.env st2.env own } σ H' := R1.back b.rel b.loc.le hw'
    refine q _ C' H' (L1.trans ⟨b.loc.le, b.loc.keep, b.loc.there, b.loc.fnew, b.loc.cnew, fun a ha => b.loc.ow a (ha.back hw')⟩) RB ?_
    rw [resV_nb rfl]
    show if true = true then _ else _
    try dsimp only
    rw [if_pos rfl]
    refine ⟨D, rfl, ?_, b.fd, b.cd, accV', b.hd, by simpa using b.reps⟩
    cases hx : H D with
    | none => rfl
    | some u => obtain ⟨u', q⟩ := L1.there D u hx; rw [hD] at q; cases q
  · obtain ⟨env, h1, h2⟩ := bindR hT
    obtain ⟨⟨bv, st3⟩, h3, h4⟩ := bindR h2
    have hKk : Ck.K = G.K := le.k.trans (L1.le.k.trans hK)
    have hwk : Ck.w = G.w := le.w.trans (L1.le.w.trans hw)
    refine bind_ok hKk p x { st with env := wipeE st.env own } env (L2.wipe σ own) v _ h1 b.rel rx fun σ' S => ⟨pv_wipe hp S, ?_⟩
    have b1 := b.stored S
    cases bv with
    | bl k =>
      refine ⟨Ck, { st with env := env }, k, st3, hKk, hwk, S.rel, h3, fun C3 H3 L3 R3 => ?_⟩
      have b2 := b1.run L3 R3
      cases k with
      | false =>
        cases h4
        try dsimp only
        rw [if_neg Bool.false_ne_true]
        exact nx C3 σ' H3 aV (pv_wipe hp S) L3.le (by rw [List.append_nil]; exact b2)
      | true =>
        obtain ⟨⟨pj, st4⟩, h5, h6⟩ := bindR h4
        obtain ⟨ys, h7, h8⟩ := bindR h6
        try dsimp only
        rw [if_pos rfl]
        refine ⟨C3, st3, pj, st4, ys, L3.le.k.trans hKk, L3.le.w.trans hwk, R3, h5, Res.ofOpt_ok h7, fun J1 C4 H4 L4 R4 wk1 => ?_⟩
        have b3 := b2.run L4 R4
        refine lc_W (K := fun σ3 H5 Nx1 => rdT G c1 σ3 H5 fun b H6 => if b = true then rd G elt σ3 H6 fun y H7 => ∃ acc, H7 D = some (.lst acc) ∧ acc.length < sizeLine ∧ Nx1 (upd H7 D (.lst (acc ++ [y]))) else Nx1 H6) (σ0 := σ') wk1 b3 (.refl _) h8 hlen
          (fun C' σ2 H' accV' hw' le' b' => nx C' σ2 H' accV' ((wipe_wider hv hw').trans (pv_wipe hp S)) ((L3.le.trans L4.le).trans le') b') (fun x1 v1 st5 r5 Cj Hj a2 aV2 hT1 le1 bj rx1 hlen1 Nx1 nx1 => ?_)
        obtain ⟨env1, g1, g2⟩ := bindR hT1
        obtain ⟨⟨bv1, st6⟩, g3, g4⟩ := bindR g2
        have hKj : Cj.K = G.K := le1.k.trans (L4.le.k.trans (L3.le.k.trans hKk))
        have hwj : Cj.w = G.w := le1.w.trans (L4.le.w.trans (L3.le.w.trans hwk))
        refine bind_ok hKj p1 x1 { st5 with env := wipeE st5.env vs1 } env1 (L2.wipe σ' vs1) v1 _ g1 bj.rel rx1 fun σ3 S1 => ⟨pv_wipe hp1 S1, ?_⟩
        have c1' := bj.stored S1
        cases bv1 with
        | bl k1 =>
          refine ⟨Cj, { st5 with env := env1 }, k1, st6, hKj, hwj, S1.rel, g3, fun C6 H6 L6 R6 => ?_⟩
          have c2 := c1'.run L6 R6
          cases k1 with
          | false =>
            cases g4
            try dsimp only
            rw [if_neg Bool.false_ne_true]
            exact nx1 C6 σ3 H6 aV2 (pv_wipe hp1 S1) L6.le (by rw [List.append_nil]; exact c2)
          | true =>
            obtain ⟨⟨y, st7⟩, g5, g6⟩ := bindR g4
            cases g6
            try dsimp only
            rw [if_pos rfl]
            refine ⟨C6, st6, y, st7, L6.le.k.trans hKj, L6.le.w.trans hwj, R6, g5, fun yv C7 H7 L7 R7 r7 => ?_⟩
            obtain ⟨C8, L8, R8, r8, _⟩ := res_share he R6 L7 R7 r7
            have c3 := c2.run L8 R8
            refine ⟨aV2, c3.hd, ?_, nx1 C8 σ3 _ (aV2 ++ [yv]) (pv_wipe hp1 S1) (L6.le.trans L8.le) (c3.push r8)⟩
            rw [c3.reps.length]
            simp only [List.length_append, List.length_singleton] at hlen1
            rw [← LIM_eq]; omega
        | _ => exact nomatch g4
    | _ => exact nomatch h4
end
end Py
end

section
set_option Elab.async false
set_option linter.all false
set_option autoImplicit false
set_option maxRecDepth 100000
/-! Statements. -/
namespace Py
open PySem PySem.Spec PyProof.Rows L2

/-- what a statement leaves as it was -/
structure LocS (C : RC) (st : St) (σ : L2.St) (H : Hp) (C' : RC) (st' : St) (σ' : L2.St) (H' : Hp) : Prop where
  le : C.Le C'
  keep : ∀ b o, H b = some o → ¬ Ow st σ b → C.cp ≠ some b → H' b = some o
  there : ∀ b o, H b = some o → ∃ o', H' b = some o'
  fnew : ∀ b o, C'.F b = some o → C.F b = some o ∨ H b = none ∨ Ow st σ b
  cnew : ∀ c, C'.cp = some c → C.cp = some c ∨ H c = none
  ow : ∀ b, Ow st' σ' b → Ow st σ b ∨ H b = none
theorem LocS.refl {C : RC} {st : St} {σ : L2.St} {H : Hp} : LocS C st σ H C st σ H := ⟨.refl C, fun _ _ h _ _ => h, fun _ o h => ⟨o, h⟩, fun _ _ h => .inl h, fun _ h => .inl h, fun _ h => .inl h⟩
theorem LocS.trans {C C1 C2 : RC} {st st1 st2 : St} {σ σ1 σ2 : L2.St} {H H1 H2 : Hp} (a : LocS C st σ H C1 st1 σ1 H1) (b : LocS C1 st1 σ1 H1 C2 st2 σ2 H2) : LocS C st σ H C2 st2 σ2 H2 := by
  have cne : ∀ {x o}, H x = some o → C.cp ≠ some x → C1.cp ≠ some x := fun {x o} h hc e => by
    rcases a.cnew x e with q | q
    · exact hc q
    · rw [h] at q; cases q
  have free : ∀ x, H1 x = none → H x = none := fun x h1 => by
    cases hx : H x with
    | none => rfl
    | some o =>
      obtain ⟨o', e⟩ := a.there x o hx
      rw [h1] at e; cases e
  refine ⟨a.le.trans b.le, fun x o h hw hc => b.keep x o (a.keep x o h hw hc) (fun q => ?_) (cne h hc), fun x o h => ?_, fun x o h => ?_, fun c h => ?_, fun x h => ?_⟩
  · rcases a.ow x q with q | q
    · exact hw q
    · rw [h] at q; cases q
  · obtain ⟨o', e⟩ := a.there x o h
    exact b.there x o' e
  · rcases b.fnew x o h with q | q | q
    · exact a.fnew x o q
    · exact .inr (.inl (free x q))
    · rcases a.ow x q with q | q
      · exact .inr (.inr q)
      · exact .inr (.inl q)
  · rcases b.cnew c h with q | q
    · exact a.cnew c q
    · exact .inr (free c q)
  · rcases b.ow x h with q | q
    · exact a.ow x q
    · exact .inr (free x q)
theorem Loc.s {C C' : RC} {st st' : St} {σ : L2.St} {H H' : Hp} (L : Loc C st σ H C' st' H') : LocS C st σ H C' st' σ H' := ⟨L.le, L.keep, L.there, L.fnew, L.cnew, fun b h => .inl (L.ow b h)⟩
theorem Stored.s {C : RC} {st : St} {σ σ' : L2.St} {H : Hp} {env' : List Slot} {vs : List Nat} (S : Stored C st σ H env' σ' vs) : LocS C st σ H C { st with env := env' } σ' H :=
  ⟨.refl C, fun _ _ h _ _ => h, fun _ o h => ⟨o, h⟩, fun _ _ h => .inl h, fun _ h => .inl h, fun b h => .inl (S.ow b h)⟩
def EndOk (D : Ends) (C : RC) (st : St) (σ : L2.St) (H : Hp) (st' : St) : Flow → Prop
  | .nx => ∀ C' σ' H', LocS C st σ H C' st' σ' H' → Rel C' st' σ' H' → D.nx σ' H'
  | .bk => ∀ C' σ' H', LocS C st σ H C' st' σ' H' → Rel C' st' σ' H' → D.bk σ' H'
  | .ct => ∀ C' σ' H', LocS C st σ H C' st' σ' H' → Rel C' st' σ' H' → D.ct σ' H'
  | .rt p => ∀ v C' σ' H', LocS C st σ H C' st' σ' H' → Rel C' st' σ' H' → Rep C' p v → D.rt v H'
def rdS (G : GP) (s : S) : TS := fun D σ H => ∃ C st fl st', C.K = G.K ∧ C.w = G.w ∧ Rel C st σ H ∧ ex G.Φ s st = .ok (fl, st') ∧ EndOk D C st σ H st' fl
def rdSs (G : GP) (ss : List S) : TS := fun D σ H => ∃ C st fl st', C.K = G.K ∧ C.w = G.w ∧ Rel C st σ H ∧ exs G.Φ ss st = .ok (fl, st') ∧ EndOk D C st σ H st' fl
theorem EndOk.after {D : Ends} {C C1 : RC} {st st1 st' : St} {σ σ1 : L2.St} {H H1 : Hp} {fl : Flow} (h : EndOk D C st σ H st' fl) (L : LocS C st σ H C1 st1 σ1 H1) : EndOk D C1 st1 σ1 H1 st' fl := by
  cases fl with
  | nx => exact fun C' σ' H' L' R' => h C' σ' H' (L.trans L') R'
  | bk => exact fun C' σ' H' L' R' => h C' σ' H' (L.trans L') R'
  | ct => exact fun C' σ' H' L' R' => h C' σ' H' (L.trans L') R'
  | rt p => exact fun v C' σ' H' L' R' r => h v C' σ' H' (L.trans L') R' r
section
variable {G : GP} {X : Cx}
theorem rdSs_nil {D : Ends} {σ : L2.St} {H : Hp} (h : rdSs G [] D σ H) : tNext D σ H := by
  obtain ⟨C, st, fl, st', hK, hw, R, he, q⟩ := h
  cases (show Res.ok (Flow.nx, st) = Res.ok (fl, st') from he)
  exact q C σ H .refl R
theorem rdSs_cons {s : S} {ss : List S} {D : Ends} {σ : L2.St} {H : Hp} (h : rdSs G (s :: ss) D σ H) : tSeq (rdS G s) (rdSs G ss) D σ H := by
  obtain ⟨C, st, fl, st', hK, hw, R, he, q⟩ := h
  rw [exs] at he
  obtain ⟨⟨f1, st1⟩, h1, he⟩ := bindR he
  refine ⟨C, st, f1, st1, hK, hw, R, h1, ?_⟩
  cases f1 with
  | nx => exact fun C' σ' H' L R' => ⟨C', st1, fl, st', L.le.k.trans hK, L.le.w.trans hw, R', he, q.after L⟩
  | bk => cases he; exact q
  | ct => cases he; exact q
  | rt p => cases he; exact q
theorem ss_nil : PSs X [] (rdSs G []) := pss_nil.imp fun _ _ _ h => rdSs_nil h
theorem ss_cons {a : Stmt} {as : List Stmt} {s : S} {ss : List S} (h1 : PS X a (rdS G s)) (h2 : PSs X as (rdSs G ss)) : PSs X (a :: as) (rdSs G (s :: ss)) := (pss_cons h1 h2).imp fun _ _ _ h => rdSs_cons h
def sBad : S := .expr bad
theorem ex_bad {Φ : Calls} {st st' : St} {fl : Flow} (h : ex Φ sBad st = .ok (fl, st')) : False := by
  unfold sBad at h
  rw [ex] at h
  obtain ⟨⟨p, st1⟩, h1, _⟩ := bindR h
  obtain ⟨ps0, ps, k1, k2, k3⟩ := op_split h1
  obtain ⟨rfl, rfl⟩ := evs_nil k1
  cases (show Res.ok [] = Res.ok ps from k2)
  exact nomatch k3
theorem ps_bad {a : Stmt} : PS X a (rdS G sBad) := ⟨fun _ _ _ _ _ _ ⟨_, _, _, _, _, _, _, he, _⟩ => (ex_bad he).elim⟩
/-! ### small ones -/
theorem s_pass {pos : Pos} : PS X (.Pass pos) (rdS G .pass) := ps_pass.imp fun D σ H ⟨C, st, fl, st', hK, hw, R, he, q⟩ => by
  cases (show Res.ok (Flow.nx, st) = Res.ok (fl, st') from he)
  exact q C σ H .refl R
theorem s_brk {pos : Pos} : PS X (.Break pos) (rdS G .brk) := ps_break.imp fun D σ H ⟨C, st, fl, st', hK, hw, R, he, q⟩ => by
  cases (show Res.ok (Flow.bk, st) = Res.ok (fl, st') from he)
  exact q C σ H .refl R
theorem s_cont {pos : Pos} : PS X (.Continue pos) (rdS G .cont) := ps_continue.imp fun D σ H ⟨C, st, fl, st', hK, hw, R, he, q⟩ => by
  cases (show Res.ok (Flow.ct, st) = Res.ok (fl, st') from he)
  exact q C σ H .refl R
theorem rd_share {e : E} (hb : isBor e = false) {σ : L2.St} {H : Hp} {Q : VK} {C : RC} {st : St} {p : PV} {st' : St} (hK : C.K = G.K) (hw : C.w = G.w) (R : Rel C st σ H) (he : ev G.Φ e st = .ok (p, st'))
    (q : ∀ v C' H', Loc C st σ H C' st' H' → Rel C' st' σ H' → Rep C' p v → Q v H') : rd G e σ H Q := rd_R hb ⟨C, st, p, st', hK, hw, R, he, q⟩
theorem s_ret {e : Expr} {e' : E} {pos : Pos} (hb : isBor e' = false) (he : PE X e (rd G e')) : PS X (.Return (some e) pos) (rdS G (.ret e')) := (ps_ret he).imp fun D σ H ⟨C, st, fl, st', hK, hw, R, hx, q⟩ => by
  rw [ex] at hx
  obtain ⟨⟨p, st1⟩, h1, hx⟩ := bindR hx
  cases hx
  exact rd_share hb hK hw R h1 fun v C' H' L R' r => q v C' σ H' L.s R' r
theorem s_retN {pos : Pos} : PS X (.Return none pos) (rdS G (.ret (.lit .non))) := ps_retN.imp fun D σ H ⟨C, st, fl, st', hK, hw, R, hx, q⟩ => by
  rw [ex] at hx
  obtain ⟨⟨p, st1⟩, h1, hx⟩ := bindR hx
  cases hx
  cases (show Res.ok (PV.non, st) = Res.ok (p, st1) from h1)
  exact q .non C σ H .refl R rfl
theorem s_expr {e : Expr} {e' : E} {pos : Pos} (hb : isBor e' = false) (he : PE X e (rd G e')) (hs : swapsWith e none pos.line X.env = pure false) : PS X (.Expr e pos) (rdS G (.expr e')) := (ps_expr he hs).imp fun D σ H ⟨C, st, fl, st', hK, hw, R, hx, q⟩ => by
  rw [ex] at hx
  obtain ⟨⟨p, st1⟩, h1, hx⟩ := bindR hx
  cases hx
  exact rd_share hb hK hw R h1 fun v C' H' L R' r => q C' σ H' L.s R'
theorem test_ok {x : Res (PV × St)} {b : Bool} {st : St} (h : test x = .ok (b, st)) : x = .ok (.bl b, st) := by
  obtain ⟨⟨p, st1⟩, h1, h⟩ := bindR (show (x.bind fun r => match r.1 with | .bl b => Res.ok (b, r.2) | _ => .no) = .ok (b, st) from h)
  cases p with
  | bl k => cases h; exact h1
  | _ => exact nomatch h
theorem s_ite {c : Expr} {a b : List Stmt} {c' : E} {a' b' : List S} {pos : Pos} (hc : PT X c (rdT G c')) (ha : PSs X a (rdSs G a')) (hb : PSs X b (rdSs G b')) : PS X (.If c a b pos) (rdS G (.ite c' a' b')) := (ps_if hc ha hb).imp fun D σ H ⟨C, st, fl, st', hK, hw, R, hx, q⟩ => by
  rw [ex] at hx
  obtain ⟨⟨k, st1⟩, h1, hx⟩ := bindR hx
  refine ⟨C, st, k, st1, hK, hw, R, test_ok h1, fun C1 H1 L1 R1 => ?_⟩
  cases k with
  | true =>
    rw [if_pos rfl]
    exact ⟨C1, st1, fl, st', L1.le.k.trans hK, L1.le.w.trans hw, R1, hx, q.after L1.s⟩
  | false =>
    rw [if_neg Bool.false_ne_true]
    exact ⟨C1, st1, fl, st', L1.le.k.trans hK, L1.le.w.trans hw, R1, hx, q.after L1.s⟩
/-! ### loops -/
theorem s_while {c : Expr} {b : List Stmt} {c' : E} {b' : List S} {pos : Pos} (hp : PassesOwn (model X.prog X.w) X.A X.env X.xe) (hc : PT X c (rdT G c')) (hb : PSs X b (rdSs G b')) : PS X (.While c b [] pos) (rdS G (.while c' b')) := (ps_while hp hc hb).imp fun D σ0 H0 ⟨C0, st0, fl, stE, hK, hw, R, hx, q⟩ => by
  rw [ex] at hx
  refine ⟨fun m σ H => ∃ C st, Rel C st σ H ∧ LocS C0 st0 σ0 H0 C st σ H ∧ whileL (fun st => test (ev G.Φ c' st)) (fun st => exs G.Φ b' st) m st = .ok (fl, stE), ⟨WLIM, C0, st0, R, .refl, hx⟩, ?_⟩
  rintro m σ H ⟨C, st, R, L, hx⟩
  cases m with
  | zero => exact nomatch hx
  | succ n =>
    obtain ⟨⟨k, st1⟩, h1, hx⟩ := bindR (show ((test (ev G.Φ c' st)).bind fun r => if r.1 then (exs G.Φ b' r.2).bind fun q => match q.1 with
      | .nx => whileL (fun st => test (ev G.Φ c' st)) (fun st => exs G.Φ b' st) n q.2
      | .ct => whileL (fun st => test (ev G.Φ c' st)) (fun st => exs G.Φ b' st) n q.2
      | .bk => .ok (.nx, q.2)
      | .rt v => .ok (.rt v, q.2)
    else .ok (.nx, r.2)) = .ok (fl, stE) from hx)
    have hKC : C.K = G.K := L.le.k.trans hK
    have hwC : C.w = G.w := L.le.w.trans hw
    refine ⟨C, st, k, st1, hKC, hwC, R, test_ok h1, fun C1 H1 L1 R1 => ?_⟩
    cases k with
    | false =>
      rw [if_neg Bool.false_ne_true]
      cases hx
      exact q C1 σ H1 (L.trans L1.s) R1
    | true =>
      rw [if_pos rfl]
      obtain ⟨⟨f2, st2⟩, h2, hx⟩ := bindR (show ((exs G.Φ b' st1).bind fun q => _) = _ from hx)
      refine ⟨fun σ' H' => ∃ C' , Rel C' st2 σ' H' ∧ LocS C0 st0 σ0 H0 C' st2 σ' H' ∧ (f2 = .nx ∨ f2 = .ct), fun σ' H' ⟨C', R', L', hf⟩ => ⟨n, Nat.lt_succ_self n, C', st2, R', L', ?_⟩, C1, st1, f2, st2, L1.le.k.trans hKC, L1.le.w.trans hwC, R1, h2, ?_⟩
      · rcases hf with rfl | rfl <;> exact hx
      · cases f2 with
        | nx => exact fun C' σ' H' L' R' => ⟨C', R', (L.trans L1.s).trans L', .inl rfl⟩
        | ct => exact fun C' σ' H' L' R' => ⟨C', R', (L.trans L1.s).trans L', .inr rfl⟩
        | bk => cases hx; exact fun C' σ' H' L' R' => q C' σ' H' ((L.trans L1.s).trans L') R'
        | rt p => cases hx; exact fun v C' σ' H' L' R' r => q v C' σ' H' ((L.trans L1.s).trans L') R' r
theorem s_for {tg it : Expr} {b : List Stmt} {p : Pat} {it' : E} {b' : List S} {pos : Pos} (O : XO G X) (hp : PassesOwn (model X.prog X.w) X.A X.env X.xe) (hi : PI X tg it (rdI G it')) (hg : PG X tg (gP G.K p)) (hb : PSs X b (rdSs G b')) (hs : ∀ x, foldedSetIterable it X.env x = pure x) :
    PS X (.For tg it b [] pos) (rdS G (.for p it' b')) := (ps_for hp O.calm hi hg hb hs).imp fun D σ0 H0 ⟨C0, st0, fl, stE, hK, hw, R, hx, q⟩ => by
  rw [ex] at hx
  obtain ⟨⟨pi, st1⟩, h1, hx⟩ := bindR hx
  obtain ⟨xs, h2, hx⟩ := bindR hx
  refine ⟨C0, st0, pi, st1, xs, hK, hw, R, h1, Res.ofOpt_ok h2, fun J C1 H1 L1 R1 wk => ?_⟩
  refine ⟨fun i m σ H => m = xs.length - i ∧ i ≤ xs.length ∧ ∃ C st, Rel C st σ H ∧ C1.Le C ∧ LocS C0 st0 σ0 H0 C st σ H ∧ forL (fun x st => (bindP p x st.env).bind fun env => exs G.Φ b' { st with env := env }) (xs.drop i) st = .ok (fl, stE),
    ⟨xs.length, by simp, Nat.zero_le _, C1, st1, R1, .refl _, L1.s, hx⟩, ?_⟩
  rintro i m σ H ⟨rfl, hi, C, st, R, le, L, hr⟩
  by_cases hlt : i < xs.length
  · have hx : xs[i]? = some xs[i] := List.getElem?_eq_getElem hlt
    rw [List.drop_eq_getElem_cons hlt] at hr
    obtain ⟨⟨f2, st2⟩, e1, hr⟩ := bindR (show (((bindP p xs[i] st.env).bind fun env => exs G.Φ b' { st with env := env }).bind fun q => match q.1 with
      | .nx => forL (fun x st => (bindP p x st.env).bind fun env => exs G.Φ b' { st with env := env }) (xs.drop (i + 1)) q.2
      | .ct => forL (fun x st => (bindP p x st.env).bind fun env => exs G.Φ b' { st with env := env }) (xs.drop (i + 1)) q.2
      | .bk => .ok (.nx, q.2)
      | .rt v => .ok (.rt v, q.2)) = .ok (fl, stE) from hr)
    obtain ⟨env, e2, e3⟩ := bindR e1
    refine .inr ⟨wk.go i _ H (R.sub.le le) hx, fun σ' H' => ∃ C' , Rel C' st2 σ' H' ∧ C1.Le C' ∧ LocS C0 st0 σ0 H0 C' st2 σ' H' ∧ (f2 = .nx ∨ f2 = .ct), fun σ' H' ⟨C', R', le', L', hf⟩ => ⟨xs.length - (i + 1), by omega, rfl, hlt, C', st2, R', le', L', ?_⟩, fun x H' y => ?_⟩
    · rcases hf with rfl | rfl <;> exact hr
    · obtain ⟨C', g', rx⟩ := wk.yld i _ H C x H' R.sub hx le y
      have hKC : C'.K = G.K := g'.le.k.trans (L.le.k.trans hK)
      have hwC : C'.w = G.w := g'.le.w.trans (L.le.w.trans hw)
      refine bind_ok hKC p xs[i] st env σ x _ e2 (g'.rel R) rx fun σ2 S => ?_
      have LL : LocS C0 st0 σ0 H0 C' { st with env := env } σ2 H' := (L.trans g'.loc.s).trans S.s
      refine ⟨C', { st with env := env }, f2, st2, hKC, hwC, S.rel, e3, ?_⟩
      cases f2 with
      | nx => exact fun C2 σ' H' L' R' => ⟨C2, R', (le.trans g'.le).trans L'.le, LL.trans L', .inl rfl⟩
      | ct => exact fun C2 σ' H' L' R' => ⟨C2, R', (le.trans g'.le).trans L'.le, LL.trans L', .inr rfl⟩
      | bk => cases hr; exact fun C2 σ' H' L' R' => q C2 σ' H' (LL.trans L') R'
      | rt p => cases hr; exact fun v C2 σ' H' L' R' r => q v C2 σ' H' (LL.trans L') R' r
  · have e : i = xs.length := by omega
    subst e
    rw [List.drop_length] at hr
    cases (show Res.ok (Flow.nx, st) = Res.ok (fl, stE) from hr)
    exact .inl ⟨wk.stop H (R.sub.le le), q C σ H L R⟩
end
end Py
end

section
set_option Elab.async false
set_option linter.all false
set_option autoImplicit false
set_option maxRecDepth 100000
/-! Stores. -/
namespace Py
open PySem PySem.Spec PyProof.Rows L2

theorem Ow.no' {C : RC} {st : St} {σ : L2.St} {H : Hp} (R : Rel C st σ H) {D : Addr} (hD : H D = none) : ¬ Ow st σ D := Ow.no R hD
/-- a slot is given an object of its own -/
theorem Rel.setO {C : RC} {st : St} {σ : L2.St} {H : Hp} (R : Rel C st σ H) (i : Nat) {p : PV} {a : Addr} (hF : C.F a = none) (hc : C.cp ≠ some a) (ho : OwnR C H p a) (hn : ¬ Ow st σ a) : Rel C { st with env := st.env.set i (.own p) } (σ.set i (some (.ref a))) H := by
  have other : ∀ {j : Nat} {s : Slot}, (st.env.set i (.own p))[j]? = some s → (j = i ∧ s = .own p ∧ i < st.env.length) ∨ (j ≠ i ∧ st.env[j]? = some s) := fun {j s} h => by
    by_cases hj : i = j
    · subst hj
      by_cases hi : i < st.env.length
      · rw [List.getElem?_set_self hi] at h; cases h
        exact .inl ⟨rfl, rfl, hi⟩
      · rw [List.getElem?_eq_none (by simpa using hi)] at h; cases h
    · rw [List.getElem?_set_ne hj] at h
      exact .inr ⟨fun e => hj e.symm, h⟩
  have ne : ∀ {j : Nat}, j ≠ i → (σ.set i (some (.ref a)))[j]? = σ[j]? := fun h => List.getElem?_set_ne (Ne.symm h)
  have at_ : i < st.env.length → (σ.set i (some (V.ref a)))[i]? = some (some (.ref a)) := fun hi => List.getElem?_set_self (by rw [← R.len]; exact hi)
  refine ⟨R.sub, by rw [List.length_set, List.length_set]; exact R.len, fun j q h => ?_, fun j q h => ?_, fun j k q s b hj hk e1 e2 => ?_, R.cup, R.nocup, R.cpf⟩
  · rcases other h with ⟨_, e, _⟩ | ⟨hj, h⟩
    · cases e
    · rw [ne hj]; exact R.slot j q h
  · rcases other h with ⟨rfl, e, hi⟩ | ⟨hj, h⟩
    · cases e
      exact ⟨a, at_ hi, hF, hc, ho⟩
    · rw [ne hj]; exact R.own j q h
  · rcases other hj with ⟨z1, _, hi⟩ | ⟨n1, m1⟩
    · rcases other hk with ⟨z2, _, _⟩ | ⟨n2, m2⟩
      · rw [z1, z2]
      · rw [z1, at_ hi] at e1; cases e1
        rw [ne n2] at e2
        exact (hn ⟨k, s, m2, e2⟩).elim
    · rcases other hk with ⟨z2, _, hi⟩ | ⟨n2, m2⟩
      · rw [z2, at_ hi] at e2; cases e2
        rw [ne n1] at e1
        exact (hn ⟨j, q, m1, e1⟩).elim
      · rw [ne n1] at e1
        rw [ne n2] at e2
        exact R.apart j k q s b m1 m2 e1 e2
theorem Ow.setO {st : St} {σ : L2.St} {i : Nat} {p : PV} {a b : Addr} (h : Ow { st with env := st.env.set i (.own p) } (σ.set i (some (.ref a))) b) : Ow st σ b ∨ b = a := by
  obtain ⟨j, q, h1, h2⟩ := h
  by_cases hj : i = j
  · subst hj
    by_cases hi : i < σ.length
    · rw [List.getElem?_set_self hi] at h2; cases h2
      exact .inr rfl
    · rw [List.getElem?_eq_none (by simpa using hi)] at h2; cases h2
  · rw [show ({ st with env := st.env.set i (.own p) } : St).env[j]? = st.env[j]? from List.getElem?_set_ne hj] at h1
    rw [List.getElem?_set_ne hj] at h2
    exact .inl ⟨j, q, h1, h2⟩
/-- a slot's own object is written -/
theorem Rel.updO {C : RC} {st : St} {σ : L2.St} {H : Hp} (R : Rel C st σ H) {i : Nat} {p p' : PV} {a : Addr} {o' : HO} (h : st.env[i]? = some (.own p)) (e : σ[i]? = some (some (.ref a))) (ho : OwnR C (upd H a o') p' a) :
    Rel C { st with env := st.env.set i (.own p') } σ (upd H a o') ∧ LocS C st σ H C { st with env := st.env.set i (.own p') } σ (upd H a o') := by
  obtain ⟨a', e', hF, hc, h0⟩ := R.own i p h
  rw [e] at e'; cases e'
  have hi : i < st.env.length := by
    rw [List.getElem?_eq_some_iff] at h; exact h.1
  have other : ∀ {j : Nat} {s : Slot}, (st.env.set i (.own p'))[j]? = some s → (j = i ∧ s = .own p') ∨ (j ≠ i ∧ st.env[j]? = some s) := fun {j s} h => by
    by_cases hj : i = j
    · subst hj
      rw [List.getElem?_set_self hi] at h; cases h
      exact .inl ⟨rfl, rfl⟩
    · rw [List.getElem?_set_ne hj] at h
      exact .inr ⟨fun e => hj e.symm, h⟩
  have ne : ∀ {b}, b ≠ a → upd H a o' b = H b := fun h => upd_ne h
  have ow : Ow st σ a := ⟨i, p, h, e⟩
  refine ⟨⟨fun b u q => ?_, by rw [List.length_set]; exact R.len, fun j q hq => ?_, fun j q hq => ?_, fun j k q s b hj hk e1 e2 => ?_, fun x y hxy => ?_, R.nocup, R.cpf⟩, ⟨.refl C, fun b o q hw _ => ?_, fun b o q => ?_, fun b o q => .inl q, fun c q => .inl q, fun b hb => .inl ?_⟩⟩
  · rw [ne (ne_of_none q hF)]; exact R.sub b u q
  · rcases other hq with ⟨_, z⟩ | ⟨_, hq⟩
    · cases z
    · exact R.slot j q hq
  · rcases other hq with ⟨rfl, z⟩ | ⟨hj, hq⟩
    · cases z; exact ⟨a, e, hF, hc, ho⟩
    · obtain ⟨b, h1, h2, h3, h4⟩ := R.own j q hq
      exact ⟨b, h1, h2, h3, h4.le (.refl C) (ne fun z => by subst z; exact hj (R.apart j i q p b hq h h1 e))⟩
  · rcases other hj with ⟨z1, _⟩ | ⟨n1, m1⟩
    · rcases other hk with ⟨z2, _⟩ | ⟨n2, m2⟩
      · rw [z1, z2]
      · exact R.apart j k p s b (z1 ▸ h) m2 e1 e2
    · rcases other hk with ⟨z2, _⟩ | ⟨n2, m2⟩
      · exact R.apart j k q p b m1 (z2 ▸ h) e1 e2
      · exact R.apart j k q s b m1 m2 e1 e2
  · obtain ⟨c, h1, h2⟩ := R.cup x y hxy
    exact ⟨c, h1, by rw [ne fun z => by subst z; exact hc h1]; exact h2⟩
  · rw [ne fun z => by subst z; exact hw ow]; exact q
  · by_cases hb : b = a
    · subst hb; exact ⟨o', upd_same⟩
    · exact ⟨o, by rw [ne hb]; exact q⟩
  · obtain ⟨j, q, h1, h2⟩ := hb
    rcases other h1 with ⟨rfl, _⟩ | ⟨_, h1⟩
    · rw [e] at h2; cases h2; exact ow
    · exact ⟨j, q, h1, h2⟩
section
variable {G : GP} {X : Cx}
/-- target = value -/
theorem rd_asg {p : Pat} {e' : E} (hb : isBor e' = false) {D : Ends} {σ : L2.St} {H : Hp} (h : rdS G (.asg p e') D σ H) : tAsg (rd G e') (gP G.K p) D σ H := by
  obtain ⟨C, st, fl, st', hK, hw, R, hx, q⟩ := h
  rw [ex] at hx
  obtain ⟨⟨x, st1⟩, h1, hx⟩ := bindR hx
  obtain ⟨env, h2, hx⟩ := bindR hx
  cases hx
  exact rd_share hb hK hw R h1 fun v C' H' L R' r => bind_ok (L.le.k.trans hK) p x st1 env σ v _ h2 R' r fun σ' S => q C' σ' H' (L.s.trans S.s) S.rel
theorem s_asg {tg e : Expr} {p : Pat} {e' : E} {pos : Pos} (hb : isBor e' = false) (he : PE X e (rd G e')) (hg : PG X tg (gP G.K p)) (hs : swapsWithSole [tg] e pos.line X.env = pure false) (hw : swappedStores [tg] e X.env = pure none)
    (h1 : (assignEach [tg] X.env).map (·.2) = [assign tg X.env]) : PS X (.Assign [tg] e pos) (rdS G (.asg p e')) := (ps_asg he hg hs hw h1).imp fun _ _ _ h => rd_asg hb h
theorem s_set {i : Nat} {x : Str} {e : Expr} {e' : E} {pos pos' : Pos} (O : XO G X) (hb : isBor e' = false) (hi : X.N[i]? = some x) (hx : L2.Loc X.env.scope x) (he : PE X e (rd G e')) (hs : swapsWith e (some (.Name x pos')) pos.line X.env = pure false) (hf : X.fn x = true ∨ X.env.scope.names.lookup x = some .local) :
    PS X (.Assign [.Name x pos'] e pos) (rdS G (.asg (.nm i) e')) := (ps_set O.nd hi hx he hs hf).imp fun _ _ _ h => rd_asg hb h
theorem rd_asgo {i : Nat} {e' : E} (hf : freshE G.ff e' = true) (hb : isBor e' = false) {D : Ends} {σ : L2.St} {H : Hp} (h : rdS G (.asgo i e') D σ H) : tAsg (rd G e') (gName i) D σ H := by
  obtain ⟨C, st, fl, st', hK, hw, R, hx, q⟩ := h
  rw [ex] at hx
  obtain ⟨⟨x, st1⟩, h1, hx⟩ := bindR hx
  cases hx
  refine ⟨C, st, x, st1, hK, hw, R, h1, fun v C' H' L R' r => ?_⟩
  rw [resV_nb hb, if_pos hf] at r
  obtain ⟨a, rfl, h0, hF, hc, ho⟩ := r
  have hn : ¬ Ow st1 σ a := fun z => by
    obtain ⟨j, q, k1, k2⟩ := L.ow a z
    obtain ⟨b, k3, _, _, k4⟩ := R.own j q k1
    rw [k2] at k3; cases k3
    obtain ⟨u, k5⟩ := k4.some
    rw [h0] at k5; cases k5
  refine q C' (σ.set i (some (.ref a))) H' ⟨L.le, L.keep, L.there, L.fnew, L.cnew, fun b hb => ?_⟩ (R'.setO i hF hc ho hn)
  rcases hb.setO with z | rfl
  · exact .inl (L.ow b z)
  · exact .inr h0
theorem s_seto {i : Nat} {x : Str} {e : Expr} {e' : E} {pos pos' : Pos} (O : XO G X) (hfr : freshE G.ff e' = true) (hb : isBor e' = false) (hi : X.N[i]? = some x) (hx : L2.Loc X.env.scope x) (he : PE X e (rd G e')) (hs : swapsWith e (some (.Name x pos')) pos.line X.env = pure false) (hf : X.fn x = true ∨ X.env.scope.names.lookup x = some .local) :
    PS X (.Assign [.Name x pos'] e pos) (rdS G (.asgo i e')) := (ps_set O.nd hi hx he hs hf).imp fun _ _ _ h => rd_asgo hfr hb h
/-- name op= e -/
theorem slot_int {C : RC} {st : St} {σ : L2.St} {H : Hp} (R : Rel C st σ H) {i : Nat} {n : Int} (h : slotV st.env i = .ok (.int n)) : st.env[i]? = some (.val (.int n)) ∧ σ[i]? = some (some (.int n)) := by
  rcases slotV_ok h with h | h
  · obtain ⟨v, e, r⟩ := R.slot i _ h
    exact ⟨h, by rw [e, show v = V.int n from r]⟩
  · obtain ⟨a, _, _, _, r⟩ := R.own i _ h
    exact r.elim
theorem aug_inv {Φ : Calls} {i : Nat} {o : Op} {e : E} {st st' : St} {fl : Flow} (h : ex Φ (.aug i o e) st = .ok (fl, st')) :
    (∃ a b st1, slotV st.env i = .ok (.int a) ∧ ev Φ e st = .ok (.int b, st1) ∧ fl = .nx ∧ ((o = .add ∧ st' = { st1 with env := st1.env.set i (.val (.int (a + b))) }) ∨ (o = .sub ∧ st' = { st1 with env := st1.env.set i (.val (.int (a - b))) })))
    ∨ (∃ xs0 xs ys st1, st.env[i]? = some (.own (.lst xs0)) ∧ ev Φ e st = .ok (.lst ys, st1) ∧ st1.env[i]? = some (.own (.lst xs)) ∧ xs.length + ys.length ≤ LIM ∧ o = .add ∧ fl = .nx ∧ st' = { st1 with env := st1.env.set i (.own (.lst (xs ++ ys))) }) := by
  rw [ex] at h
  split at h
  · rename_i xs0 e0
    obtain ⟨⟨y, st1⟩, h1, h⟩ := bindR h
    split at h
    · rename_i xs ys e1 e2 _
      obtain ⟨h3, h4⟩ := Res.of_ok h
      cases h4
      dsimp only at e2
      subst e2
      exact .inr ⟨xs0, xs, ys, st1, e0, h1, e1, of_decide_eq_true h3, rfl, rfl, rfl⟩
    · exact nomatch h
  · refine .inl ?_
    obtain ⟨x, h1, h⟩ := bindR h
    obtain ⟨⟨y, st1⟩, h2, h⟩ := bindR h
    cases x with
    | int a =>
      cases y with
      | int b =>
        cases o with
        | add => cases h; exact ⟨a, b, st1, h1, h2, rfl, .inl ⟨rfl, rfl⟩⟩
        | sub => cases h; exact ⟨a, b, st1, h1, h2, rfl, .inr ⟨rfl, rfl⟩⟩
        | _ => exact nomatch h
      | _ => exact nomatch h
    | _ => exact nomatch h
/-- a list grown where it lies -/
def tIp2 : TIp := fun x y H Q => ipI (fun i j => i + j) x y H Q ∨ ∃ a b us ws, x = .ref a ∧ y = .ref b ∧ H a = some (.lst us) ∧ H b = some (.lst ws) ∧ us.length + ws.length ≤ sizeLine ∧ Q (.ref a) (upd H a (.lst (us ++ ws)))
theorem wpAny_ilist {A : Around} {E : Value → Shared → Prop} {s : Shared} {prog : Program} {w : World} {a b : Value} {Q : Value → Shared → Prop} (ha : s.TypeIs a "list") (hb : s.TypeIs b "list") (hc : wpAny (model prog w) A (call (.builtin "list.__iadd__") [a, b]) Q E s) : wpAny (model prog w) A (inplaceOp .Add a b) Q E s := by
  unfold inplaceOp
  refine wpAny_holding ?_
  have hfi : fillsInplaceSlot (.type "list") "add" (Operator.Add == .Add) = pure false := by
    unfold fillsInplaceSlot
    show (typeLookup (.type "list") (dunderI "add") >>= fun fi => pure (fi.isSome && !isSeqSlot fi)) = pure false
    rw [PySem.F.slot_list_iadd.lookup]
    have e : isSeqSlot (some (.builtin "list.__iadd__")) = true := by decide +kernel
    show (pure ((some (Value.builtin "list.__iadd__")).isSome && !isSeqSlot (some (.builtin "list.__iadd__"))) : Sem Bool) = pure false
    rw [e]; rfl
  have hsi : seqSlot? (.type "list") (dunderI "add") = pure (some (.builtin "list.__iadd__")) := PySem.seqSlot_of PySem.F.slot_list_iadd.lookup (by decide +kernel)
  refine wpAny_bind (wpAny_typeOf ha (wpAny_bind (wpAny_of_eq hfi ?_)))
  show wpAny _ A (if false = true then _ else _) Q E s
  rw [if_neg Bool.false_ne_true]
  refine wpAny_bind (wpAny_binaryOp1_none (nm := "add") ha hb noFill_list_add ?_)
  refine wpAny_bind (wpAny_of_eq hsi ?_)
  exact wpAny_bind (wpAny_rule hc)
section
variable {X : Cx}
theorem ip_add2 : PIp X .Add tIp2 := by
  intro pins s σ H x y v u Q I r1 r2 h
  rcases h with h | ⟨a, b, us, ws, rfl, rfl, hH, hB, hz, q⟩
  · exact ip_add pins s σ H x y v u Q I r1 r2 h
  · cases r1
    cases r2
    obtain ⟨z, its, n, r, hl, e⟩ := I.lstM hH
    obtain ⟨z2, its2, n2, r2, hl2, e2⟩ := I.lstM hB
    have hsz : its.toArray.size + its2.toArray.size ≤ sizeLine := by rw [List.size_toArray, List.size_toArray]; omega
    have hlong : ¬ (!its.toArray.isEmpty && Builtin.List.listTooLong (its.toArray.size + its2.toArray.size)) = true := by
      rw [notLongL hsz, Bool.and_false]
      exact Bool.false_ne_true
    refine wpAny_ilist ⟨_, e, rfl⟩ ⟨_, e2, rfl⟩ (call_meets PySem.F.slot_list_iadd ⟨_, e, rfl⟩ PySem.F.entry_list_iadd (PySem.F.args_list_iadd_2 _ _)
      (AutoSeq1.list___iadd___list_list_0 a its.toArray n b its2.toArray n2 hlong (by rw [List.size_toArray]; omega) (by omega)) ⟨e, e2, ?_⟩)
    refine ⟨.ref a, _, I.lset (its' := its ++ its2) hH e (by simp) (r.append r2) ?_, rfl, q⟩
    rw [List.length_append]; exact hz
end
theorem s_augA {i : Nat} {x : Str} {e : Expr} {e' : E} {pos pos' : Pos} (O : XO G X) (hb : isBor e' = false) (hi : X.N[i]? = some x) (hx : L2.Loc X.env.scope x) (he : PE X e (rd G e')) (hf : X.fn x = true ∨ X.env.scope.names.lookup x = some .local) :
    PS X (.AugAssign (.Name x pos') .Add e pos) (rdS G (.aug i .add e')) := (ps_aug O.nd hi hx he ip_add2 hf).imp fun D σ H ⟨C, st, fl, st', hK, hw, R, h, q⟩ => by
  rcases aug_inv h with ⟨a, b, st1, h1, h2, rfl, h3⟩ | ⟨xs0, xs, ys, st1, e0, h2, e1, hl, _, rfl, rfl⟩
  · rcases h3 with ⟨_, rfl⟩ | ⟨z, _⟩
    · refine ⟨.int a, (slot_int R h1).2, C, st, _, st1, hK, hw, R, h2, fun v C' H' L R' r => .inl ⟨a, b, rfl, res_int r, ?_⟩⟩
      exact q C' _ H' (L.s.trans ⟨.refl _, fun _ _ h _ _ => h, fun _ o h => ⟨o, h⟩, fun _ _ h => .inl h, fun _ h => .inl h, fun b h => .inl h.setV⟩) (R'.setV i rfl)
    · cases z
  · obtain ⟨a, k1, k2, k3, vs, k4, k5⟩ := R.own i _ e0
    refine ⟨.ref a, k1, rd_share hb hK hw R h2 fun v C1 H1 L1 R1 r1 => .inr ?_⟩
    obtain ⟨a2, g1, g2, g3, us, g4, g5⟩ := R1.own i _ e1
    rw [k1] at g1; cases g1
    obtain ⟨b, ws, rfl, hkn, hr2⟩ := r1
    refine ⟨a, b, us, ws, rfl, rfl, g4, R1.sub _ _ hkn, by rw [g5.length, hr2.length, ← LIM_eq] at *; exact hl, ?_⟩
    obtain ⟨RR, LS⟩ := R1.updO (p' := .lst (xs ++ ys)) (o' := .lst (us ++ ws)) e1 k1 ⟨us ++ ws, upd_same, g5.append hr2⟩
    have hs : σ.set i (some (.ref a)) = σ := by
      apply List.ext_getElem?
      intro j
      by_cases hj : i = j
      · subst hj
        by_cases hlt : i < σ.length
        · rw [List.getElem?_set_self hlt, k1]
        · rw [List.getElem?_eq_none (by omega)] at k1; cases k1
      · rw [List.getElem?_set_ne hj]
    rw [hs]
    exact q C1 σ _ (L1.s.trans LS) RR
theorem s_augS {i : Nat} {x : Str} {e : Expr} {e' : E} {pos pos' : Pos} (O : XO G X) (hi : X.N[i]? = some x) (hx : L2.Loc X.env.scope x) (he : PE X e (rd G e')) (hf : X.fn x = true ∨ X.env.scope.names.lookup x = some .local) :
    PS X (.AugAssign (.Name x pos') .Sub e pos) (rdS G (.aug i .sub e')) := (ps_aug O.nd hi hx he ip_sub hf).imp fun D σ H ⟨C, st, fl, st', hK, hw, R, h, q⟩ => by
  rcases aug_inv h with ⟨a, b, st1, h1, h2, rfl, h3⟩ | ⟨_, _, _, _, _, _, _, _, z, _⟩
  · rcases h3 with ⟨z, _⟩ | ⟨_, rfl⟩
    · cases z
    · refine ⟨.int a, (slot_int R h1).2, C, st, _, st1, hK, hw, R, h2, fun v C' H' L R' r => ⟨a, b, rfl, res_int r, ?_⟩⟩
      exact q C' _ H' (L.s.trans ⟨.refl _, fun _ _ h _ _ => h, fun _ o h => ⟨o, h⟩, fun _ _ h => .inl h, fun _ h => .inl h, fun b h => .inl h.setV⟩) (R'.setV i rfl)
  · cases z
/-- xs.append(e) -/
theorem app_inv {Φ : Calls} {i : Nat} {e : E} {st st' : St} {fl : Flow} (h : ex Φ (.app i e) st = .ok (fl, st')) :
    ∃ ys x st1 xs, st.env[i]? = some (.own (.lst ys)) ∧ ev Φ e st = .ok (x, st1) ∧ st1.env[i]? = some (.own (.lst xs)) ∧ xs.length < LIM ∧ fl = .nx ∧ st' = { st1 with env := st1.env.set i (.own (.lst (xs ++ [x]))) } := by
  rw [ex] at h
  split at h
  · rename_i ys e0
    obtain ⟨⟨x, st1⟩, h1, h⟩ := bindR h
    split at h
    · rename_i xs e1
      obtain ⟨h3, h4⟩ := Res.of_ok h
      cases h4
      exact ⟨ys, x, st1, xs, e0, h1, e1, of_decide_eq_true h3, rfl, rfl⟩
    · exact nomatch h
  · exact nomatch h
theorem rd_app (O : XO G X) {i : Nat} {e' : E} (hb : isBor e' = false) {D : Ends} {σ : L2.St} {H : Hp} (h : rdS G (.app i e') D σ H) : tDrop (tBM X.K "list" rAppend (tVar i) (rdA G [e'])) D σ H := by
  obtain ⟨C, st, fl, st', hK, hw, R, hx, q⟩ := h
  obtain ⟨ys, x, st1, xs, e0, h1, e1, hl, rfl, rfl⟩ := app_inv hx
  obtain ⟨a, k1, k2, k3, vs, k4, k5⟩ := R.own i _ e0
  refine ⟨.ref a, k1, .inl ⟨rfl, vs, .inl (.of k4)⟩, C, st, [x], st1, [x], hK, hw, R, by rw [evs, h1]; rfl, reread_nb st1 (by simp [noBor, hb]) (by rw [evs, h1]; rfl : evs G.Φ [e'] st = .ok ([x], st1)), fun ws C' H' L R' al => ?_⟩
  obtain ⟨p, ps, v, vs', z1, z2, z3, z4⟩ := al
  cases z1
  obtain ⟨_, rfl⟩ := z4
  subst z2
  rw [hb, if_neg Bool.false_ne_true] at z3
  obtain ⟨a2, g1, g2, g3, us, g4, g5⟩ := R'.own i _ e1
  rw [k1] at g1; cases g1
  have hlen : us.length < sizeLine := by rw [g5.length, ← LIM_eq]; exact hl
  refine ⟨a, us, v, rfl, rfl, g4, hlen, ?_⟩
  obtain ⟨RR, LL⟩ := R'.updO (p' := .lst (xs ++ [x])) (o' := .lst (us ++ [v])) e1 k1 ⟨us ++ [v], upd_same, g5.append (Reps.cons z3 Reps.nil)⟩
  exact q C' σ _ (L.s.trans LL) RR
theorem s_app (O : XO G X) {i : Nat} {x : Str} {e : Expr} {e' : E} {p1 apos cpos pos : Pos} (hi : X.N[i]? = some x) (hx : Vis X.env.scope x) (hd : (x == ("__debug__" : Str)) = false) (hcd : (x == ("__classdict__" : Str)) = false) (hb : isBor e' = false) (hn : notStar e = true) (he : PE X e (rd G e'))
    (hbase : attributeBase (.Name x p1) "append" X.env (eval (.Name x p1) X.env) = eval (.Name x p1) X.env) (hline : (apos.endLine == cpos.line) = true) (hs : swapsWith (.Call (.Attribute (.Name x p1) "append" apos) [e] [] cpos) none pos.line X.env = pure false) :
    PS X (.Expr (.Call (.Attribute (.Name x p1) "append" apos) [e] [] cpos) pos) (rdS G (.app i e')) := by
  have hst := star_cons (es := []) (env := X.env) hn
  refine (ps_expr (pe_bm PySem.F.plainAttrs_list PySem.F.slot_list_append PySem.F.type_list_append (fun pins s σ H x xs v us Q I rx rs h => mt_append pins s σ H x xs v us Q I rx rs h) (pe_var hi hx hd hcd) (SndL.cons hn he .nil).pa hbase ?_ hline hst (star_any rfl)) hs).imp fun _ _ _ h => rd_app O hb h
  have e1 : (backTo cpos (starEach [e] X.env)).all (fun x => !x.1) = true := by
    have := star_any (env := X.env) (pos := cpos) (es := [e]) (by rw [List.all_cons, hn]; rfl)
    rw [List.all_eq_not_any_not]
    simpa using this
  rw [e1]
  rfl
/-! ### o[k] = e -/
theorem setx_inv {Φ : Calls} {i : Nat} {k e : E} {st st' : St} {fl : Flow} (h : ex Φ (.setx i k e) st = .ok (fl, st')) :
    ∃ x st1 z y st2, ev Φ e st = .ok (x, st1) ∧ slotV st1.env i = .ok z ∧ ev Φ k st1 = .ok (y, st2) ∧ fl = .nx ∧
      ((∃ xs j n, st2.env[i]? = some (.own (.lst xs)) ∧ y = .int j ∧ ixN xs.length j = some n ∧ st' = { st2 with env := st2.env.set i (.own (.lst (xs.set n x))) }) ∨
       (∃ kvs, st2.env[i]? = some (.own (.dct kvs)) ∧ kOk kvs y = true ∧ kvs.length < LIM ∧ st' = { st2 with env := st2.env.set i (.own (.dct (dset kvs y x))) }) ∨
       (∃ a b j n, st2.env[i]? = some (.val .cup) ∧ st2.cup = some (a, b) ∧ y = .int j ∧ x = .int n ∧ ((j = 0 ∧ st' = { st2 with cup := some (n, b) }) ∨ (j = 1 ∧ st' = { st2 with cup := some (a, n) })))) := by
  rw [ex] at h
  obtain ⟨⟨x, st1⟩, h1, h⟩ := bindR h
  obtain ⟨z0, h0, h⟩ := bindR h
  obtain ⟨⟨y, st2⟩, h2, h⟩ := bindR h
  refine ⟨x, st1, z0, y, st2, h1, h0, h2, ?_⟩
  split at h
  · rename_i xs e1
    cases y with
    | int j =>
      obtain ⟨n, h3, h4⟩ := bindR h
      cases h4
      exact ⟨rfl, .inl ⟨xs, j, n, e1, rfl, Res.ofOpt_ok h3, rfl⟩⟩
    | _ => exact nomatch h
  · rename_i kvs e1
    obtain ⟨h3, h4⟩ := Res.of_ok h
    rw [Bool.and_eq_true] at h3
    cases h4
    exact ⟨rfl, .inr (.inl ⟨kvs, e1, h3.1, of_decide_eq_true h3.2, rfl⟩)⟩
  · rename_i e1
    split at h
    · rename_i a b j n e2 e3 e4
      have e3 : y = .int j := e3
      have e4 : x = .int n := e4
      split at h
      · rename_i z
        cases h
        exact ⟨rfl, .inr (.inr ⟨a, b, j, n, e1, e2, e3, e4, .inl ⟨z, rfl⟩⟩)⟩
      · split at h
        · rename_i z
          cases h
          exact ⟨rfl, .inr (.inr ⟨a, b, j, n, e1, e2, e3, e4, .inr ⟨z, rfl⟩⟩)⟩
        · exact nomatch h
    · exact nomatch h
  · exact nomatch h
/-- a store at a key -/
def USet (G : GP) : TSet := fun o k v H Q =>
  (∃ a xs j n, o = .ref a ∧ k = .int j ∧ H a = some (.lst xs) ∧ L2.ixN xs.length j = some n ∧ Q (upd H a (.lst (xs.set n v)))) ∨
  (∃ C a kvs ob es y x, C.K = G.K ∧ C.w = G.w ∧ SubH C H ∧ o = .ref a ∧ H a = some (.ext (IsOb a ob)) ∧ DOb C.w a ob es kvs ∧ RepE C kvs es ∧ kOk kvs y = true ∧ kvs.length < LIM ∧ Rep C y k ∧ Rep C x v ∧
    ∀ ob' es', DOb C.w a ob' es' (dset kvs y x) → RepE C (dset kvs y x) es' → Q (upd H a (.ext (IsOb a ob'))))
theorem u_set (O : XO G X) : PSet X (USet G) := by
  intro pins s σ H o i v ov iv u Q I ro ri rv h
  rcases h with ⟨a, xs, j, n, rfl, rfl, hH, hj, q⟩ | ⟨C, a, kvs, ob, es, y, x, eK, ew, hF, rfl, hH, hd, hr, hk, hl, ry, rx, q⟩
  · exact set_list pins s σ H _ _ v ov iv u Q I ro ri rv ⟨a, xs, j, n, rfl, rfl, hH, hj, q⟩
  · cases ro
    refine d_set O.units I (eK.trans O.hK.symm) (ew.trans O.hw.symm) hF ⟨.inl hH, hd, hr⟩ hk hl ry ri ⟨v, rv, rx⟩ fun t h' P => ?_
    obtain ⟨ob', es', k1, k2, k3⟩ := P.ob
    refine ⟨_, I.write (x := a) (e := a) (o := .ext (IsOb a ob')) (t' := t) (by rw [hH]; exact True.intro) (.inl rfl) (fun b u hb e => (P.same.2 b hb).trans e) ⟨ob', k1⟩ ⟨k1, ⟨_, k1⟩, fun h1 h2 e k => k _ e⟩, q ob' es' k2 k3⟩
theorem rd_setx {i : Nat} {k' e' : E} (hb : isBor e' = false) (hbk : isBor k' = false) {D : Ends} {σ : L2.St} {H : Hp} (h : rdS G (.setx i k' e') D σ H) : tAsg (rd G e') (gSub (tVar i) (rd G k') (USet G)) D σ H := by
  obtain ⟨C, st, fl, st', hK, hw, R, hx, q⟩ := h
  obtain ⟨x, st1, z0, y, st2, h1, h0, h2, rfl, h3⟩ := setx_inv hx
  refine rd_share hb hK hw R h1 fun v C1 H1 L1 R1 r1 => ?_
  obtain ⟨o, eo, _⟩ := R1.slotS h0
  refine ⟨o, eo, ?_⟩
  refine rd_share hbk (L1.le.k.trans hK) (L1.le.w.trans hw) R1 h2 fun kv C2 H2 L2 R2 r2 => ?_
  have LL := L1.trans L2
  have rx : Rep C2 x v := Rep.le L2.le _ _ r1
  have eK : C2.K = G.K := LL.le.k.trans hK
  have ew : C2.w = G.w := LL.le.w.trans hw
  rcases h3 with ⟨xs, j, n, e, rfl, hn, rfl⟩ | ⟨kvs, e, hk, hl, rfl⟩ | ⟨a, b, j, n, e, ec, rfl, rfl, hj⟩
  · obtain ⟨a, g1, g2, g3, us, g4, g5⟩ := R2.own i _ e
    rw [eo] at g1; cases g1
    obtain ⟨RR, LS⟩ := R2.updO (p' := .lst (xs.set n x)) (o' := .lst (us.set n v)) e eo ⟨us.set n v, upd_same, Reps.set rx n g5⟩
    refine .inl ⟨a, us, j, n, rfl, r2, g4, by rw [g5.length]; exact hn, ?_⟩
    exact q C2 σ _ (LL.s.trans LS) RR
  · obtain ⟨a, g1, g2, g3, ob, es, g4, g5, g6⟩ := R2.own i _ e
    rw [eo] at g1; cases g1
    refine .inr ⟨C2, a, kvs, ob, es, y, x, eK, ew, R2.sub, rfl, g4, g5, g6, hk, hl, r2, rx, fun ob' es' k1 k2 => ?_⟩
    obtain ⟨RR, LS⟩ := R2.updO (p' := .dct (dset kvs y x)) (o' := .ext (IsOb a ob')) e eo ⟨ob', es', upd_same, k1, k2⟩
    exact q C2 σ _ (LL.s.trans LS) RR
  · obtain ⟨w, g1, c, g2, g3⟩ := R2.slot i _ e
    rw [eo] at g1; cases g1
    subst g3
    obtain ⟨c', k1, k2⟩ := R2.cup a b ec
    rw [g2] at k1; cases k1
    cases (show kv = V.int j from r2)
    cases (show v = V.int n from rx)
    have step : ∀ (a' b' : Int), Rel C2 { st2 with cup := some (a', b') } σ (upd H2 c (.lst [.int a', .int b'])) ∧ LocS C2 st2 σ H2 C2 { st2 with cup := some (a', b') } σ (upd H2 c (.lst [.int a', .int b'])) := fun a' b' => by
      have ne : ∀ {b}, b ≠ c → upd H2 c (.lst [.int a', .int b']) b = H2 b := fun h => upd_ne h
      refine ⟨⟨fun b u z => ?_, R2.len, R2.slot, fun j p hj => ?_, R2.apart, fun x y hxy => ?_, fun z => (by cases z), R2.cpf⟩, ⟨.refl _, fun b o h _ hc => ?_, fun b o h => ?_, fun b o h => .inl h, fun c h => .inl h, fun b h => .inl h⟩⟩
      · rw [ne (ne_of_none z (R2.cpf c g2))]; exact R2.sub b u z
      · obtain ⟨a2, m1, m2, m3, m4⟩ := R2.own j p hj
        exact ⟨a2, m1, m2, m3, m4.le (.refl C2) (ne fun z => by subst z; exact m3 g2)⟩
      · cases hxy; exact ⟨c, g2, upd_same⟩
      · rw [ne fun z => by subst z; exact hc g2]; exact h
      · by_cases hb : b = c
        · subst hb; exact ⟨_, upd_same⟩
        · exact ⟨o, by rw [ne hb]; exact h⟩
    rcases hj with ⟨rfl, rfl⟩ | ⟨rfl, rfl⟩
    · refine .inl ⟨c, _, 0, 0, rfl, rfl, k2, rfl, ?_⟩
      exact q C2 σ _ (LL.s.trans (step n b).2) (step n b).1
    · refine .inl ⟨c, _, 1, 1, rfl, rfl, k2, rfl, ?_⟩
      exact q C2 σ _ (LL.s.trans (step a n).2) (step a n).1
theorem s_setx (O : XO G X) {i : Nat} {x : Str} {o k e : Expr} {k' e' : E} {p1 p2 pos : Pos} (ho : o = .Name x p1) (hi : X.N[i]? = some x) (hx : Vis X.env.scope x) (hd : (x == ("__debug__" : Str)) = false) (hcd : (x == ("__classdict__" : Str)) = false) (hb : isBor e' = false) (hbk : isBor k' = false)
    (hk : PE X k (rd G k')) (he : PE X e (rd G e')) (hs : swapsWithSole [.Subscript o k p2] e pos.line X.env = pure false) (hw : swappedStores [.Subscript o k p2] e X.env = pure none)
    (ha : ∀ v, assign (.Subscript o k p2) X.env v = (do
      let ov ← holding [v] (eval o X.env)
      let iv ← holding [v, ov] (eval k X.env)
      standAt p2
      holding [v, ov, iv] (setItem ov iv v)
      release [v, ov, iv] [])) (h1 : (assignEach [.Subscript o k p2] X.env).map (·.2) = [assign (.Subscript o k p2) X.env]) :
    PS X (.Assign [.Subscript o k p2] e pos) (rdS G (.setx i k' e')) := by
  subst ho
  exact (ps_asg he (pg_sub (pe_var hi hx hd hcd) hk (u_set O) ha) hs hw h1).imp fun _ _ _ h => rd_setx hb hbk h
/-! ### xs.pop() -/
theorem ev_pop {Φ : Calls} {i : Nat} {st st' : St} {p : PV} (h : ev Φ (.pop i) st = .ok (p, st')) : ∃ xs, st.env[i]? = some (.own (.lst xs)) ∧ xs.getLast? = some p ∧ st' = { st with env := st.env.set i (.own (.lst xs.dropLast)) } := by
  rw [ev] at h
  split at h
  · rename_i xs e
    obtain ⟨v, h1, h2⟩ := bindR h
    cases h2
    exact ⟨xs, e, Res.ofOpt_ok h1, rfl⟩
  · exact nomatch h
theorem LocS.loc {C C' : RC} {st st' : St} {σ : L2.St} {H H' : Hp} (L : LocS C st σ H C' st' σ H') (h : ∀ b, Ow st' σ b → Ow st σ b) : Loc C st σ H C' st' H' := ⟨L.le, L.keep, L.there, L.fnew, L.cnew, h⟩
theorem rd_pop (O : XO G X) {i : Nat} {σ : L2.St} {H : Hp} {Q : VK} (h : rd G (.pop i) σ H Q) : tBM0 X.K "list" rPop (tVar i) σ H Q := by
  obtain ⟨C, st, p, st', hK, hw, R, he, q⟩ := h
  obtain ⟨xs, e1, e2, rfl⟩ := ev_pop he
  obtain ⟨a, k1, k2, k3, vs, k4, k5⟩ := R.own i _ e1
  have hx : xs[xs.length - 1]? = some p := by rw [← List.getLast?_eq_getElem?]; exact e2
  obtain ⟨v, g1, g2⟩ := k5.get hx
  obtain ⟨RR, LS⟩ := R.updO (p' := .lst xs.dropLast) (o' := .lst vs.dropLast) e1 k1 ⟨_, upd_same, k5.dropLast⟩
  refine ⟨.ref a, k1, .inl ⟨rfl, vs, .inl (.of k4)⟩, a, vs, v, rfl, rfl, k4, by rw [k5.length]; exact g1, ?_⟩
  refine q v C _ (LS.loc fun b hb => ?_) RR g2
  have hi : i < st.env.length := by
    rw [List.getElem?_eq_some_iff] at e1; exact e1.1
  obtain ⟨j, r, m1, m2⟩ := hb
  by_cases hj : i = j
  · subst hj; exact ⟨i, _, e1, m2⟩
  · rw [show ({ st with env := st.env.set i (.own (.lst xs.dropLast)) } : St).env[j]? = st.env[j]? from List.getElem?_set_ne hj] at m1
    exact ⟨j, r, m1, m2⟩
theorem n_pop (O : XO G X) {i : Nat} {x : Str} {p1 apos cpos : Pos} (hi : X.N[i]? = some x) (hx : Vis X.env.scope x) (hd : (x == ("__debug__" : Str)) = false) (hcd : (x == ("__classdict__" : Str)) = false)
    (hbase : attributeBase (.Name x p1) "pop" X.env (eval (.Name x p1) X.env) = eval (.Name x p1) X.env) (hline : (apos.endLine == cpos.line) = true) :
    PE X (.Call (.Attribute (.Name x p1) "pop" apos) [] [] cpos) (rd G (.pop i)) :=
  (pe_bm0 PySem.F.plainAttrs_list PySem.F.slot_list_pop PySem.F.type_list_pop (fun pins s σ H x xs v us Q I rx rs h => mt_pop pins s σ H x xs v us Q I rx rs h) (pe_var hi hx hd hcd) hbase hline).imp fun _ _ _ h => rd_pop O h
end
end Py
end

section
set_option Elab.async false
set_option linter.all false
set_option autoImplicit false
set_option maxRecDepth 100000
/-! a, b = x, y; name = [..]. -/
namespace Py
open PySem PySem.Spec PyProof.Rows L2

/-- a value that waits for its slot -/
def Hold (own : Bool) (C : RC) (st : St) (σ : L2.St) (H : Hp) (p : PV) (v : V) : Prop :=
  if own = true then ∃ a, v = .ref a ∧ C.F a = none ∧ C.cp ≠ some a ∧ OwnR C H p a ∧ ¬ Ow st σ a else Rep C p v
theorem Hold.later {own : Bool} {C C' : RC} {st st' : St} {σ : L2.St} {H H' : Hp} {p : PV} {v : V} (h : Hold own C st σ H p v) (L : Loc C st σ H C' st' H') : Hold own C' st' σ H' p v := by
  unfold Hold at h ⊢
  cases own with
  | false =>
    rw [if_neg Bool.false_ne_true] at h ⊢
    exact Rep.le L.le _ _ h
  | true =>
    rw [if_pos rfl] at h ⊢
    obtain ⟨a, e, h1, h2, h3, h4⟩ := h
    obtain ⟨o, ho⟩ := h3.some
    refine ⟨a, e, ?_, fun z => ?_, h3.le L.le ((L.keep a o ho h4 h2).trans ho.symm), fun z => h4 (L.ow a z)⟩
    · cases z : C'.F a with
      | none => rfl
      | some u =>
        rcases L.fnew a u z with q | q | q
        · rw [h1] at q; cases q
        · rw [ho] at q; cases q
        · exact (h4 q).elim
    · rcases L.cnew a z with q | q
      · exact h2 q
      · rw [ho] at q; cases q
/-- a run's value, kept for a slot -/
theorem hold_of {ff : Nat → Bool} {own : Bool} {e : E} (hb : isBor e = false) (hf : own = true → freshE ff e = true) {C C1 : RC} {st st1 : St} {σ : L2.St} {H H1 : Hp} {p : PV} {v : V} (R : Rel C st σ H) (L : Loc C st σ H C1 st1 H1) (R1 : Rel C1 st1 σ H1) (r : ResV ff C1 H H1 σ e p v) :
    ∃ C1', Loc C st σ H C1' st1 H1 ∧ Rel C1' st1 σ H1 ∧ Hold own C1' st1 σ H1 p v ∧ (own = true → ∀ a, v = .ref a → H a = none) := by
  cases own with
  | false =>
    obtain ⟨C', L', R', r', _⟩ := res_share hb R L R1 r
    exact ⟨C', L', R', by unfold Hold; rw [if_neg Bool.false_ne_true]; exact r', fun z => nomatch z⟩
  | true =>
    rw [resV_nb hb, if_pos (hf rfl)] at r
    obtain ⟨a, rfl, h0, h1, h2, h3⟩ := r
    refine ⟨C1, L, R1, ?_, fun _ b e => by cases e; exact h0⟩
    unfold Hold
    rw [if_pos rfl]
    refine ⟨a, rfl, h1, h2, h3, fun z => ?_⟩
    obtain ⟨j, q, k1, k2⟩ := L.ow a z
    obtain ⟨b, k3, _, _, k4⟩ := R.own j q k1
    rw [k2] at k3; cases k3
    obtain ⟨u, k5⟩ := k4.some
    rw [h0] at k5; cases k5
def slotOf (own : Bool) (p : PV) : Slot := if own then .own p else .val p
/-- put into its slot; what else waits goes on waiting -/
theorem Hold.put {own : Bool} {C : RC} {st : St} {σ : L2.St} {H : Hp} {p : PV} {v : V} (h : Hold own C st σ H p v) (R : Rel C st σ H) (i : Nat) :
    Rel C { st with env := st.env.set i (slotOf own p) } (σ.set i (some v)) H ∧ (∀ b, Ow { st with env := st.env.set i (slotOf own p) } (σ.set i (some v)) b → Ow st σ b ∨ (own = true ∧ v = .ref b)) := by
  unfold Hold at h
  cases own with
  | false =>
    rw [if_neg Bool.false_ne_true] at h
    exact ⟨R.setV i h, fun b hb => .inl hb.setV⟩
  | true =>
    rw [if_pos rfl] at h
    obtain ⟨a, rfl, h1, h2, h3, h4⟩ := h
    refine ⟨R.setO i h1 h2 h3 h4, fun b hb => ?_⟩
    rcases hb.setO with z | z
    · exact .inl z
    · exact .inr ⟨rfl, by rw [z]⟩
theorem Hold.other {own own' : Bool} {C : RC} {st : St} {σ : L2.St} {H : Hp} {p q : PV} {v w : V} (h : Hold own C st σ H p v) {i : Nat} (ow : ∀ b, Ow { st with env := st.env.set i (slotOf own' q) } (σ.set i (some w)) b → Ow st σ b ∨ (own' = true ∧ w = .ref b)) (ne : own = true → own' = true → v ≠ w) :
    Hold own C { st with env := st.env.set i (slotOf own' q) } (σ.set i (some w)) H p v := by
  unfold Hold at h ⊢
  cases own with
  | false => exact h
  | true =>
    rw [if_pos rfl] at h ⊢
    obtain ⟨a, e, h1, h2, h3, h4⟩ := h
    refine ⟨a, e, h1, h2, h3, fun z => ?_⟩
    rcases ow a z with z | ⟨z1, z2⟩
    · exact h4 z
    · exact ne rfl z1 (e.trans z2.symm)
/-- a value that waits stands in the heap -/
theorem Hold.there {own : Bool} {C : RC} {st : St} {σ : L2.St} {H : Hp} {p : PV} {v : V} (h : Hold own C st σ H p v) (ho : own = true) : ∃ a o, v = .ref a ∧ H a = some o := by
  unfold Hold at h
  rw [if_pos ho] at h
  obtain ⟨a, e, _, _, h3, _⟩ := h
  obtain ⟨o, q⟩ := h3.some
  exact ⟨a, o, e, q⟩
section
variable {G : GP} {X : Cx}
theorem asgs_inv {Φ : Calls} {is : List (Nat × Bool)} {es : List E} {st st' : St} {fl : Flow} (h : ex Φ (.asgs is es) st = .ok (fl, st')) : ∃ ps st1 env, evs Φ es st = .ok (ps, st1) ∧ storeAll is ps st1.env = .ok env ∧ fl = .nx ∧ st' = { st1 with env := env } := by
  rw [ex] at h
  obtain ⟨⟨ps, st1⟩, h1, h⟩ := bindR h
  obtain ⟨env, h2, h⟩ := bindR h
  cases h
  exact ⟨ps, st1, env, h1, h2, rfl, rfl⟩
theorem gone {C C1 : RC} {st st1 : St} {σ : L2.St} {H H1 : Hp} (L : Loc C st σ H C1 st1 H1) {b : Addr} (h : H1 b = none) : H b = none := by
  cases e : H b with
  | none => rfl
  | some o => obtain ⟨o', q⟩ := L.there b o e; rw [h] at q; cases q
theorem storeAll_cons {i : Nat} {o : Bool} {is : List (Nat × Bool)} {p : PV} {ps : List PV} {env env' : List Slot} (h : storeAll ((i, o) :: is) (p :: ps) env = .ok env') : storeAll is ps (env.set i (slotOf o p)) = .ok env' := h
theorem rd_par2 {i j : Nat} {o1 o2 : Bool} {a' b' : E} (ba : isBor a' = false) (bb : isBor b' = false) (fa : o1 = true → freshE G.ff a' = true) (fb : o2 = true → freshE G.ff b' = true) {D : Ends} {σ : L2.St} {H : Hp} (h : rdS G (.asgs [(i, o1), (j, o2)] [a', b']) D σ H) :
    tPar i j (tCons (rd G a') (tCons (rd G b') tNil)) D σ H := by
  obtain ⟨C, st, fl, st', hK, hw, R, hx, q⟩ := h
  obtain ⟨ps, st2, env, h1, h2, rfl, rfl⟩ := asgs_inv hx
  obtain ⟨p1, st1, qs1, e1, h5, rfl⟩ := evs_cons h1
  obtain ⟨p2, st2', qs, e2, h6, rfl⟩ := evs_cons h5
  obtain ⟨rfl, rfl⟩ := evs_nil h6
  have h2 := storeAll_cons (storeAll_cons h2)
  cases (show Res.ok _ = Res.ok env from h2)
  refine ⟨C, st, p1, st1, hK, hw, R, e1, fun v C1 H1 L1 R1 r1 => ?_⟩
  obtain ⟨C1, L1, R1, k1, n1⟩ := hold_of (own := o1) ba fa R L1 R1 r1
  refine ⟨C1, st1, p2, st2, L1.le.k.trans hK, L1.le.w.trans hw, R1, e2, fun w C2 H2 L2 R2 r2 => ?_⟩
  obtain ⟨C2, L2, R2, k2, n2⟩ := hold_of (own := o2) bb fb R1 L2 R2 r2
  refine ⟨v, w, rfl, ?_⟩
  have k1' := k1.later L2
  have ne : o2 = true → o1 = true → w ≠ v := fun t2 t1 e => by
    obtain ⟨a, o, ea, ho⟩ := k1.there t1
    rw [n2 t2 a (e.trans ea)] at ho; cases ho
  obtain ⟨Ra, oa⟩ := k1'.put R2 i
  obtain ⟨Rb, ob⟩ := (k2.other oa ne).put Ra j
  have LL := L1.trans L2
  refine q C2 _ H2 ⟨LL.le, LL.keep, LL.there, LL.fnew, LL.cnew, fun b hb => ?_⟩ Rb
  rcases ob b hb with z | ⟨t2, e⟩
  · rcases oa b z with z | ⟨t1, e⟩
    · exact .inl (LL.ow b z)
    · exact .inr (n1 t1 b e)
  · exact .inr (gone L1 (n2 t2 b e))
theorem rd_par3 {i j l : Nat} {o1 o2 o3 : Bool} {a' b' c' : E} (ba : isBor a' = false) (bb : isBor b' = false) (bc : isBor c' = false) (fa : o1 = true → freshE G.ff a' = true) (fb : o2 = true → freshE G.ff b' = true) (fc : o3 = true → freshE G.ff c' = true) {D : Ends} {σ : L2.St} {H : Hp} (h : rdS G (.asgs [(i, o1), (j, o2), (l, o3)] [a', b', c']) D σ H) :
    tPar3 i j l (tCons (rd G a') (tCons (rd G b') (tCons (rd G c') tNil))) D σ H := by
  obtain ⟨C, st, fl, st', hK, hw, R, hx, q⟩ := h
  obtain ⟨ps, st3, env, h1, h2, rfl, rfl⟩ := asgs_inv hx
  obtain ⟨p1, st1, qs1, e1, h5, rfl⟩ := evs_cons h1
  obtain ⟨p2, st2, qs2, e2, h6, rfl⟩ := evs_cons h5
  obtain ⟨p3, st3', qs, e3, h7, rfl⟩ := evs_cons h6
  obtain ⟨rfl, rfl⟩ := evs_nil h7
  have h2 := storeAll_cons (storeAll_cons (storeAll_cons h2))
  cases (show Res.ok _ = Res.ok env from h2)
  refine ⟨C, st, p1, st1, hK, hw, R, e1, fun v C1 H1 L1 R1 r1 => ?_⟩
  obtain ⟨C1, L1, R1, k1, n1⟩ := hold_of (own := o1) ba fa R L1 R1 r1
  refine ⟨C1, st1, p2, st2, L1.le.k.trans hK, L1.le.w.trans hw, R1, e2, fun w C2 H2 L2 R2 r2 => ?_⟩
  obtain ⟨C2, L2, R2, k2, n2⟩ := hold_of (own := o2) bb fb R1 L2 R2 r2
  refine ⟨C2, st2, p3, st3, L2.le.k.trans (L1.le.k.trans hK), L2.le.w.trans (L1.le.w.trans hw), R2, e3, fun u C3 H3 L3 R3 r3 => ?_⟩
  obtain ⟨C3, L3, R3, k3, n3⟩ := hold_of (own := o3) bc fc R2 L3 R3 r3
  refine ⟨v, w, u, rfl, ?_⟩
  have k1a := k1.later L2
  have k1' := k1a.later L3
  have k2' := k2.later L3
  have ne21 : o2 = true → o1 = true → w ≠ v := fun t2 t1 e => by
    obtain ⟨a, o, ea, ho⟩ := k1.there t1
    rw [n2 t2 a (e.trans ea)] at ho; cases ho
  have ne31 : o3 = true → o1 = true → u ≠ v := fun t3 t1 e => by
    obtain ⟨a, o, ea, ho⟩ := k1a.there t1
    rw [n3 t3 a (e.trans ea)] at ho; cases ho
  have ne32 : o3 = true → o2 = true → u ≠ w := fun t3 t2 e => by
    obtain ⟨a, o, ea, ho⟩ := k2.there t2
    rw [n3 t3 a (e.trans ea)] at ho; cases ho
  obtain ⟨Ra, oa⟩ := k1'.put R3 i
  obtain ⟨Rb, ob⟩ := (k2'.other oa ne21).put Ra j
  obtain ⟨Rc, oc⟩ := ((k3.other oa ne31).other ob ne32).put Rb l
  have LL := (L1.trans L2).trans L3
  refine q C3 _ H3 ⟨LL.le, LL.keep, LL.there, LL.fnew, LL.cnew, fun b hb => ?_⟩ Rc
  rcases oc b hb with z | ⟨t3, e⟩
  · rcases ob b z with z | ⟨t2, e⟩
    · rcases oa b z with z | ⟨t1, e⟩
      · exact .inl (LL.ow b z)
      · exact .inr (n1 t1 b e)
    · exact .inr (gone L1 (n2 t2 b e))
  · exact .inr (gone (L1.trans L2) (n3 t3 b e))
theorem s_par2 (O : XO G X) {i j : Nat} {x y : Str} {a b : Expr} {a' b' : E} {o1 o2 : Bool} {px py pt pos : Pos} {kt k2 pt2} (hi : X.N[i]? = some x) (hj : X.N[j]? = some y) (hij : i ≠ j) (hx : X.env.scope.names.lookup x = some .local) (hy : X.env.scope.names.lookup y = some .local)
    (na : notStar a = true) (nb : notStar b = true) (ha : PE X a (rd G a')) (hb : PE X b (rd G b')) (ba : isBor a' = false) (bb : isBor b' = false) (fa : o1 = true → freshE G.ff a' = true) (fb : o2 = true → freshE G.ff b' = true)
    (hw : swappedStores [.Tuple [.Name x px, .Name y py] kt pt] (.Tuple [a, b] k2 pt2) X.env = pure (some [x, y])) (hs : swapsWithSole [.Tuple [.Name x px, .Name y py] kt pt] (.Tuple [a, b] k2 pt2) pos.line X.env = pure false) :
    PS X (.Assign [.Tuple [.Name x px, .Name y py] kt pt] (.Tuple [a, b] k2 pt2) pos) (rdS G (.asgs [(i, o1), (j, o2)] [a', b'])) :=
  (ps_par O.calm O.nd hi hj hij hx hy (pa_cons ha (pa_cons hb pa_nil (star_cons nb)) (star_cons na)) hw hs).imp fun _ _ _ h => rd_par2 ba bb fa fb h
theorem s_par3 (O : XO G X) {i j l : Nat} {x y z : Str} {a b c : Expr} {a' b' c' : E} {o1 o2 o3 : Bool} {px py pz pt pos : Pos} {kt k2 pt2} (hi : X.N[i]? = some x) (hj : X.N[j]? = some y) (hl : X.N[l]? = some z) (hij : i ≠ j) (hil : i ≠ l) (hjl : j ≠ l)
    (hx : X.env.scope.names.lookup x = some .local) (hy : X.env.scope.names.lookup y = some .local) (hz : X.env.scope.names.lookup z = some .local)
    (na : notStar a = true) (nb : notStar b = true) (nc : notStar c = true) (ha : PE X a (rd G a')) (hb : PE X b (rd G b')) (hc : PE X c (rd G c')) (ba : isBor a' = false) (bb : isBor b' = false) (bc : isBor c' = false) (fa : o1 = true → freshE G.ff a' = true) (fb : o2 = true → freshE G.ff b' = true) (fc : o3 = true → freshE G.ff c' = true)
    (hw : swappedStores [.Tuple [.Name x px, .Name y py, .Name z pz] kt pt] (.Tuple [a, b, c] k2 pt2) X.env = pure (some [x, y, z])) (hs : swapsWithSole [.Tuple [.Name x px, .Name y py, .Name z pz] kt pt] (.Tuple [a, b, c] k2 pt2) pos.line X.env = pure false) :
    PS X (.Assign [.Tuple [.Name x px, .Name y py, .Name z pz] kt pt] (.Tuple [a, b, c] k2 pt2) pos) (rdS G (.asgs [(i, o1), (j, o2), (l, o3)] [a', b', c'])) :=
  (ps_par3 O.calm O.nd hi hj hl hij hil hjl hx hy hz (pa_cons ha (pa_cons hb (pa_cons hc pa_nil (star_cons nc)) (star_cons nb)) (star_cons na)) hw hs).imp fun _ _ _ h => rd_par3 ba bb bc fa fb fc h
/-- a, b = x, y through a tuple: the tuple is nobody's -/
theorem rd_tup2 {i j : Nat} {o1 o2 : Bool} {a' b' : E} (ba : isBor a' = false) (bb : isBor b' = false) (fa : o1 = true → freshE G.ff a' = true) (fb : o2 = true → freshE G.ff b' = true) {D : Ends} {σ : L2.St} {H : Hp} (h : rdS G (.asgs [(i, o1), (j, o2)] [a', b']) D σ H) :
    tAsg (tTup (tCons (rd G a') (tCons (rd G b') tNil))) (gTup G.K 2 (gCons (gName i) (gCons (gName j) gNil))) D σ H := by
  obtain ⟨C, st, fl, st', hK, hw, R, hx, q⟩ := h
  obtain ⟨ps, st2, env, h1, h2, rfl, rfl⟩ := asgs_inv hx
  obtain ⟨p1, st1, qs1, e1, h5, rfl⟩ := evs_cons h1
  obtain ⟨p2, st2', qs, e2, h6, rfl⟩ := evs_cons h5
  obtain ⟨rfl, rfl⟩ := evs_nil h6
  have h2 := storeAll_cons (storeAll_cons h2)
  cases (show Res.ok _ = Res.ok env from h2)
  refine ⟨C, st, p1, st1, hK, hw, R, e1, fun v C1 H1 L1 R1 r1 => ?_⟩
  obtain ⟨C1, L1, R1, k1, n1⟩ := hold_of (own := o1) ba fa R L1 R1 r1
  refine ⟨C1, st1, p2, st2, L1.le.k.trans hK, L1.le.w.trans hw, R1, e2, fun w C2 H2 L2 R2 r2 => ?_⟩
  obtain ⟨C2, L2, R2, k2, n2⟩ := hold_of (own := o2) bb fb R1 L2 R2 r2
  refine ⟨by rw [sizeLine_eq]; simp, fun p hp => ⟨p, [v, w], rfl, .inl (.of upd_same), rfl, v, [w], rfl, w, [], rfl, rfl, ?_⟩⟩
  have g := Grow.newOwn (o := .tup [v, w]) R2.sub hp
  have R3 := g.rel R2
  have L3 : Loc C2 st2 σ H2 C2 st2 (upd H2 p (.tup [v, w])) := g.loc
  have k1' := (k1.later L2).later L3
  have k2' := k2.later L3
  have ne : o2 = true → o1 = true → w ≠ v := fun t2 t1 e => by
    obtain ⟨a, o, ea, ho⟩ := k1.there t1
    rw [n2 t2 a (e.trans ea)] at ho; cases ho
  obtain ⟨Ra, oa⟩ := k1'.put R3 i
  obtain ⟨Rb, ob⟩ := (k2'.other oa ne).put Ra j
  have LL := (L1.trans L2).trans L3
  refine q C2 _ _ ⟨LL.le, LL.keep, LL.there, LL.fnew, LL.cnew, fun b hb => ?_⟩ Rb
  rcases ob b hb with z | ⟨t2, e⟩
  · rcases oa b z with z | ⟨t1, e⟩
    · exact .inl (LL.ow b z)
    · exact .inr (n1 t1 b e)
  · exact .inr (gone L1 (n2 t2 b e))
theorem s_tup2 (O : XO G X) {i j : Nat} {x y : Str} {a b : Expr} {a' b' : E} {o1 o2 : Bool} {px py pt pos : Pos} {kt k2 pt2} (hx : PG X (.Name x px) (gName i)) (hy : PG X (.Name y py) (gName j))
    (na : notStar a = true) (nb : notStar b = true) (ha : PE X a (rd G a')) (hb : PE X b (rd G b')) (ba : isBor a' = false) (bb : isBor b' = false) (fa : o1 = true → freshE G.ff a' = true) (fb : o2 = true → freshE G.ff b' = true)
    (hw : swappedStores [.Tuple [.Name x px, .Name y py] kt pt] (.Tuple [a, b] k2 pt2) X.env = pure none) (hs : swapsWithSole [.Tuple [.Name x px, .Name y py] kt pt] (.Tuple [a, b] k2 pt2) pos.line X.env = pure false) :
    PS X (.Assign [.Tuple [.Name x px, .Name y py] kt pt] (.Tuple [a, b] k2 pt2) pos) (rdS G (.asgs [(i, o1), (j, o2)] [a', b'])) :=
  (ps_asg (pe_tup (pa_cons ha (pa_cons hb pa_nil (star_cons nb)) (star_cons na))) (pg_tup O.calm (pgs_cons hx (pgs_cons hy pgs_nil))) hs hw rfl).imp fun _ _ _ h => by
    have := rd_tup2 ba bb fa fb h
    rw [← O.hK] at this
    exact this
/-- .. three of them -/
theorem rd_tup3 {i j l : Nat} {o1 o2 o3 : Bool} {a' b' c' : E} (ba : isBor a' = false) (bb : isBor b' = false) (bc : isBor c' = false) (fa : o1 = true → freshE G.ff a' = true) (fb : o2 = true → freshE G.ff b' = true) (fc : o3 = true → freshE G.ff c' = true) {D : Ends} {σ : L2.St} {H : Hp} (h : rdS G (.asgs [(i, o1), (j, o2), (l, o3)] [a', b', c']) D σ H) :
    tAsg (tTup (tCons (rd G a') (tCons (rd G b') (tCons (rd G c') tNil)))) (gTup G.K 3 (gCons (gName i) (gCons (gName j) (gCons (gName l) gNil)))) D σ H := by
  obtain ⟨C, st, fl, st', hK, hw, R, hx, q⟩ := h
  obtain ⟨ps, st3, env, h1, h2, rfl, rfl⟩ := asgs_inv hx
  obtain ⟨p1, st1, qs1, e1, h5, rfl⟩ := evs_cons h1
  obtain ⟨p2, st2, qs2, e2, h6, rfl⟩ := evs_cons h5
  obtain ⟨p3, st3', qs, e3, h7, rfl⟩ := evs_cons h6
  obtain ⟨rfl, rfl⟩ := evs_nil h7
  have h2 := storeAll_cons (storeAll_cons (storeAll_cons h2))
  cases (show Res.ok _ = Res.ok env from h2)
  refine ⟨C, st, p1, st1, hK, hw, R, e1, fun v C1 H1 L1 R1 r1 => ?_⟩
  obtain ⟨C1, L1, R1, k1, n1⟩ := hold_of (own := o1) ba fa R L1 R1 r1
  refine ⟨C1, st1, p2, st2, L1.le.k.trans hK, L1.le.w.trans hw, R1, e2, fun w C2 H2 L2 R2 r2 => ?_⟩
  obtain ⟨C2, L2, R2, k2, n2⟩ := hold_of (own := o2) bb fb R1 L2 R2 r2
  refine ⟨C2, st2, p3, st3, L2.le.k.trans (L1.le.k.trans hK), L2.le.w.trans (L1.le.w.trans hw), R2, e3, fun u C3 H3 L3 R3 r3 => ?_⟩
  obtain ⟨C3, L3, R3, k3, n3⟩ := hold_of (own := o3) bc fc R2 L3 R3 r3
  refine ⟨by rw [sizeLine_eq]; simp, fun p hp => ⟨p, [v, w, u], rfl, .inl (.of upd_same), rfl, v, [w, u], rfl, w, [u], rfl, u, [], rfl, rfl, ?_⟩⟩
  have g := Grow.newOwn (o := .tup [v, w, u]) R3.sub hp
  have R4 := g.rel R3
  have L4 : Loc C3 st3 σ H3 C3 st3 (upd H3 p (.tup [v, w, u])) := g.loc
  have k1a := k1.later L2
  have k1' := (k1a.later L3).later L4
  have k2' := (k2.later L3).later L4
  have k3' := k3.later L4
  have ne21 : o2 = true → o1 = true → w ≠ v := fun t2 t1 e => by
    obtain ⟨a, o, ea, ho⟩ := k1.there t1
    rw [n2 t2 a (e.trans ea)] at ho; cases ho
  have ne31 : o3 = true → o1 = true → u ≠ v := fun t3 t1 e => by
    obtain ⟨a, o, ea, ho⟩ := k1a.there t1
    rw [n3 t3 a (e.trans ea)] at ho; cases ho
  have ne32 : o3 = true → o2 = true → u ≠ w := fun t3 t2 e => by
    obtain ⟨a, o, ea, ho⟩ := k2.there t2
    rw [n3 t3 a (e.trans ea)] at ho; cases ho
  obtain ⟨Ra, oa⟩ := k1'.put R4 i
  obtain ⟨Rb, ob⟩ := (k2'.other oa ne21).put Ra j
  obtain ⟨Rc, oc⟩ := ((k3'.other oa ne31).other ob ne32).put Rb l
  have LL := ((L1.trans L2).trans L3).trans L4
  refine q C3 _ _ ⟨LL.le, LL.keep, LL.there, LL.fnew, LL.cnew, fun b hb => ?_⟩ Rc
  rcases oc b hb with z | ⟨t3, e⟩
  · rcases ob b z with z | ⟨t2, e⟩
    · rcases oa b z with z | ⟨t1, e⟩
      · exact .inl (LL.ow b z)
      · exact .inr (n1 t1 b e)
    · exact .inr (gone L1 (n2 t2 b e))
  · exact .inr (gone (L1.trans L2) (n3 t3 b e))
theorem s_tup3 (O : XO G X) {i j l : Nat} {x y z : Str} {a b c : Expr} {a' b' c' : E} {o1 o2 o3 : Bool} {px py pz pt pos : Pos} {kt k2 pt2} (hx : PG X (.Name x px) (gName i)) (hy : PG X (.Name y py) (gName j)) (hz : PG X (.Name z pz) (gName l))
    (na : notStar a = true) (nb : notStar b = true) (nc : notStar c = true) (ha : PE X a (rd G a')) (hb : PE X b (rd G b')) (hc : PE X c (rd G c')) (ba : isBor a' = false) (bb : isBor b' = false) (bc : isBor c' = false) (fa : o1 = true → freshE G.ff a' = true) (fb : o2 = true → freshE G.ff b' = true) (fc : o3 = true → freshE G.ff c' = true)
    (hw : swappedStores [.Tuple [.Name x px, .Name y py, .Name z pz] kt pt] (.Tuple [a, b, c] k2 pt2) X.env = pure none) (hs : swapsWithSole [.Tuple [.Name x px, .Name y py, .Name z pz] kt pt] (.Tuple [a, b, c] k2 pt2) pos.line X.env = pure false) :
    PS X (.Assign [.Tuple [.Name x px, .Name y py, .Name z pz] kt pt] (.Tuple [a, b, c] k2 pt2) pos) (rdS G (.asgs [(i, o1), (j, o2), (l, o3)] [a', b', c'])) :=
  (ps_asg (pe_tup (pa_cons ha (pa_cons hb (pa_cons hc pa_nil (star_cons nc)) (star_cons nb)) (star_cons na))) (pg_tup O.calm (pgs_cons hx (pgs_cons hy (pgs_cons hz pgs_nil)))) hs hw rfl).imp fun _ _ _ h => by
    have := rd_tup3 ba bb bc fa fb fc h
    rw [← O.hK] at this
    exact this
end
end Py
end

section
set_option Elab.async false
set_option linter.all false
set_option autoImplicit false
set_option maxRecDepth 100000
/-! dict(a list of pairs). -/
namespace Py
open PySem PySem.Spec PyProof.Rows L2

theorem dictOf_cons {acc : List (PV × PV)} {p : PV × PV} {ps d : List (PV × PV)} (h : dictOf acc (p :: ps) = .ok d) : kOk acc p.1 = true ∧ dictOf (dset acc p.1 p.2) ps = .ok d := Res.of_ok h
/-- what the pairs' keys have in common -/
structure KAcc (n : Nat) (kvs : List (PV × PV)) : Prop where
  keys : ∀ p ∈ kvs, PV.keyOk p.1 = true ∧ PV.depth p.1 ≤ 8
  kind : ∀ p ∈ kvs, PV.kkind p.1 = n
  nodup : (kvs.map fun p => PV.nk p.1).Nodup
theorem KAcc.nil (n : Nat) : KAcc n [] := ⟨(fun _ h => nomatch h), (fun _ h => nomatch h), List.nodup_nil⟩
theorem KAcc.set {n : Nat} {kvs : List (PV × PV)} (h : KAcc n kvs) {k y : PV} (h1 : k.keyOk = true ∧ k.depth ≤ 8) (h2 : k.kkind = n) : KAcc n (dset kvs k y) :=
  ⟨dset_key h.keys h1, dset_kind h.kind h2, dset_nodup (nk_iff h.keys h1.1) h.nodup⟩
theorem dictOf_kinds {n : Nat} (hn : n ≤ 2) : ∀ {ps acc d : List (PV × PV)}, KAcc n acc → acc ≠ [] → dictOf acc ps = .ok d → (∀ p ∈ ps, (p.1.keyOk = true ∧ p.1.depth ≤ 8) ∧ p.1.kkind = n) ∧ KAcc n d ∧ d.length ≤ acc.length + ps.length
  | [], acc, d, ha, _, h => by cases (show Res.ok acc = Res.ok d from h); exact ⟨fun _ h => (nomatch h), ha, Nat.le_refl _⟩
  | p :: ps, acc, d, ha, hne, h => by
    obtain ⟨h1, h2⟩ := dictOf_cons h
    obtain ⟨k1, k2, k3, k4⟩ := kOk_ok h1 ⟨n, hn, ha.kind⟩
    have kk : p.1.kkind = n := by
      cases acc with
      | nil => exact absurd rfl hne
      | cons q r => rw [← k4 q List.mem_cons_self]; exact ha.kind q List.mem_cons_self
    obtain ⟨g1, g2, g3⟩ := dictOf_kinds hn (ha.set (y := p.2) ⟨k1, k2⟩ kk) (fun e => by
      have := congrArg List.length e
      unfold dset at this
      split at this
      · rw [List.length_map] at this; cases acc with
        | nil => exact hne rfl
        | cons q r => simp at this
      · simp at this) h2
    refine ⟨fun q hq => ?_, g2, ?_⟩
    · rcases List.mem_cons.mp hq with rfl | hq
      · exact ⟨⟨k1, k2⟩, kk⟩
      · exact g1 q hq
    · have := dset_len acc p.1 p.2
      rw [List.length_cons]; omega
/-- all pairs of one kind -/
theorem dictOf_kind {ps d : List (PV × PV)} (h : dictOf [] ps = .ok d) : ∃ n, n ≤ 2 ∧ (∀ p ∈ ps, (p.1.keyOk = true ∧ p.1.depth ≤ 8) ∧ p.1.kkind = n) ∧ KAcc n d ∧ d.length ≤ ps.length := by
  cases ps with
  | nil => cases (show Res.ok [] = Res.ok d from h); exact ⟨0, Nat.zero_le _, fun _ h => (nomatch h), KAcc.nil 0, Nat.le_refl _⟩
  | cons p ps =>
    obtain ⟨h1, h2⟩ := dictOf_cons h
    obtain ⟨k1, k2, k3, _⟩ := kOk_ok h1 ⟨0, Nat.zero_le _, fun _ h => (nomatch h)⟩
    obtain ⟨g1, g2, g3⟩ := dictOf_kinds k3 ((KAcc.nil p.1.kkind).set (y := p.2) ⟨k1, k2⟩ rfl) (by intro e; cases e) h2
    refine ⟨p.1.kkind, k3, fun q hq => ?_, g2, ?_⟩
    · rcases List.mem_cons.mp hq with rfl | hq
      · exact ⟨⟨k1, k2⟩, rfl⟩
      · exact g1 q hq
    · have := dset_len [] p.1 p.2
      rw [List.length_cons]
      simp only [List.length_nil] at this
      omega
theorem dictOf_acc : ∀ {ps acc d : List (PV × PV)}, dictOf acc ps = .ok d → d = dmerge acc ps
  | [], acc, d, h => by cases (show Res.ok acc = Res.ok d from h); rfl
  | p :: ps, acc, d, h => by
    have h2 := (dictOf_cons h).2
    exact dictOf_acc (ps := ps) h2
theorem trel_merge {C : RC} : ∀ {ps : List (PV × PV)} {qs : List (NestedKey × Addr × Value)} {acc : List (PV × PV)} {ts : List (NestedKey × Addr × Value)}, TRel C ps qs → TRel C acc ts → KAcc 0 acc → (∀ p ∈ ps, (p.1.keyOk = true ∧ p.1.depth ≤ 8) ∧ p.1.kkind = 0) →
    TRel C (dmerge acc ps) (PySem.storedAllH ts qs) := by
  intro ps
  induction ps with
  | nil => intro qs acc ts h ht ha hk; cases (show qs = [] from h); exact ht
  | cons p ps ih =>
    intro qs acc ts h ht ha hk
    obtain ⟨k, x⟩ := p
    obtain ⟨a, u, r, rfl, h1, h2, h3⟩ := h
    have hp := hk (k, x) List.mem_cons_self
    exact ih (qs := r) h3 (ht.stored h1 h2 (nk_iff ha.keys hp.1.1)) (ha.set hp.1 hp.2) fun q hq => hk q (List.mem_cons_of_mem _ hq)
theorem prel_merge {κ : Type} [DecidableEq κ] {P : Program} {w : World} {L : LK P w κ} {C : RC} : ∀ {ps : List (PV × PV)} {qs : List (κ × Value)} {acc : List (PV × PV)} {ts : List (κ × Value)}, PRel L C ps qs → PRel L C acc ts → KAcc L.n acc → (∀ p ∈ ps, (p.1.keyOk = true ∧ p.1.depth ≤ 8) ∧ p.1.kkind = L.n) →
    PRel L C (dmerge acc ps) (merged ts qs) := by
  intro ps
  induction ps with
  | nil => intro qs acc ts h ht ha hk; cases (show qs = [] from h); exact ht
  | cons p ps ih =>
    intro qs acc ts h ht ha hk
    obtain ⟨k, x⟩ := p
    obtain ⟨u, r, rfl, h2, h3⟩ := h
    have hp := hk (k, x) List.mem_cons_self
    exact ih (qs := r) h3 (ht.stored h2 fun q hq => L.iff (ha.kind q hq) hp.2) (ha.set hp.1 hp.2) fun q hq => hk q (List.mem_cons_of_mem _ hq)
/-- pairs beside their tuples' addresses and sides -/
def PrRel (C : RC) (h : Heap) : List (PV × PV) → List Addr → List (Value × Value) → Prop
  | [], bs, qs => bs = [] ∧ qs = []
  | p :: ps, bs, qs => ∃ b r q t, bs = b :: r ∧ qs = q :: t ∧ h.IsTuple b #[q.1, q.2] ∧ (∃ z, RelV z q.1 ∧ Rep C p.1 z) ∧ (∃ z, RelV z q.2 ∧ Rep C p.2 z) ∧ PrRel C h ps r t
section
variable {G : GP} {X : Cx} {pins : List (Addr × Obj)} {s : Shared} {σ : L2.St} {H : Hp} {C : RC}
theorem pairs_of (I : Inv X pins σ H s) (ek : C.K = X.K) (hF : SubH C H) : ∀ {xs : List PV} {ps : List (PV × PV)} {vs : List V} {us : List Value}, xs.mapM pairOf = some ps → Reps C xs vs → Vals vs us → ∃ bs qs, us = bs.map Value.ref ∧ PrRel C s.heap ps bs qs
  | [], ps, vs, us, h, r, rv => by
    cases h
    rw [Reps.nil_inv r] at rv
    cases rv
    exact ⟨[], [], rfl, rfl, rfl⟩
  | x :: xs, ps, vs, us, h, r, rv => by
    rw [List.mapM_cons] at h
    obtain ⟨p, h1, h⟩ := Option.bind_eq_some_iff.mp h
    obtain ⟨ps', h2, h⟩ := Option.bind_eq_some_iff.mp h
    cases h
    obtain ⟨v, t, rfl, r1, r2⟩ := r.cons_inv
    cases rv with
    | cons rv1 rv2 =>
      obtain ⟨bs, qs, e, hp⟩ := pairs_of I ek hF h2 r2 rv2
      match x, h1, r1 with
      | .tup [a, b], h1, r1 =>
        cases h1
        obtain ⟨c, ws, rfl, hs, rr⟩ := r1
        obtain ⟨w1, t1, rfl, q1, rr⟩ := rr.cons_inv
        obtain ⟨w2, t2, rfl, q2, rr⟩ := rr.cons_inv
        cases rr.nil_inv
        cases rv1
        obtain ⟨its, rt, it, _⟩ := I.tuple (ek ▸ sqT_le hF hs)
        obtain ⟨u1, u2, rfl, k1, k2⟩ := rt.two
        exact ⟨c :: bs, (u1, u2) :: qs, by rw [e, List.map_cons], c, bs, (u1, u2), qs, rfl, rfl, it, ⟨w1, k1, q1⟩, ⟨w2, k2, q2⟩, hp⟩
theorem PrRel.len {h : Heap} : ∀ {ps : List (PV × PV)} {bs : List Addr} {qs : List (Value × Value)}, PrRel C h ps bs qs → bs.length = ps.length ∧ qs.length = ps.length
  | [], _, _, ⟨rfl, rfl⟩ => ⟨rfl, rfl⟩
  | p :: ps, _, _, ⟨b, r, q, t, rfl, rfl, _, _, _, h⟩ => by
    obtain ⟨h1, h2⟩ := h.len
    exact ⟨by rw [List.length_cons, List.length_cons, h1], by rw [List.length_cons, List.length_cons, h2]⟩
theorem PrRel.get {h : Heap} : ∀ {ps : List (PV × PV)} {bs : List Addr} {qs : List (Value × Value)}, PrRel C h ps bs qs → ∀ {j : Nat} {q : Value × Value}, qs[j]? = some q → ∃ b, bs[j]? = some b ∧ h.IsTuple b #[q.1, q.2]
  | [], _, _, ⟨rfl, rfl⟩, j, q, e => by simp at e
  | p :: ps, _, _, ⟨b, r, q0, t, rfl, rfl, h1, _, _, h⟩, j, q, e => by
    cases j with
    | zero => simp at e; subst e; exact ⟨b, rfl, h1⟩
    | succ j => simp at e; simpa using h.get e
theorem PrRel.tups {h : Heap} : ∀ {ps : List (PV × PV)} {bs : List Addr} {qs : List (Value × Value)}, PrRel C h ps bs qs → (∀ p ∈ ps, p.1.kkind = 0) → ∃ ts : List (NestedKey × Addr × Value), TRel C ps ts ∧ ts.length = ps.length ∧ ∀ (i : Nat) (k v : Value), qs[i]? = some (k, v) → ∃ (n : NestedKey) (b : Addr), ts[i]? = some (n, b, v) ∧ k = Value.ref b
  | [], _, _, ⟨rfl, rfl⟩, _ => ⟨[], rfl, rfl, fun i k v e => by simp at e⟩
  | (k, x) :: ps, _, _, ⟨b, r, q, t, rfl, rfl, _, ⟨z, z1, z2⟩, h3, h⟩, hz => by
    obtain ⟨ts, t1, t2, t3⟩ := h.tups fun p hp => hz p (List.mem_cons_of_mem _ hp)
    obtain ⟨c, rfl, e⟩ := z2.tupRef (hz (k, x) List.mem_cons_self) z1
    refine ⟨(k.nk, c, q.2) :: ts, ⟨c, q.2, ts, rfl, z2, h3, t1⟩, by rw [List.length_cons, List.length_cons, t2], fun i k' v e' => ?_⟩
    cases i with
    | zero => simp at e'; subst e'; exact ⟨k.nk, c, rfl, e⟩
    | succ i => simp at e'; simpa using t3 i k' v e'
theorem PrRel.leafs {κ : Type} [DecidableEq κ] {P : Program} {w : World} (L : LK P w κ) {h : Heap} : ∀ {ps : List (PV × PV)} {bs : List Addr} {qs : List (Value × Value)}, PrRel C h ps bs qs → (∀ p ∈ ps, p.1.kkind = L.n) → ∃ ts : List (κ × Value), PRel L C ps ts ∧ ts.length = ps.length ∧ ∀ (i : Nat) (k v : Value), qs[i]? = some (k, v) → ∃ n : κ, ts[i]? = some (n, v) ∧ L.knd.is n k = true
  | [], _, _, ⟨rfl, rfl⟩, _ => ⟨[], rfl, rfl, fun i k v e => by simp at e⟩
  | (k, x) :: ps, _, _, ⟨b, r, q, t, rfl, rfl, _, ⟨z, z1, z2⟩, h3, h⟩, hz => by
    obtain ⟨ts, t1, t2, t3⟩ := h.leafs L fun p hp => hz p (List.mem_cons_of_mem _ hp)
    refine ⟨(L.f k, q.2) :: ts, ⟨q.2, ts, rfl, h3, t1⟩, by rw [List.length_cons, List.length_cons, t2], fun i k' v e' => ?_⟩
    cases i with
    | zero => simp at e'; subst e'; exact ⟨L.f k, rfl, L.is (hz (k, x) List.mem_cons_self) z2 z1⟩
    | succ i => simp at e'; simpa using t3 i k' v e'
theorem dict_inv {cup : Option (Int × Int)} {ps : List PV} {r : PV} (h : opV cup (.bif .dict) ps = .ok r) : ∃ xs ks d, ps = [.lst xs] ∧ xs.mapM pairOf = some ks ∧ dictOf [] ks = .ok d ∧ r = .dct d := by
  replace h : bifV .dict ps = .ok r := h
  cases ps with
  | nil => exact nomatch h
  | cons p ps =>
    cases ps with
    | nil =>
      have h' : ((Res.ofOpt (lstOf p)).bind fun xs => (Res.ofOpt (xs.mapM pairOf)).bind fun ps => (dictOf [] ps).bind fun d => Res.ok (PV.dct d)) = .ok r := by cases p <;> exact h
      obtain ⟨xs, h1, h'⟩ := bindR h'
      obtain ⟨ks, h2, h'⟩ := bindR h'
      obtain ⟨d, h3, h'⟩ := bindR h'
      cases h'
      have h1 := Res.ofOpt_ok h1
      cases p <;> first | (cases h1; exact ⟨_, _, _, rfl, Res.ofOpt_ok h2, h3, rfl⟩) | exact nomatch h1
    | cons q ps => exfalso; cases p <;> exact nomatch h
theorem trel_get : ∀ {ps : List (PV × PV)} {ts : List (NestedKey × Addr × Value)}, TRel C ps ts → ∀ {i : Nat} {y : NestedKey × Addr × Value}, ts[i]? = some y → ∃ p ∈ ps, y.1 = p.1.nk ∧ Rep C p.1 (.ref y.2.1)
  | [], _, h, i, y, e => by rw [show _ = [] from h] at e; simp at e
  | (k, x) :: ps, ts, h, i, y, e => by
    obtain ⟨a, u, r, rfl, h1, _, h3⟩ := h
    cases i with
    | zero => simp at e; subst e; exact ⟨(k, x), List.mem_cons_self, rfl, h1⟩
    | succ i =>
      simp at e
      obtain ⟨p, hp, q⟩ := trel_get h3 e
      exact ⟨p, List.mem_cons_of_mem _ hp, q⟩
theorem new_dct {w : World} (hF : SubH C H) {a : Addr} (ha : H a = none) {ob : Obj} {es : List DictEntry} {kvs : List (PV × PV)} (h1 : DOb C.w a ob es kvs) (h2 : RepE C kvs es) :
    Grow C H C (upd H a (.ext (IsOb a ob))) ∧ OutR true C H (upd H a (.ext (IsOb a ob))) (.dct kvs) (.ref a) := by
  refine ⟨Grow.newOwn hF ha _, ?_⟩
  unfold OutR
  rw [if_pos rfl]
  refine ⟨a, rfl, ha, ?_, ob, es, upd_same, h1, h2⟩
  cases e : C.F a with
  | none => rfl
  | some u => have := hF a u e; rw [ha] at this; cases this
theorem u_dict (O : XO G X) : CallR X (.type "dict") (fun xs H Q => UO G (.bif .dict) xs H Q) := by
  intro pins s σ H xs us Q I rs h
  obtain ⟨C, ps, r, cup, eK, ew, hF, hcu, hsr, ho, q⟩ := h
  have ek : C.K = X.K := eK.trans O.hK.symm
  have eW : C.w = X.w := ew.trans O.hw.symm
  obtain ⟨ys, ks, d, e, h1, h2, rfl⟩ := dict_inv ho
  obtain ⟨x, rfl, sr⟩ := hsr.oneV e
  obtain ⟨a, vs, rfl, k1, r1⟩ := sr
  obtain ⟨u, rfl, rx⟩ := rs.one
  cases rx
  obtain ⟨its, rv, ⟨o, n, h3, h4, h5, h6⟩, hz⟩ := I.list (.of k1)
  obtain ⟨bs, qs, rfl, pr⟩ := pairs_of I ek hF h1 r1 rv
  obtain ⟨l1, l2⟩ := pr.len
  have hl := rv.length
  rw [List.length_map] at hl
  have hsz : qs.length ≤ sizeLine := by omega
  have PA := PySem.PairArg.list (prog := X.prog) (w := X.w) a (bs.map Value.ref).toArray (fun j => bs.getD j 0) qs
  have ok : PySem.PlainSeq "list" s.heap a (bs.map Value.ref).toArray ∧ PySem.PairItems s.heap (bs.map Value.ref).toArray (fun j => bs.getD j 0) qs := by
    refine ⟨⟨o, n, h3, h4, h5, h6⟩, by rw [List.size_toArray, List.length_map]; omega, fun j k v e => ?_⟩
    obtain ⟨b, e1, e2⟩ := pr.get e
    refine ⟨?_, .inl ?_⟩
    · rw [List.getElem?_toArray, List.getElem?_map, e1]
      show some (Value.ref b) = some (.ref (bs.getD j 0))
      rw [List.getD_eq_getElem?_getD, e1]; rfl
    · show s.heap.IsTuple (bs.getD j 0) #[k, v]
      rw [List.getD_eq_getElem?_getD, e1]; exact e2
  have hfr : s.heap.get? s.heap.objs.size = none := by
    cases e : s.heap.get? s.heap.objs.size with
    | none => rfl
    | some o => exact absurd (Heap.lt_size e) (Nat.lt_irrefl _)
  have hp := hp_none I.hok hfr
  have hsys : (s.heap.objs.size == sysModules) = false := beq_eq_false_iff_ne.mpr (Ne.symm (Nat.ne_of_lt I.big))
  obtain ⟨kn, hn, hks, ha, hdl⟩ := dictOf_kind h2
  have hdl' : d.length ≤ LIM := by rw [LIM_eq]; omega
  have hd := dictOf_acc h2
  have fin : ∀ (h' : Heap) (tk : Nat), (∀ b o, s.heap.get? b = some o → h'.get? b = some o) → (∃ ob es, h'.get? s.heap.objs.size = some ob ∧ DOb C.w s.heap.objs.size ob es d ∧ RepE C d es) → EP X pins σ Q (.ref s.heap.objs.size) { s with heap := h', toks := tk } := fun h' tk hk ⟨ob, es, g1, g2, g3⟩ => by
    refine ⟨.ref s.heap.objs.size, _, I.laidN (a := s.heap.objs.size) (o := .ext (IsOb s.heap.objs.size ob)) (t' := tk) hk hfr hp ⟨g1, ⟨_, g1⟩, fun h1 h2 e k => k _ e⟩, rfl, ?_⟩
    obtain ⟨g, r'⟩ := new_dct (w := X.w) hF hp g2 g3
    exact q _ C _ g r'
  have hun := O.units
  rcases kinds hn with rfl | rfl | rfl
  · obtain ⟨ts, t1, t2, t3⟩ := pr.tups fun p hp => (hks p hp).2
    refine PySem.call_dict_pairsH (knd := nestedKind X.prog X.w) (ps := ts) PA (I.ok.hd O.calm) (show X.A.units + 1 + 1 + 8 < cLine by omega) ok ⟨by rw [t2, l2], fun i k v e => t3 i k v e⟩ (fun h' hk y hy => ?_) hsz fun h' tk hd' hk => fin h' tk (fun b o e => hk b o (by simp) e) ?_
    · obtain ⟨i, hi, rfl⟩ := List.mem_iff_getElem.mp hy
      have hy' : ts[i]? = some ts[i] := List.getElem?_eq_getElem hi
      obtain ⟨p, hp1, hp2⟩ := trel_get t1 hy'
      rw [hp2.1]
      have hkp := (hks p hp1).1
      refine nestedKind_stays.stays (fun b o vs n hb hc => hk b o (fun z => ?_) (by simp) hb) ⟨Rep.nested I ek hF p.1 _ _ hkp.1 hp2.2 rfl, by rw [PV.nk_depth _ hkp.1]; exact hkp.2⟩
      subst z
      rw [hfr] at hb; cases hb
    · have tm := trel_merge t1 (show TRel C [] [] from rfl) (KAcc.nil 0) hks
      rw [← hd] at tm
      exact back_tups eW hd' tm hsys hdl' ha.keys ha.kind ha.nodup
  · obtain ⟨ts, t1, t2, t3⟩ := pr.leafs (intLK X.prog X.w) fun p hp => (hks p hp).2
    refine PySem.call_dict_pairs (knd := (intLK X.prog X.w).knd) (kvs := ts) PA (I.ok.hd O.calm) ok ⟨by rw [t2, l2], fun i k v e => t3 i k v e⟩ hsz fun h' tk hd' hk => fin h' tk (fun b o e => hk b o (by simp) e) ?_
    have tm := prel_merge t1 (show PRel (intLK X.prog X.w) C [] [] from rfl) (KAcc.nil _) hks
    rw [← hd] at tm
    exact back_leafs (L := intLK X.prog X.w) eW hd' tm hsys hdl' ha.kind (show (1 : Nat) ≤ 2 by omega) ha.nodup
  · obtain ⟨ts, t1, t2, t3⟩ := pr.leafs (strLK X.prog X.w) fun p hp => (hks p hp).2
    refine PySem.call_dict_pairs (knd := (strLK X.prog X.w).knd) (kvs := ts) PA (I.ok.hd O.calm) ok ⟨by rw [t2, l2], fun i k v e => t3 i k v e⟩ hsz fun h' tk hd' hk => fin h' tk (fun b o e => hk b o (by simp) e) ?_
    have tm := prel_merge t1 (show PRel (strLK X.prog X.w) C [] [] from rfl) (KAcc.nil _) hks
    rw [← hd] at tm
    exact back_leafs (L := strLK X.prog X.w) eW hd' tm hsys hdl' ha.kind (show (2 : Nat) ≤ 2 by omega) ha.nodup
end
end Py
end

section
set_option Elab.async false
set_option linter.all false
set_option autoImplicit false
set_option maxRecDepth 100000
/-! Comprehensions of dicts. -/
namespace Py
open PySem PySem.Spec PyProof.Rows L2

/-- D[k] = v within a comprehension's block -/
abbrev TDs := Addr → V → V → Hp → (Hp → Prop) → Prop
def PDs (X : Cx) (d : TDs) : Prop := ∀ (pins : List (Addr × Obj)) (s : Shared) (σ : L2.St) (H : Hp) (D : Addr) (k v : V) (ku vu : Value) (Q : Hp → Prop), Inv X pins σ H s → RelV k ku → RelV v vu → d D k v H Q →
  wpAny (model X.prog X.w) X.A (dictSet D ku vu) (fun _ s' => ∃ H', Inv X pins σ H' s' ∧ Q H') (fun _ _ => False) s
/-- the object of a new dict -/
def eob : Obj := { cls := .type "dict", data := .dict #[] }
abbrev TBlk := Shared → Hp → Addr → List (Str × Addr) → List Addr → Prop
def tDc (wi : TI) (g : TG) (tt : TT) (tk tv : TE) (d : TDs) (vs : List Nat) : TE := fun σ H Q => wi σ H fun J H1 => ∀ D, H1 D = none → (D == sysModules) = false → ∃ W : Nat → Nat → Hp → Prop, (∃ m, W 0 m (upd H1 D (.ext (IsOb D eob)))) ∧ ∀ i m H, W i m H →
  (J.stop i H ∧ Q (.ref D) H) ∨ (J.go i H ∧ ∃ Nx : Hp → Prop, (∀ H', Nx H' → ∃ m', m' < m ∧ W (i + 1) m' H') ∧ ∀ x H', J.yld i H x H' → g x (L2.wipe σ vs) H' fun σ2 H2 => L2.wipe σ2 vs = L2.wipe σ vs ∧ tt σ2 H2 fun b H3 =>
    if b = true then tk σ2 H3 fun y H4 => tv σ2 H4 fun z H5 => d D y z H5 Nx else Nx H3)
section
variable {X : Cx} {kx vx tg iter : Expr} {ifs : List Expr} {scope : Scope} {own : List (Str × Nat)} {pos : Pos} {wi : TI} {g : TG} {tt : TT} {tk tv : TE} {d : TDs}
/-- what is asked of a comprehension's parts -/
structure DcP (X : Cx) (kx vx tg iter : Expr) (ifs : List Expr) (scope : Scope) (own : List (Str × Nat)) (wi : TI) (g : TG) (tt : TT) (tk tv : TE) (d : TDs) : Prop where
  hc : X.calm = true
  hN : X.N.Nodup
  hi : PI X tg iter wi
  ok : BlkOk X.N X.env.scope scope own
  hg : ∀ (s : Shared) (H : Hp) (C : Addr) (cl : List (Str × Addr)) (fp : List Addr), PG (X.blk s H scope (compEnvC scope cl C X.env) fp) tg g
  ht : ∀ (s : Shared) (H : Hp) (C : Addr) (cl : List (Str × Addr)) (fp : List Addr), PTs (X.blk s H scope (compEnvC scope cl C X.env) fp) ifs tt
  hk : ∀ (s : Shared) (H : Hp) (C : Addr) (cl : List (Str × Addr)) (fp : List Addr), PE (X.blk s H scope (compEnvC scope cl C X.env) fp) kx tk
  hv : ∀ (s : Shared) (H : Hp) (C : Addr) (cl : List (Str × Addr)) (fp : List Addr), PE (X.blk s H scope (compEnvC scope cl C X.env) fp) vx tv
  hd : ∀ (s : Shared) (H : Hp) (C : Addr) (cl : List (Str × Addr)) (fp : List Addr), PDs (X.blk s H scope (compEnvC scope cl C X.env) fp) d
  hs : ∀ x, foldedSetIterable iter X.env x = pure x
theorem dc_core (P : DcP X kx vx tg iter ifs scope own wi g tt tk tv d) {pins : List (Addr × Obj)} {s : Shared} {σ : L2.St} {H : Hp} {Q : VK} {pos' : Pos} {use : Option (Value → Sem Unit)} {Qf : Value → Shared → Prop}
    (I : Inv X pins σ H s) (h : tDc wi g tt tk tv d (own.map (·.2)) σ H Q)
    (last : ∀ D C s' m H', Inv X pins σ H' s' → Q (.ref D) H' → s'.heap.Ns C m → FpOk X pins H' C → compPost (model X.prog X.w) X.A X.xe use Qf (.ref D) C (.ok .next) s') :
    wpAny (model X.prog X.w) X.A (comprehension (.DictComp kx vx [⟨tg, iter, ifs, 0⟩] scope pos) scope X.env pos' newDict false (eval iter X.env) use) Qf X.xe s := by
  have seen : ∀ y ∈ scope.names, y.2 = .free → ∃ c, X.env.cells.lookup y.1 = some c := fun y hy e =>
    I.ok.has _ ((P.ok.free y hy e).elim .inl .inr)
  refine wpAny_comprehension_free (use := use) rfl P.hs (closure_ok seen) P.ok.kind (fun y hy e => by rw [P.ok.uniq y hy, e]) (thn (P.hi.run pins s σ H _ I h) fun xv t1 hx => thn hx fun itv t2 g2 => ?_)
  obtain ⟨it, fp, tn, J, H2, e, I2, T, at2, f2, q⟩ := g2
  subst e
  refine wpAny_newObj_type (newEnv_comp ?_)
  generalize hD : t2.heap.objs.size = D
  obtain ⟨W, ⟨m0, w0⟩, turn⟩ := q D (I2.hok.fresh (Nat.le_of_eq hD)) (by rw [← hD]; exact beq_eq_false_iff_ne.mpr (Ne.symm (Nat.ne_of_lt I2.big)))
  generalize hs3 : ({ t2 with heap := t2.heap.push { cls := .type "dict", data := .dict #[] } } : Shared) = t3
  have h3 : t3.heap = t2.heap.push { cls := .type "dict", data := .dict #[] } := by rw [← hs3]
  have up : ∀ b o, t2.heap.get? b = some o → t3.heap.get? b = some o := fun b o e => by rw [h3]; exact Heap.get?_push_of_some _ e
  have I3 : Inv X pins σ (upd H2 D (.ext (IsOb D eob))) t3 := by
    rw [← hs3]
    have at_ : (t2.heap.push { cls := .type "dict", data := .dict #[] }).get? D = some eob := by rw [← hD]; exact Heap.get?_push_size _ rfl
    exact I2.laid (t' := t2.toks) (fun b o e => Heap.get?_push_of_some _ e) (Nat.le_of_eq hD) ⟨at_, ⟨_, at_⟩, fun h1 h2 e k => k _ e⟩
  have small : ∀ b ∈ fp, b < t2.heap.objs.size := fun b hb => let ⟨o, e, _⟩ := T.obj _ _ at2 b hb; Heap.lt_size e
  have f3 : ∀ b ∈ fp, FpOk X pins (upd H2 D (.ext (IsOb D eob))) b ∧ b < t3.heap.objs.size := fun b hb =>
    ⟨⟨by rw [upd_ne (by rw [← hD]; exact Nat.ne_of_lt (small b hb))]; exact (f2 b hb).1, (f2 b hb).2⟩, by rw [h3, Heap.size_push]; exact Nat.lt_succ_of_lt (small b hb)⟩
  have at3 : tn 0 t3.heap := T.keep _ _ _ at2 fun b _ o e => up b o e
  have I4 := block_start I3 P.ok P.hN f3
  show codeAny _ _ (.compStart (.DictComp kx vx [⟨tg, iter, ifs, 0⟩] scope pos) 0 (.ref it) (.ref D) (compEnvC scope (cellsFrom (t3.heap.objs.size + 1) scope.names (cloFrom X.env.cells scope.names [])) t3.heap.objs.size X.env)) (compPost (model X.prog X.w) X.A X.xe use Qf (.ref D) t3.heap.objs.size) { t3 with heap := pushCells (t3.heap.push { cls := .type "dict", data := .dict #[] }) scope.names }
  generalize hcl : cellsFrom (t3.heap.objs.size + 1) scope.names (cloFrom X.env.cells scope.names []) = clo at I4 ⊢
  have pg := P.hg t3 (upd H2 D (.ext (IsOb D eob))) t3.heap.objs.size clo fp
  have pt := P.ht t3 (upd H2 D (.ext (IsOb D eob))) t3.heap.objs.size clo fp
  have pk := P.hk t3 (upd H2 D (.ext (IsOb D eob))) t3.heap.objs.size clo fp
  have pv := P.hv t3 (upd H2 D (.ext (IsOb D eob))) t3.heap.objs.size clo fp
  have pd := P.hd t3 (upd H2 D (.ext (IsOb D eob))) t3.heap.objs.size clo fp
  have clear : ∀ b ∈ fp, (upd H2 D (.ext (IsOb D eob))) b = none := fun b hb => (f3 b hb).1.1
  generalize hce : compEnvC scope clo t3.heap.objs.size X.env = ce at I4 pg pt pk pv pd ⊢
  have cL : ce.locals = t3.heap.objs.size := by subst hce; rfl
  generalize hH3 : upd H2 D (.ext (IsOb D eob)) = H3 at I3 I4 pg pt pk pv pd w0 clear f3
  generalize hs4 : ({ t3 with heap := pushCells (t3.heap.push { cls := .type "dict", data := .dict #[] }) scope.names } : Shared) = t4 at I4 ⊢
  have at4 : tn 0 t4.heap := T.keep _ _ _ at3 fun b _ o e => by rw [← hs4]; exact pushCells_keeps _ _ _ _ (Heap.get?_push_of_some _ e)
  generalize hB : X.blk t3 H3 scope ce fp = B at I4 pg pt pk pv pd
  have still : ∀ {σ' : L2.St} {H' : Hp} {s' : Shared}, Inv B [] σ' H' s' → (∀ b ∈ fp, H' b = none) → ∀ b ∈ fp, FpOk B [] H' b := by
    subst hB
    exact fun {σ' H' s'} I' hn b hb => ⟨hn b hb, (I'.ok.exf b hb).1, I'.ok.exfs b hb, .inl hb, fun x c e => (I'.ok.exf b hb).2 x c e, fun p hp => absurd (show p ∈ ([] : List (Addr × Obj)) ++ [] from hp) (by simp)⟩
  have Bp : B.prog = X.prog := by subst hB; rfl
  have Bw : B.w = X.w := by subst hB; rfl
  have BA : B.A = X.A := by subst hB; rfl
  have Be : B.env = ce := by subst hB; rfl
  have Bx : B.xe = fun _ _ => False := by subst hB; rfl
  have BK : B.K = X.K := by subst hB; rfl
  have Bc : B.calm = true := by subst hB; exact P.hc
  have loop : codeAny (model X.prog X.w) X.A (.compLoop (.DictComp kx vx [⟨tg, iter, ifs, 0⟩] scope pos) 0 (.ref it) (.ref D) ce) (compPost (model X.prog X.w) X.A X.xe use Qf (.ref D) t3.heap.objs.size) t4 := by
    refine compLoop_dict_any (fun n s' => ∃ i H', Inv B [] (L2.wipe σ (own.map (·.2))) H' s' ∧ tn i s'.heap ∧ (∀ b ∈ fp, H' b = none) ∧ W i n H') ?_ m0 ⟨0, H3, I4, at4, clear, w0⟩
    rintro n t5 ⟨i, H5, I5, at5, n5, w5⟩
    rcases turn i n H5 w5 with ⟨stop, qq⟩ | ⟨go, Nx, hNx, step⟩
    · have td := T.done B Bp Bw BK Bc i [] t5 _ H5 (fun _ _ => False) I5 (still I5 n5) at5 stop
      rw [BA] at td
      refine thnF td fun r t6 ⟨hr, I6⟩ => ?_
      subst hr
      subst hB
      have I7 : Inv X pins σ H5 t6 := I3.call' (ch := fp) I6.os I6.base I6.hok I6.bare fun b hb => ⟨(f3 b hb).1.2.2.2.1, (f3 b hb).1.2.1, (f3 b hb).1.2.2.2.2.1, (f3 b hb).1.2.2.2.2.2⟩
      have nC : H5 t3.heap.objs.size = none := cL ▸ (show H5 ce.locals = none from I6.free)
      obtain ⟨m, hn, _⟩ := I6.loc
      exact last D t3.heap.objs.size t6 m H5 I7 qq (cL ▸ (show t6.heap.Ns ce.locals m from hn)) (I3.fpOk (Nat.le_refl _) nC)
    · have ti := T.item B Bp Bw BK Bc i [] t5 _ H5 (fun _ _ => False) I5 (still I5 n5) at5 go
      rw [BA] at ti
      refine thnF ti fun r t6 ⟨u, hr, h6⟩ => ?_
      subst hr
      refine thnF h6 fun _ t7 ⟨x, H7, I7, r7, y7, at7, n7⟩ => ?_
      have J7 := I7.pinned (still I7 n7) (T.obj _ _ at7)
      have a7 := pg.run _ t7 _ H7 x u _ J7 r7 (step x H7 y7)
      rw [Bp, Bw, BA, Be, Bx] at a7
      refine thnF a7 fun _ t8 ⟨σ8, H8, I8, hw8, q8⟩ => ?_
      have a8 := pt.run _ t8 σ8 H8 _ I8 q8
      rw [Bp, Bw, BA, Be, Bx] at a8
      refine thnF a8 fun b t9 ⟨H9, I9, q9⟩ => ?_
      have fin : ∀ {s' : Shared} {H' : Hp}, Inv B ([] ++ pinsAt fp t7.heap) σ8 H' s' → Nx H' → ∃ m, m < n ∧ ∃ i H', Inv B [] (L2.wipe σ (own.map (·.2))) H' s' ∧ tn i s'.heap ∧ (∀ b ∈ fp, H' b = none) ∧ W i m H' := fun {s' H'} I' nx => by
        obtain ⟨m', hm, w'⟩ := hNx H' nx
        have pin' : ∀ b ∈ fp, ∀ o, t7.heap.get? b = some o → s'.heap.get? b = some o ∧ H' b = none := fun b hb o e =>
          have z := I'.pin (b, o) (List.mem_append_right _ (List.mem_append_right _ (mem_pinsAt hb e)))
          ⟨z.1, z.2.1⟩
        have hl : (L2.wipe σ (own.map (·.2))).length = σ8.length := by rw [← hw8, wipe_length]
        exact ⟨m', hm, i + 1, H', (I'.unpinned (pins := [])).weak hl (fun j v e => by rw [← hw8] at e; exact (wipe_some e).1), T.keep _ _ _ at7 fun b hb o e => (pin' b hb o e).1,
          fun b hb => let ⟨o, e, _⟩ := T.obj _ _ at7 b hb; (pin' b hb o e).2, w'⟩
      cases b with
      | false =>
        rw [if_neg Bool.false_ne_true] at q9 ⊢
        exact fin I9 q9
      | true =>
        rw [if_pos rfl] at q9 ⊢
        have a9 := pk.run _ t9 σ8 H9 _ I9 q9
        rw [Bp, Bw, BA, Be, Bx] at a9
        refine thnF a9 fun ku ta ⟨k, Ha, Ia, ra, qa⟩ => ?_
        have aa := pv.run _ ta σ8 Ha _ Ia qa
        rw [Bp, Bw, BA, Be, Bx] at aa
        refine thnF aa fun vu tb ⟨v, Hb, Ib, rb, qb⟩ => ?_
        have ab := pd _ tb σ8 Hb D k v ku vu _ Ib ra rb qb
        rw [Bp, Bw, BA] at ab
        exact thnF ab fun _ tc ⟨Hc, Ic, nx⟩ => fin Ic nx
  exact codeAny_compStart_dict loop (T.self X.A 0 _ _ _ at4 loop)
/-- as a value -/
theorem pe_dc (P : DcP X kx vx tg iter ifs scope own wi g tt tk tv d) : PE X (.DictComp kx vx [⟨tg, iter, ifs, 0⟩] scope pos) (tDc wi g tt tk tv d (own.map (·.2))) := by
  refine ⟨fun pins s σ H Q I h => ?_⟩
  rw [arm_eval_DictComp]
  refine dc_core P I h fun D C s' m H' I' q hn ⟨f0, f1, f2, f3, f4, f5⟩ => ⟨m, hn, fun h'' sb => ?_⟩
  exact ⟨.ref D, H', I'.turned (t' := s'.toks) (fun b o hb e => (sb.2 b hb).trans e) f0 f1 f3 f4 f5, rfl, q⟩
/-- stored at once -/
theorem ps_setDc {i : Nat} {y : Str} {py spos : Pos} (P : DcP X kx vx tg iter ifs scope own wi g tt tk tv d) (hy : X.N[i]? = some y) (hyl : X.env.scope.names.lookup y = some .local)
    (hsw : swapsWith (.DictComp kx vx [⟨tg, iter, ifs, 0⟩] scope pos) (some (.Name y py)) spos.line X.env = pure true) :
    PS X (.Assign [.Name y py] (.DictComp kx vx [⟨tg, iter, ifs, 0⟩] scope pos) spos) (tAsg (tDc wi g tt tk tv d (own.map (·.2))) (gName i)) := by
  refine ⟨fun pins s σ H D I h => ?_⟩
  rw [exec_Assign_Name_used _ _ _ _ hsw]
  refine wpAny_bind (wpAny_standAt (wpAny_bind ?_))
  show wpAny _ X.A (do let _ ← comprehension (.DictComp kx vx [⟨tg, iter, ifs, 0⟩] scope pos) scope X.env (firstIterPos [⟨tg, iter, ifs, 0⟩] pos) newDict false (eval iter X.env) (some (assign (.Name y py) X.env))) _ _ s
  have h : tDc wi g tt tk tv d (own.map (·.2)) σ H (fun x H1 => gName i x σ H1 D.nx) := h
  refine wpAny_bind (thn (dc_core (Qf := fun _ s' => SP X pins D .next s') P I h fun L C s' m H' I' q hn ⟨f0, f1, f2, f3, f4, f5⟩ => ?_) fun _ s' hq => wpAny_pure (wpAny_pure hq))
  show wpAny _ _ (assign (.Name y py) X.env (.ref L)) _ _ _
  refine wpAny_assign_Name (store_ok2 (v := V.ref L) I' P.hN hy (.inl hyl) rfl (fun s2 I2 ⟨a, sb, ha⟩ => ?_) (.inr hyl))
  have haC : C ≠ a := ha.elim (fun z => by rw [z]; exact f1) fun z e => f4 y a z e.symm
  exact ⟨m, hn.sameBut sb haC, fun h3 sb3 => ⟨_, H', I2.turned (t' := s2.toks) (fun b o hb e => (sb3.2 b hb).trans e) f0 f1 f3 f4 f5, q⟩⟩
end
/-! ### the small language's -/
structure BD (C1 : RC) (st1 : St) (σ1 : L2.St) (H1 : Hp) (D : Addr) (C : RC) (st : St) (σ : L2.St) (H : Hp) (kvs : List (PV × PV)) : Prop where
  loc : Loc2 C1 st1 σ1 H1 C st σ H
  rel : Rel C st σ H
  own : OwnR C H (.dct kvs) D
  fd : C.F D = none
  cd : C.cp ≠ some D
  nd : ¬ Ow st1 σ1 D
  h1 : H1 D = none
section
variable {C1 : RC} {st1 : St} {σ1 : L2.St} {H1 : Hp} {D : Addr} {C C' : RC} {st st' : St} {σ σ' : L2.St} {H H' : Hp} {kvs : List (PV × PV)}
theorem BD.start (R : Rel C1 st1 σ1 H1) (hD : H1 D = none) (hs : (D == sysModules) = false) : BD C1 st1 σ1 H1 D C1 st1 σ1 (upd H1 D (.ext (IsOb D eob))) [] := by
  have g := Grow.newOwn (o := .ext (IsOb D eob)) R.sub hD
  refine ⟨g.loc.l2, g.rel R, ⟨eob, [], upd_same, dob_nil hs, rfl⟩, ?_, fun e => ?_, Ow.no R hD, hD⟩
  · cases e : C1.F D with
    | none => rfl
    | some u => have := R.sub D u e; rw [hD] at this; cases this
  · obtain ⟨o, q⟩ := R.cpt e
    rw [hD] at q; cases q
theorem BD.run2 (b : BD C1 st1 σ1 H1 D C st σ H kvs) (L : Loc2 C st σ H C' st' σ' H') (R : Rel C' st' σ' H') : BD C1 st1 σ1 H1 D C' st' σ' H' kvs := by
  have nd : ¬ Ow st σ D := fun h => b.nd (b.loc.ow D h)
  obtain ⟨o, ho⟩ := b.own.some
  have same : H' D = H D := (L.keep D o ho nd b.cd).trans ho.symm
  refine ⟨b.loc.trans L, R, b.own.le L.le same, ?_, fun e => ?_, b.nd, b.h1⟩
  · cases e : C'.F D with
    | none => rfl
    | some u =>
      rcases L.fnew D u e with q | q | q
      · rw [b.fd] at q; cases q
      · rw [ho] at q; cases q
      · exact (nd q).elim
  · rcases L.cnew D e with q | q
    · exact b.cd q
    · rw [ho] at q; cases q
theorem BD.run (b : BD C1 st1 σ1 H1 D C st σ H kvs) (L : Loc C st σ H C' st' H') (R : Rel C' st' σ H') : BD C1 st1 σ1 H1 D C' st' σ H' kvs := b.run2 L.l2 R
theorem BD.grow (b : BD C1 st1 σ1 H1 D C st σ H kvs) (g : Grow C H C' H') : BD C1 st1 σ1 H1 D C' st σ H' kvs := b.run g.loc (g.rel b.rel)
theorem BD.wipe (b : BD C1 st1 σ1 H1 D C st σ H kvs) (vs : List Nat) : BD C1 st1 σ1 H1 D C { st with env := wipeE st.env vs } (L2.wipe σ vs) H kvs :=
  b.run2 ⟨.refl C, fun _ _ h _ _ => h, fun _ o h => ⟨o, h⟩, fun _ _ h => .inl h, fun _ h => .inl h, fun _ h => h.wipe⟩ (b.rel.wipe vs)
theorem BD.stored {env' : List Slot} {vs : List Nat} (b : BD C1 st1 σ1 H1 D C st σ H kvs) (s : Stored C st σ H env' σ' vs) : BD C1 st1 σ1 H1 D C { st with env := env' } σ' H kvs :=
  b.run2 ⟨.refl C, fun _ _ h _ _ => h, fun _ o h => ⟨o, h⟩, fun _ _ h => .inl h, fun _ h => .inl h, s.ow⟩ s.rel
theorem BD.put (b : BD C1 st1 σ1 H1 D C st σ H kvs) {kvs' : List (PV × PV)} {ob : Obj} {es : List DictEntry} (d : DOb C.w D ob es kvs') (r : RepE C kvs' es) : BD C1 st1 σ1 H1 D C st σ (upd H D (.ext (IsOb D ob))) kvs' := by
  have nd : ¬ Ow st σ D := fun h => b.nd (b.loc.ow D h)
  refine ⟨⟨b.loc.le, fun x o h hw hc => ?_, fun x o h => ?_, b.loc.fnew, b.loc.cnew, b.loc.ow⟩, b.rel.updD b.fd b.cd nd _, ⟨ob, es, upd_same, d, r⟩, b.fd, b.cd, b.nd, b.h1⟩
  · rw [upd_ne (ne_of_none h b.h1)]; exact b.loc.keep x o h hw hc
  · rw [upd_ne (ne_of_none h b.h1)]; exact b.loc.there x o h
end
/-- a loop of a block -/
theorem dc_W {J : It} {xs : List PV} {Cw : RC} (wk : WkJ J Cw xs) {T : PV → List (PV × PV) → St → Res (List (PV × PV) × St)} {vs : List Nat} {σ0 : L2.St} {C1 : RC} {st1 : St} {σ1 : L2.St} {H1 : Hp} {D : Addr} {Cs : RC} {sts stE : St} {Hs : Hp} {d0 dE : List (PV × PV)} {g : TG} {K : L2.St → Hp → (Hp → Prop) → Prop} {E : Hp → Prop}
    (start : BD C1 st1 σ1 H1 D Cs sts σ0 Hs d0) (lw : Cw.Le Cs) (run : dcLoop T xs d0 sts = .ok (dE, stE))
    (fin : ∀ C' σ' H', L2.wipe σ' vs = L2.wipe σ0 vs → Cs.Le C' → BD C1 st1 σ1 H1 D C' stE σ' H' dE → E H')
    (turn : ∀ (x : PV) (v : V) (st : St) (d : List (PV × PV)) (r : List (PV × PV) × St) (C : RC) (H : Hp), T x d st = .ok r → Cs.Le C → BD C1 st1 σ1 H1 D C { st with env := wipeE st.env vs } (L2.wipe σ0 vs) H d → Rep C x v →
      ∀ Nx : Hp → Prop, (∀ C2 σ2 H2, L2.wipe σ2 vs = L2.wipe σ0 vs → C.Le C2 → BD C1 st1 σ1 H1 D C2 r.2 σ2 H2 r.1 → Nx H2) → g v (L2.wipe σ0 vs) H fun σ2 H2 => L2.wipe σ2 vs = L2.wipe σ0 vs ∧ K σ2 H2 Nx) :
    ∃ W : Nat → Nat → Hp → Prop, (∃ m, W 0 m Hs) ∧ ∀ i m H, W i m H → (J.stop i H ∧ E H) ∨ (J.go i H ∧ ∃ Nx : Hp → Prop, (∀ H', Nx H' → ∃ m', m' < m ∧ W (i + 1) m' H') ∧
      ∀ x H', J.yld i H x H' → g x (L2.wipe σ0 vs) H' fun σ2 H2 => L2.wipe σ2 vs = L2.wipe σ0 vs ∧ K σ2 H2 Nx) := by
  refine ⟨fun i m H => m = xs.length - i ∧ i ≤ xs.length ∧ ∃ C st σ' d, BD C1 st1 σ1 H1 D C st σ' H d ∧ Cs.Le C ∧ L2.wipe σ' vs = L2.wipe σ0 vs ∧ dcLoop T (xs.drop i) d st = .ok (dE, stE),
    ⟨xs.length, by simp, Nat.zero_le _, Cs, sts, σ0, d0, start, .refl _, rfl, run⟩, ?_⟩
  rintro i m H ⟨rfl, hi, C, st, σ', d, b, le, hw, hr⟩
  by_cases hlt : i < xs.length
  · have hx : xs[i]? = some xs[i] := List.getElem?_eq_getElem hlt
    rw [List.drop_eq_getElem_cons hlt] at hr
    obtain ⟨r, e1, e2⟩ := bindR (show ((T xs[i] d st).bind fun r => dcLoop T (xs.drop (i + 1)) r.1 r.2) = .ok (dE, stE) from hr)
    refine .inr ⟨wk.go i _ H (b.rel.sub.le (lw.trans le)) hx, fun H' => ∃ C2 σ2, L2.wipe σ2 vs = L2.wipe σ0 vs ∧ C.Le C2 ∧ BD C1 st1 σ1 H1 D C2 r.2 σ2 H' r.1, ?_, fun x H' y => ?_⟩
    · rintro H' ⟨C2, σ2, k1, k2, k3⟩
      exact ⟨xs.length - (i + 1), by omega, rfl, hlt, C2, r.2, σ2, r.1, k3, le.trans k2, k1, e2⟩
    · obtain ⟨C', g', rx⟩ := wk.yld i _ H C x H' b.rel.sub hx (lw.trans le) y
      have b' := (b.grow g').wipe vs
      rw [hw] at b'
      exact turn xs[i] x st d r C' H' e1 (le.trans g'.le) b' rx _ fun C2 σ2 H2 k1 k2 k3 => ⟨C2, σ2, k1, g'.le.trans k2, k3⟩
  · have e : i = xs.length := by omega
    subst e
    rw [List.drop_length] at hr
    cases (show Res.ok (d, st) = Res.ok (dE, stE) from hr)
    exact .inl ⟨wk.stop H (b.rel.sub.le (lw.trans le)), fin C σ' H hw le b⟩
/-- a store in a comprehension's dict -/
def DSet (G : GP) : TDs := fun D k v H Q => ∃ C kvs ob es y x, C.K = G.K ∧ C.w = G.w ∧ SubH C H ∧ H D = some (.ext (IsOb D ob)) ∧ DOb C.w D ob es kvs ∧ RepE C kvs es ∧ kOk kvs y = true ∧ kvs.length < LIM ∧ Rep C y k ∧ Rep C x v ∧
  ∀ ob' es', DOb C.w D ob' es' (dset kvs y x) → RepE C (dset kvs y x) es' → Q (upd H D (.ext (IsOb D ob')))
theorem pds_set {G : GP} {X : Cx} (O : XO G X) : PDs X (DSet G) := by
  intro pins s σ H D k v ku vu Q I rk rv ⟨C, kvs, ob, es, y, x, eK, ew, hF, hH, hd, hr, hk, hl, ry, rx, q⟩
  refine d_dictSet O.units I (eK.trans O.hK.symm) (ew.trans O.hw.symm) hF ⟨.inl hH, hd, hr⟩ hk hl ry rk ⟨v, rv, rx⟩ fun t h' P => ?_
  obtain ⟨ob', es', k1, k2, k3⟩ := P.ob
  exact ⟨_, I.write (x := D) (e := D) (o := .ext (IsOb D ob')) (t' := t) (by rw [hH]; exact True.intro) (.inl rfl) (fun b u hb e => (P.same.2 b hb).trans e) ⟨ob', k1⟩ ⟨k1, ⟨_, k1⟩, fun h1 h2 e k => k _ e⟩, q ob' es' k2 k3⟩
section
variable {G : GP}
theorem ev_dc {Φ : Calls} {own : List Nat} {p : Pat} {it c k e : E} {st st' : St} {x : PV} (h : ev Φ (.dc own p it c k e) st = .ok (x, st')) :
    ∃ pi st1 xs d st2, ev Φ it st = .ok (pi, st1) ∧ ltOf pi = some xs ∧ dcLoop (fun x d st => (bindP p x (wipeE st.env own)).bind fun env => (ev Φ c { st with env := env }).bind fun b => match b.1 with
        | .bl true => (ev Φ k b.2).bind fun y => (ev Φ e y.2).bind fun z => .of (kOk d y.1 && fitsL (d.length)) (.ok (dset d y.1 z.1, z.2))
        | .bl false => .ok (d, b.2)
        | _ => .no) xs [] st1 = .ok (d, st2) ∧ x = .dct d ∧ st' = { st2 with env := backE st1.env st2.env own } := by
  rw [ev] at h
  obtain ⟨⟨pi, st1⟩, h1, h⟩ := bindR h
  obtain ⟨xs, h2, h⟩ := bindR h
  obtain ⟨⟨d, st2⟩, h3, h⟩ := bindR h
  cases h
  exact ⟨pi, st1, xs, d, st2, h1, Res.ofOpt_ok h2, h3, rfl, rfl⟩
theorem rd_dc {own : List Nat} {p : Pat} {it c k e : E} (hp : ∀ i ∈ pvs p, i ∈ own) (hek : isBor k = false) (hee : isBor e = false) {σ : L2.St} {H : Hp} {Q : VK} (h : rd G (.dc own p it c k e) σ H Q) :
    tDc (rdI G it) (gP G.K p) (rdT G c) (rd G k) (rd G e) (DSet G) own σ H Q := by
  obtain ⟨C, st, p0, st', hK, hw, R, hev, q⟩ := h
  obtain ⟨pi, st1, xs, d, st2, e1, e2, e3, rfl, rfl⟩ := ev_dc hev
  refine ⟨C, st, pi, st1, xs, hK, hw, R, e1, e2, fun J C1 H1 L1 R1 wk D hD hsys => ?_⟩
  refine dc_W (K := fun σ2 H2 Nx => rdT G c σ2 H2 fun b H3 => if b = true then rd G k σ2 H3 fun y H4 => rd G e σ2 H4 fun z H5 => DSet G D y z H5 Nx else Nx H3) wk (BD.start R1 hD hsys) (.refl _) e3 (fun C' σ' H' hw' le b => ?_) (fun x v st d r Ck Hk hT le b rx Nx nx => ?_)
  · have RB : Rel C' { st2 with env := backE st1.env st2.env own } σ H' := R1.back b.rel b.loc.le hw'
    refine q _ C' H' (L1.trans ⟨b.loc.le, b.loc.keep, b.loc.there, b.loc.fnew, b.loc.cnew, fun a ha => b.loc.ow a (ha.back hw')⟩) RB ?_
    rw [resV_nb rfl]
    show if true = true then _ else _
    try dsimp only
    rw [if_pos rfl]
    refine ⟨D, rfl, ?_, b.fd, b.cd, b.own⟩
    cases hx : H D with
    | none => rfl
    | some u => obtain ⟨u', q⟩ := L1.there D u hx; rw [hD] at q; cases q
  · obtain ⟨env, h1, h2⟩ := bindR hT
    obtain ⟨⟨bv, st3⟩, h3, h4⟩ := bindR h2
    have hKk : Ck.K = G.K := le.k.trans (L1.le.k.trans hK)
    have hwk : Ck.w = G.w := le.w.trans (L1.le.w.trans hw)
    refine bind_ok hKk p x { st with env := wipeE st.env own } env (L2.wipe σ own) v _ h1 b.rel rx fun σ' S => ⟨pv_wipe hp S, ?_⟩
    have b1 := b.stored S
    cases bv with
    | bl kb =>
      refine ⟨Ck, { st with env := env }, kb, st3, hKk, hwk, S.rel, h3, fun C3 H3 L3 R3 => ?_⟩
      have b2 := b1.run L3 R3
      cases kb with
      | false =>
        cases h4
        try dsimp only
        rw [if_neg Bool.false_ne_true]
        exact nx C3 σ' H3 (pv_wipe hp S) L3.le b2
      | true =>
        obtain ⟨⟨y, st4⟩, h5, h6⟩ := bindR h4
        obtain ⟨⟨z, st5⟩, h7, h8⟩ := bindR h6
        obtain ⟨h9, h10⟩ := Res.of_ok h8
        rw [Bool.and_eq_true] at h9
        cases h10
        try dsimp only
        rw [if_pos rfl]
        refine ⟨C3, st3, y, st4, L3.le.k.trans hKk, L3.le.w.trans hwk, R3, h5, fun yv C4 H4 L4 R4 r4 => ?_⟩
        obtain ⟨C5, L5, R5, r5, _⟩ := res_share hek R3 L4 R4 r4
        have b3 := b2.run L5 R5
        have hK5 : C5.K = G.K := L5.le.k.trans (L3.le.k.trans hKk)
        have hw5 : C5.w = G.w := L5.le.w.trans (L3.le.w.trans hwk)
        refine ⟨C5, st4, z, st5, hK5, hw5, R5, h7, fun zv C6 H6 L6 R6 r6 => ?_⟩
        obtain ⟨C7, L7, R7, r7, _⟩ := res_share hee R5 L6 R6 r6
        have b4 := b3.run L7 R7
        obtain ⟨ob, es, o1, o2, o3⟩ := b4.own
        exact ⟨C7, d, ob, es, y, z, L7.le.k.trans hK5, L7.le.w.trans hw5, R7.sub, o1, o2, o3, h9.1, of_decide_eq_true h9.2, Rep.le L7.le _ _ r5, r7, fun ob' es' k1 k2 =>
          nx C7 σ' _ (pv_wipe hp S) (L3.le.trans (L5.le.trans L7.le)) (b4.put k1 k2)⟩
    | _ => exact nomatch h4
end
end Py
end

section
set_option Elab.async false
set_option linter.all false
set_option autoImplicit false
set_option maxRecDepth 100000
/-! Displays of dicts. -/
namespace Py
open PySem PySem.Spec PyProof.Rows L2

inductive PrL (G : GP) (X : Cx) : List (Option Expr) → List Expr → List E → Prop
  | nil : PrL G X [] [] []
  | cons {k v : Expr} {k' v' : E} {ks : List (Option Expr)} {vs : List Expr} {es : List E} : PE X k (rd G k') → PE X v (rd G v') → PrL G X ks vs es → PrL G X (some k :: ks) (v :: vs) (k' :: v' :: es)
/-- values in a row beside pairs of values -/
def FlatR : List V → List (Value × Value) → Prop
  | [], us => us = []
  | [_], _ => False
  | x :: y :: r, us => ∃ p t, us = p :: t ∧ RelV x p.1 ∧ RelV y p.2 ∧ FlatR r t
section
variable {G : GP} {X : Cx} {pos : Pos}
theorem PrL.shape {ks : List (Option Expr)} {vs : List Expr} {es : List E} (h : PrL G X ks vs es) : ks.all (·.isSome) = true ∧ ks.length = vs.length := by
  induction h with
  | nil => exact ⟨rfl, rfl⟩
  | cons _ _ _ ih => exact ⟨by simpa using ih.1, by simp [ih.2]⟩
theorem PrL.run {ks : List (Option Expr)} {vs : List Expr} {es : List E} (h : PrL G X ks vs es) : ∀ (pins : List (Addr × Obj)) (s : Shared) (σ : L2.St) (H : Hp) (Q : List V → Hp → Prop), Inv X pins σ H s → rdA G es σ H Q →
    wpAny (model X.prog X.w) X.A (evalPairs (pairTrees ks vs X.env pos)) (fun us s' => ∃ xs H', Inv X pins σ H' s' ∧ FlatR xs us ∧ Q xs H') X.xe s := by
  induction h with
  | nil => exact fun pins s σ H Q I h => pairTrees_nil_walk ⟨[], H, I, rfl, rdA_nil h⟩
  | cons hk hv _ ih =>
    intro pins s σ H Q I h
    refine pairTrees_cons_walk (thn (hk.run pins s σ H _ I (rdA_cons h)) fun u s1 ⟨x, H1, I1, rx, q1⟩ => thn (hv.run pins s1 σ H1 _ I1 (rdA_cons q1)) fun w2 s2 ⟨y, H2, I2, ry, q2⟩ =>
      thn (ih pins s2 σ H2 _ I2 q2) fun ws s3 ⟨xs, H3, I3, rel, q3⟩ => ⟨x :: y :: xs, H3, I3, ⟨(u, w2), ws, rfl, rx, ry, rel⟩, q3⟩)
/-- pairs beside pairs of values -/
def PairsR (C : RC) : List (PV × PV) → List (Value × Value) → Prop
  | [], us => us = []
  | p :: ps, us => ∃ q t, us = q :: t ∧ (∃ u, RelV u q.1 ∧ Rep C p.1 u) ∧ (∃ u, RelV u q.2 ∧ Rep C p.2 u) ∧ PairsR C ps t
theorem pairsR_of {C : RC} : ∀ {xs : List PV} {ps : List (PV × PV)} {vs : List V} {us : List (Value × Value)}, pairsUp xs = some ps → Reps C xs vs → FlatR vs us → PairsR C ps us
  | [], ps, vs, us, h, r, f => by
    cases h
    rw [Reps.nil_inv r] at f
    exact f
  | [_], _, _, _, h, _, _ => nomatch h
  | k :: v :: xs, ps, vs, us, h, r, f => by
    obtain ⟨ps', h1, rfl⟩ := Option.map_eq_some_iff.mp (show (pairsUp xs).map ((k, v) :: ·) = some ps from h)
    obtain ⟨a, t, rfl, r1, r2⟩ := r.cons_inv
    obtain ⟨b, t', rfl, r3, r4⟩ := r2.cons_inv
    obtain ⟨p, t2, rfl, f1, f2, f3⟩ := f
    exact ⟨p, t2, rfl, ⟨a, f1, r1⟩, ⟨b, f2, r3⟩, pairsR_of h1 r4 f3⟩
theorem store_ok (O : XO G X) {pins : List (Addr × Obj)} {σ : L2.St} {C : RC} {D : Addr} {E : Value → Shared → Prop} {Q : Shared → Prop} (eK : C.K = G.K) (ew : C.w = G.w) (fd : C.F D = none) {d : List (PV × PV)} : ∀ {ps kvs : List (PV × PV)} {us : List (Value × Value)} {H : Hp} {s : Shared} {ob : Obj} {es : List DictEntry},
    Inv X pins σ H s → SubH C H → H D = some (.ext (IsOb D ob)) → DOb C.w D ob es kvs → RepE C kvs es → PairsR C ps us → dictOf kvs ps = .ok d → kvs.length + ps.length < LIM →
    (∀ s' ob' es' H', Inv X pins σ H' s' → (∀ b, b ≠ D → H' b = H b) → H' D = some (.ext (IsOb D ob')) → DOb C.w D ob' es' d → RepE C d es' → Q s') → wpAny (model X.prog X.w) X.A (PySem.storeAll D us) (fun _ s' => Q s') E s
  | [], kvs, us, H, s, ob, es, I, hF, hD, hd, hr, hp, h, hl, fin => by
    cases (show us = [] from hp)
    cases (show Res.ok kvs = Res.ok d from h)
    unfold PySem.storeAll
    rw [List.forIn_nil]
    exact wpAny_pure (fin s ob es H I (fun _ _ => rfl) hD hd hr)
  | p :: ps, kvs, us, H, s, ob, es, I, hF, hD, hd, hr, hp, h, hl, fin => by
    obtain ⟨q, t, rfl, ⟨u, u1, u2⟩, hv, ht⟩ := hp
    obtain ⟨h1, h2⟩ := dictOf_cons h
    rw [List.length_cons] at hl
    unfold PySem.storeAll
    rw [List.forIn_cons]
    refine wpAny_bind (wpAny_bind (d_dictSet O.units I (eK.trans O.hK.symm) (ew.trans O.hw.symm) hF ⟨.inl hD, hd, hr⟩ h1 (by omega) u2 u1 hv fun tk h' P => wpAny_pure ?_))
    obtain ⟨ob', es', k1, k2, k3⟩ := P.ob
    have I' := I.write (x := D) (e := D) (o := .ext (IsOb D ob')) (t' := tk) (by rw [hD]; exact True.intro) (.inl rfl) (fun b u hb e => (P.same.2 b hb).trans e) ⟨ob', k1⟩ ⟨k1, ⟨_, k1⟩, fun h1 h2 e k => k _ e⟩
    refine store_ok O eK ew fd I' (fun b o e => ?_) upd_same k2 k3 ht h2 (by have := dset_len kvs p.1 p.2; omega) fun s2 ob2 es2 H2 I2 k e1 e2 e3 => fin s2 ob2 es2 H2 I2 (fun b hb => (k b hb).trans (upd_ne hb)) e1 e2 e3
    rw [upd_ne (fun z => by subst z; rw [fd] at e; cases e)]
    exact hF b o e
theorem prl_len {ks : List (Option Expr)} {vs : List Expr} {es : List E} (h : PrL G X ks vs es) : es.length = 2 * ks.length := by
  induction h with
  | nil => rfl
  | cons _ _ _ ih => simp only [List.length_cons, ih]; omega
theorem evs_len {Φ : Calls} : ∀ {es : List E} {st st' : St} {ps : List PV}, evs Φ es st = .ok (ps, st') → ps.length = es.length
  | [], st, st', ps, h => by cases (show Res.ok ([], st) = Res.ok (ps, st') from h); rfl
  | e :: es, st, st', ps, h => by
    rw [evs] at h
    obtain ⟨r, h1, h⟩ := bindR h
    obtain ⟨q, h2, h⟩ := bindR h
    cases h
    have := evs_len (es := es) (ps := q.1) (st' := q.2) h2
    rw [List.length_cons, List.length_cons, this]
theorem n_disp (O : XO G X) {ks : List (Option Expr)} {vs : List Expr} {es : List E} (hp : PrL G X ks vs es) (hb : noBor es = true) (h0 : ks ≠ []) (h15 : ks.length ≤ 15) : PE X (.Dict ks vs pos) (rd G (.op .dct es)) := by
  refine ⟨fun pins s σ H Q I h => ?_⟩
  obtain ⟨C, st, p, st', hK, hw, R, he, q⟩ := h
  obtain ⟨ps0, ps, h1, h2, h3⟩ := op_split he
  rw [reread_nb st' hb h1] at h2
  obtain rfl : ps0 = ps := by cases h2; rfl
  have hn := I.hok.fresh (Nat.le_refl s.heap.objs.size)
  have hsys : (s.heap.objs.size == sysModules) = false := beq_eq_false_iff_ne.mpr (Ne.symm (Nat.ne_of_lt I.big))
  have at_ : (s.heap.push { cls := .type "dict", data := .dict #[] }).get? s.heap.objs.size = some eob := Heap.get?_push_size _ rfl
  have I1 := I.laid (a := s.heap.objs.size) (o := .ext (IsOb s.heap.objs.size eob)) (t' := s.toks) (fun _ _ q => Heap.get?_push_of_some _ q) (Nat.le_refl _) ⟨at_, ⟨_, at_⟩, fun h1 h2 e k => k _ e⟩
  generalize hD : s.heap.objs.size = D at hn hsys I1
  have g := Grow.newOwn (o := .ext (IsOb D eob)) R.sub hn
  have R1 := g.rel R
  have fD : C.F D = none := by
    cases e : C.F D with
    | none => rfl
    | some u => have := R.sub D u e; rw [hn] at this; cases this
  have cD : C.cp ≠ some D := fun e => by
    obtain ⟨o, q⟩ := R.cpt e
    rw [hn] at q; cases q
  have nD : ¬ Ow st σ D := Ow.no R hn
  obtain ⟨prs, h4, h5⟩ := bindR (show ((Res.ofOpt (pairsUp ps0)).bind fun ps => (dictOf [] ps).bind fun d => Res.ok (PV.dct d)) = .ok p from h3)
  obtain ⟨d, h6, h7⟩ := bindR h5
  cases h7
  have rdp : rdA G es σ (upd H D (.ext (IsOb D eob))) fun xs H2 => ∃ C2 : RC, C2.K = G.K ∧ C2.w = G.w ∧ Rel C2 st' σ H2 ∧ Loc C st σ H C2 st' H2 ∧ H2 D = some (.ext (IsOb D eob)) ∧ C2.F D = none ∧ C2.cp ≠ some D ∧ Reps C2 ps0 xs ∧ ¬ Ow st' σ D := by
    refine ⟨C, st, ps0, st', ps0, hK, hw, R1, h1, reread_nb st' hb h1, fun xs C2 H2 L2 R2 al => ⟨C2, L2.le.k.trans hK, L2.le.w.trans hw, R2, g.loc.trans L2, L2.keep D _ upd_same nD cD, ?_, fun e => ?_, al.r hb, fun e => nD (L2.ow D e)⟩⟩
    · cases e : C2.F D with
      | none => rfl
      | some u =>
        rcases L2.fnew D u e with z | z | z
        · rw [fD] at z; cases z
        · rw [upd_same] at z; cases z
        · exact (nD z).elim
    · rcases L2.cnew D e with z | z
      · exact cD z
      · rw [upd_same] at z; cases z
  obtain ⟨s1, s2⟩ := hp.shape
  refine wpAny_Dict_any s1 s2 h0 h15 (thn (hp.run pins _ σ _ _ I1 rdp) fun us sb ⟨xs, H2, I2, fl, C2, k1, k2, R2, L, k3, k4, k5, rp, k6⟩ => ?_)
  rw [hD]
  have pr := pairsR_of (Res.ofOpt_ok h4) rp fl
  refine store_ok O k1 k2 k4 (ob := eob) (es := []) I2 R2.sub k3 (dob_nil hsys) rfl pr h6 ?_ fun s' ob' es' H' I' same g1 g2 g3 => ?_
  · have e1 : ∀ {xs : List PV} {ps : List (PV × PV)}, pairsUp xs = some ps → ps.length ≤ xs.length := by
      intro xs
      induction xs using pairsUp.induct with
      | case1 => intro ps h; cases h; exact Nat.le_refl _
      | case2 k v r ih =>
        intro ps h
        obtain ⟨ps', h1, rfl⟩ := Option.map_eq_some_iff.mp (show (pairsUp r).map ((k, v) :: ·) = some ps from h)
        have := ih h1
        simp only [List.length_cons]; omega
      | case3 => intro ps h; simp_all [pairsUp]
    have e2 := e1 (Res.ofOpt_ok h4)
    have e3 : ps0.length = es.length := evs_len h1
    have e4 : es.length = 2 * ks.length := prl_len hp
    show 0 + prs.length < LIM
    unfold LIM; omega
  · have hne : ∀ {b : Addr}, H b ≠ none → b ≠ D := fun h e => h (by rw [e]; exact hn)
    refine ⟨.ref D, H', I', rfl, q (.ref D) C2 H' ⟨L.le, fun b o e n c => ?_, fun b o e => ?_, L.fnew, L.cnew, L.ow⟩ ⟨fun b o e => ?_, R2.len, R2.slot, fun i p e => ?_, R2.apart, fun x y e => ?_, R2.nocup, R2.cpf⟩ ?_⟩
    · rw [same b (hne (by rw [e]; exact nofun))]; exact L.keep b o e n c
    · rw [same b (hne (by rw [e]; exact nofun))]; exact L.there b o e
    · rw [same b (fun z => by subst z; rw [k4] at e; cases e)]; exact R2.sub b o e
    · obtain ⟨a, m1, m2, m3, m4⟩ := R2.own i p e
      exact ⟨a, m1, m2, m3, m4.le (.refl C2) (same a fun z => by subst z; exact k6 ⟨i, p, e, m1⟩)⟩
    · obtain ⟨c, m1, m2⟩ := R2.cup x y e
      exact ⟨c, m1, by rw [same c (fun z => by subst z; exact k5 m1)]; exact m2⟩
    · rw [resV_nb rfl]
      show if true = true then _ else _
      try dsimp only
      rw [if_pos rfl]
      exact ⟨D, rfl, hn, k4, k5, ob', es', g1, g2, g3⟩
end
end Py
end

section
set_option Elab.async false
set_option linter.all false
set_option autoImplicit false
set_option maxRecDepth 100000
/-! d.update(e). -/
namespace Py
open PySem PySem.Spec PyProof.Rows L2

theorem kacc_merge {n : Nat} : ∀ {ps acc : List (PV × PV)}, KAcc n acc → (∀ p ∈ ps, (p.1.keyOk = true ∧ p.1.depth ≤ 8) ∧ p.1.kkind = n) → KAcc n (dmerge acc ps) ∧ (dmerge acc ps).length ≤ acc.length + ps.length
  | [], acc, h, _ => ⟨h, Nat.le_refl _⟩
  | p :: ps, acc, h, hk => by
    have hp := hk p List.mem_cons_self
    obtain ⟨h1, h2⟩ := kacc_merge (h.set (y := p.2) hp.1 hp.2) fun q hq => hk q (List.mem_cons_of_mem _ hq)
    refine ⟨h1, Nat.le_trans h2 ?_⟩
    have := dset_len acc p.1 p.2
    rw [List.length_cons]; omega
/-- two dicts of one kind -/
theorem upd_kind {kvs ps : List (PV × PV)} (h : updOk kvs ps = true) (k1 : ∃ n, n ≤ 2 ∧ ∀ p ∈ kvs, PV.kkind p.1 = n) (k2 : ∃ n, n ≤ 2 ∧ ∀ p ∈ ps, PV.kkind p.1 = n) :
    ∃ n, n ≤ 2 ∧ (∀ p ∈ kvs, PV.kkind p.1 = n) ∧ (∀ p ∈ ps, PV.kkind p.1 = n) ∧ (n = 0 → kvs ≠ [] ∨ ps.length ≤ 1) := by
  cases kvs with
  | nil =>
    obtain ⟨n, hn, hp⟩ := k2
    refine ⟨n, hn, (fun _ h => nomatch h), hp, fun h0 => .inr ?_⟩
    match ps, h with
    | [], _ => exact Nat.zero_le _
    | [_], _ => exact Nat.le_refl _
    | p :: q :: r, h =>
      have := of_decide_eq_true (show decide (PV.kkind p.1 ≠ 0) = true from h)
      exact absurd ((hp p List.mem_cons_self).trans h0) this
  | cons q r =>
    obtain ⟨n, hn, hp⟩ := k1
    refine ⟨n, hn, hp, fun p hq => ?_, fun _ => .inl (fun e => nomatch e)⟩
    have h' : ps.all (fun p => kOk (q :: r) p.1) = true := by
      cases ps with
      | nil => rfl
      | cons a b => cases r <;> exact h
    obtain ⟨_, _, _, k4⟩ := kOk_ok (List.all_eq_true.mp h' p hq) ⟨n, hn, hp⟩
    rw [← k4 q List.mem_cons_self]
    exact hp q List.mem_cons_self
theorem nodup_le1 {α β : Type} (f : α → β) : ∀ {l : List α}, l.length ≤ 1 → (l.map f).Nodup
  | [], _ => List.nodup_nil
  | [x], _ => List.pairwise_singleton _ _
  | x :: y :: r, h => by simp at h
section
variable {G : GP} {X : Cx} {pins : List (Addr × Obj)} {σ : L2.St} {H : Hp} {s : Shared} {C : RC} {a b : Addr} {kvs ps : List (PV × PV)} {ob ob2 : Obj} {es es2 : List DictEntry}
theorem trel_type (I : Inv X pins σ H s) (ek : C.K = X.K) (hF : SubH C H) : ∀ {ps : List (PV × PV)} {ts : List (NestedKey × Addr × Value)}, TRel C ps ts → (∀ p ∈ ps, PV.kkind p.1 = 0) → ∀ x ∈ ts, s.TypeIs (.ref x.2.1) "tuple"
  | [], _, h, _, x, hx => by rw [show _ = [] from h] at hx; exact nomatch hx
  | (k, y) :: ps, ts, h, hz, x, hx => by
    obtain ⟨c, u, r, rfl, h1, _, h3⟩ := h
    rcases List.mem_cons.mp hx with rfl | hx
    · have hk := hz (k, y) List.mem_cons_self
      cases k with
      | tup xs =>
        obtain ⟨c', vs, e, hs, rr⟩ := h1
        cases e
        obtain ⟨its, rt, ⟨o, g0, g1, _⟩, _⟩ := I.tuple (ek ▸ sqT_le hF hs)
        exact ⟨o, g0, g1⟩
      | _ => simp [PV.kkind] at hk
    · exact trel_type I ek hF h3 (fun p hp => hz p (List.mem_cons_of_mem _ hp)) x hx
theorem upd_leaf {P : Program} {w : World} {A : Around} {E : Value → Shared → Prop} {κ : Type} [DecidableEq κ] (knd : PySem.KeyKind P w κ) {d o : Addr} {ts more : List (κ × Value)} {Q : Value → Shared → Prop} (hne : d ≠ o) (hs : (o == sysModules) = false)
    (hd : s.heap.DictOf knd d ts) (ho : s.heap.DictOf knd o more) (hz : ts.length + more.length ≤ sizeLine) (h : ∀ h', h'.DictOf knd d (merged ts more) → Heap.SameBut d s.heap h' → Q .none { s with heap := h' }) :
    wpAny (model P w) A (call (.builtin "dict.update") [.ref d, .ref o]) Q E s := by
  refine call_meetsIn PySem.F.slot_dict_update hd.typeIs PySem.F.entry_dict_update (PySem.F.args_dict_update_2 _ _) (meets_dict_update knd d o hne hs) ⟨ts, more, hd, ho, hz, fun h' a _ c => ?_⟩
  exact h h' a c
theorem d_upd (hu : X.A.units + 200 < cLine) (I : Inv X pins σ H s) (ek : C.K = X.K) (ew : C.w = X.w) (hF : SubH C H) (D : DAt C H a kvs ob es) (D2 : DAt C H b ps ob2 es2) (hne : a ≠ b) (hok : updOk kvs ps = true) (hl : kvs.length + ps.length ≤ LIM) {Q : Value → Shared → Prop}
    (q : ∀ t h', PutOk C s.heap h' a (dmerge kvs ps) → Q .none { s with heap := h', toks := t }) : wpAny (model X.prog X.w) X.A (call (.builtin "dict.update") [.ref a, .ref b]) Q X.xe s := by
  obtain ⟨n, hn, n1, n2, hz⟩ := upd_kind hok D.d.kind D2.d.kind
  have hg := D.get I ek
  have hg2 := D2.get I ek
  have ks : ∀ p ∈ ps, (p.1.keyOk = true ∧ p.1.depth ≤ 8) ∧ p.1.kkind = n := fun p hp => ⟨D2.d.keys p hp, n2 p hp⟩
  have ka : KAcc n kvs := ⟨D.d.keys, n1, D.d.nodup⟩
  obtain ⟨km, kl⟩ := kacc_merge ka ks
  have kl' := Nat.le_trans kl hl
  have hsz : kvs.length + ps.length ≤ sizeLine := by rw [← LIM_eq]; exact hl
  rcases kinds hn with rfl | rfl | rfl
  · obtain ⟨ts, kd, tr⟩ := D.d.tups I ek ew hF hg D.r n1
    obtain ⟨ts2, kd2, tr2⟩ := D2.d.tups I ek ew hF hg2 D2.r n2
    have l1 : ts.length = kvs.length := by have := congrArg List.length tr.keys; simpa using this
    have l2 : ts2.length = ps.length := by have := congrArg List.length tr2.keys; simpa using this
    refine call_update_dictH (knd := nestedKind X.prog X.w) (room8 hu) hne D2.d.sys kd kd2 ?_ (by rw [l1, l2]; exact hsz) fun h' hd' _ hs => q s.toks h' ⟨hs, back_tups ew hd' (trel_merge tr2 tr ka ks) D.d.sys kl' km.keys km.kind km.nodup⟩
    rcases hz rfl with hz | hz
    · refine .inl fun e => hz ?_
      rw [e] at l1
      exact List.length_eq_zero_iff.mp l1.symm
    · refine .inr ⟨trel_type I ek hF tr2 n2, ?_⟩
      exact nodup_le1 _ (by rw [l2]; exact hz)
  · obtain ⟨ts, kd, tr⟩ := D.d.leafs (L := intLK X.prog X.w) ew hg D.r n1
    obtain ⟨ts2, kd2, tr2⟩ := D2.d.leafs (L := intLK X.prog X.w) ew hg2 D2.r n2
    have l1 : ts.length = kvs.length := by have := congrArg List.length tr.keys; simpa using this
    have l2 : ts2.length = ps.length := by have := congrArg List.length tr2.keys; simpa using this
    refine upd_leaf (intLK X.prog X.w).knd hne D2.d.sys kd kd2 (by rw [l1, l2]; exact hsz) fun h' hd' hs => q s.toks h' ⟨hs, ?_⟩
    exact back_leafs (L := intLK X.prog X.w) ew hd' (prel_merge tr2 tr ka ks) D.d.sys kl' km.kind (show (1 : Nat) ≤ 2 by omega) km.nodup
  · obtain ⟨ts, kd, tr⟩ := D.d.leafs (L := strLK X.prog X.w) ew hg D.r n1
    obtain ⟨ts2, kd2, tr2⟩ := D2.d.leafs (L := strLK X.prog X.w) ew hg2 D2.r n2
    have l1 : ts.length = kvs.length := by have := congrArg List.length tr.keys; simpa using this
    have l2 : ts2.length = ps.length := by have := congrArg List.length tr2.keys; simpa using this
    refine upd_leaf (strLK X.prog X.w).knd hne D2.d.sys kd kd2 (by rw [l1, l2]; exact hsz) fun h' hd' hs => q s.toks h' ⟨hs, ?_⟩
    exact back_leafs (L := strLK X.prog X.w) ew hd' (prel_merge tr2 tr ka ks) D.d.sys kl' km.kind (show (2 : Nat) ≤ 2 by omega) km.nodup
/-- .. as a statement -/
def rUpd (G : GP) : V → V → Hp → (Hp → Prop) → Prop := fun x y H Q => ∃ C a b kvs ps ob es ob2 es2, C.K = G.K ∧ C.w = G.w ∧ SubH C H ∧ x = .ref a ∧ y = .ref b ∧ (a ≠ b ∨ C.K.lookup b = some ob2) ∧ H a = some (.ext (IsOb a ob)) ∧ DOb C.w a ob es kvs ∧ RepE C kvs es ∧ DAt C H b ps ob2 es2 ∧
  updOk kvs ps = true ∧ kvs.length + ps.length ≤ LIM ∧ ∀ ob' es', DOb C.w a ob' es' (dmerge kvs ps) → RepE C (dmerge kvs ps) es' → Q (upd H a (.ext (IsOb a ob')))
def tUpd (G : GP) (i : Nat) (e : E) : TE := fun σ H Q => ∃ a ob, σ[i]? = some (some (.ref a)) ∧ H a = some (.ext (IsOb a ob)) ∧ ob.ExactDict ∧ rd G e σ H fun y H1 => rUpd G (.ref a) y H1 fun H2 => Q .non H2
theorem pe_upd (O : XO G X) {i : Nat} {x : Str} {e : Expr} {e' : E} {p1 apos cpos : Pos} (hi : X.N[i]? = some x) (hx : Vis X.env.scope x) (hd : (x == ("__debug__" : Str)) = false) (hcd : (x == ("__classdict__" : Str)) = false) (hn : notStar e = true) (he : PE X e (rd G e'))
    (hbase : attributeBase (.Name x p1) "update" X.env (eval (.Name x p1) X.env) = eval (.Name x p1) X.env) (hline : (apos.endLine == cpos.line) = true) : PE X (.Call (.Attribute (.Name x p1) "update" apos) [e] [] cpos) (tUpd G i e') := by
  refine ⟨fun pins s σ H Q I h => ?_⟩
  obtain ⟨a, ob, e1, hH, hex, q⟩ := h
  have hstar : [e].all notStar = true := by rw [List.all_cons, hn]; rfl
  have hfew : ((backTo cpos (starEach [e] X.env)).all (fun x => !x.1) && (backToKw cpos (keywordEach [] X.env)).all (fun x => x.1.isSome) && decide ([e].length + ([] : List Keyword).length + (if ([] : List Keyword).isEmpty then 0 else 1) < 30)) = true := by
    have e1 : (backTo cpos (starEach [e] X.env)).all (fun x => !x.1) = true := by
      have := star_any (env := X.env) (pos := cpos) hstar
      rw [List.all_eq_not_any_not]
      simpa using this
    rw [e1]
    rfl
  refine wpAny_Call_method_late hbase hfew hline rfl (thn ((pe_var hi hx hd hcd).run pins s σ H (fun v H1 => v = .ref a ∧ H1 = H) I ⟨_, e1, rfl, rfl⟩) fun v s1 ⟨x, H1, I1, r1, h1, h2⟩ => ?_)
  subst h1 h2
  cases (show v = .ref a from r1)
  have hg : s1.heap.get? a = some ob := (I1.hok a _ hH).1
  refine ⟨"dict", "dict.update", PySem.F.plainAttrs_dict, PySem.F.slot_dict_update, PySem.F.type_dict_update, ⟨ob, hg, hex.1⟩, fun b e => by cases e; exact ⟨ob, hg, hex.2.1⟩, ?_⟩
  refine Calls.callWith_builtin (star_any hstar) (evalArgs_any hstar ?_)
  have hA := (SndL.cons (es := []) (es' := []) hn he .nil).star
  refine thn ((pa_cons he pa_nil (star_cons hn)).run cpos pins s1 σ H1 (fun vs H2 => ∃ y, vs = [y] ∧ rUpd G (.ref a) y H2 fun H2 => Q .non H2) I1 (rd_mono q fun y H2 r => ⟨y, rfl, r⟩)) fun us s2 ⟨vs, H2, I2, r2, y, ev, r⟩ => ?_
  subst ev
  obtain ⟨u, rfl, ru⟩ := r2.one
  obtain ⟨C, a', b, kvs, ps, ob1, es, ob2, es2, eK, ew, hF, e3, e4, hne, hH2, hd1, hr1, D2, hok, hl, fin⟩ := r
  cases e3
  subst e4
  cases (show u = .ref b from ru)
  have hne : a ≠ b := by
    rcases hne with h | h
    · exact h
    · rintro rfl
      have h' : X.K.lookup a = some ob2 := by rw [← eK.trans O.hK.symm]; exact h
      have := (I2.bs a ob2 (I2.ok.mod.kin a ob2 h')).2
      rw [hH2] at this; cases this
  refine d_upd O.units I2 (eK.trans O.hK.symm) (ew.trans O.hw.symm) hF ⟨.inl hH2, hd1, hr1⟩ D2 hne hok hl fun t h' P => ?_
  obtain ⟨ob', es', k1, k2, k3⟩ := P.ob
  exact ⟨.non, _, I2.write (x := a) (e := a) (o := .ext (IsOb a ob')) (t' := t) (by rw [hH2]; exact True.intro) (.inl rfl) (fun b u hb e => (P.same.2 b hb).trans e) ⟨ob', k1⟩ ⟨k1, ⟨_, k1⟩, fun h1 h2 e k => k _ e⟩, rfl, fin ob' es' k2 k3⟩
theorem upd_inv {Φ : Calls} {i : Nat} {e : E} {st st' : St} {fl : Flow} (h : ex Φ (.upd i e) st = .ok (fl, st')) :
    ∃ k0 st1 kvs ps, st.env[i]? = some (.own (.dct k0)) ∧ ev Φ e st = .ok (.dct ps, st1) ∧ st1.env[i]? = some (.own (.dct kvs)) ∧ updOk kvs ps = true ∧ kvs.length + ps.length ≤ LIM ∧ fl = .nx ∧ st' = { st1 with env := st1.env.set i (.own (.dct (dmerge kvs ps))) } := by
  rw [ex] at h
  split at h
  · rename_i k0 e0
    obtain ⟨⟨x, st1⟩, h1, h⟩ := bindR h
    split at h
    · rename_i kvs ps e1 e2
      obtain ⟨h3, h4⟩ := Res.of_ok h
      rw [Bool.and_eq_true] at h3
      cases h4
      cases (show x = .dct ps from e2)
      exact ⟨k0, st1, kvs, ps, e0, h1, e1, h3.1, of_decide_eq_true h3.2, rfl, rfl⟩
    · exact nomatch h
  · exact nomatch h
theorem rd_upd {i : Nat} {e' : E} (hb : isBor e' = false) {D : Ends} {σ : L2.St} {H : Hp} (h : rdS G (.upd i e') D σ H) : tDrop (tUpd G i e') D σ H := by
  obtain ⟨C, st, fl, st', hK, hw, R, hx, q⟩ := h
  obtain ⟨k0, st1, kvs, ps, e0, h1, e1, hok, hl, rfl, rfl⟩ := upd_inv hx
  obtain ⟨a, k1, k2, k3, ob0, es0, k4, k5, k6⟩ := R.own i _ e0
  refine ⟨a, ob0, k1, k4, k5.exact, rd_share hb hK hw R h1 fun v C1 H1 L1 R1 r1 => ?_⟩
  obtain ⟨a2, g1, g2, g3, ob, es, g4, g5, g6⟩ := R1.own i _ e1
  rw [k1] at g1; cases g1
  obtain ⟨b, ob2, es2, rfl, hkn, hd2, hr2⟩ := r1
  have hne : a ≠ b ∨ C1.K.lookup b = some ob2 := by
    rcases hkn with hkn | hkn
    · refine .inl ?_
      rintro rfl
      rw [g2] at hkn; cases hkn
    · exact .inr hkn
  refine ⟨C1, a, b, kvs, ps, ob, es, ob2, es2, L1.le.k.trans hK, L1.le.w.trans hw, R1.sub, rfl, rfl, hne, g4, g5, g6, ⟨hkn.imp (R1.sub _ _) id, hd2, hr2⟩, hok, hl, fun ob' es' m1 m2 => ?_⟩
  obtain ⟨RR, LS⟩ := R1.updO (p' := .dct (dmerge kvs ps)) (o' := .ext (IsOb a ob')) e1 k1 ⟨ob', es', upd_same, m1, m2⟩
  exact q C1 σ _ (L1.s.trans LS) RR
end
end Py
end

section
set_option Elab.async false
set_option linter.all false
set_option autoImplicit false
set_option maxRecDepth 100000
/-! From the program's tree to the small language; what does not fit becomes an expression that comes to nothing. -/
namespace Py
open PySem PySem.Spec PyProof.Rows L2

structure TC where
  N : List Str
  sc : Scope
  tgt : List (Str × NameKind)
  fns : List Str
  cons : List (Str × PV)
  free : List Str
  muts : List Nat
  cupf : Bool
def ixOf : List Str → Str → Option Nat
  | [], _ => none
  | y :: r, x => if y = x then some 0 else (ixOf r x).map (· + 1)
def memS : List Str → Str → Bool
  | [], _ => false
  | y :: r, x => decide (y = x) || memS r x
def memN : List Nat → Nat → Bool
  | [], _ => false
  | y :: r, x => Nat.beq y x || memN r x
def look {α : Type} : List (Str × α) → Str → Option α
  | [], _ => none
  | (y, v) :: r, x => if y = x then some v else look r x
def visB (sc : Scope) (x : Str) : Bool := match sc.names.lookup x with
  | some .local => true
  | some .cell => true
  | some .free => true
  | _ => false
def glB (sc : Scope) (x : Str) : Bool := match sc.names.lookup x with
  | some .globalImplicit => true
  | _ => false
/-- no name of the machine's own -/
def plainN (x : Str) : Bool := !(x == ("__debug__" : Str)) && !(x == ("__classdict__" : Str))
def nb : E → E
  | .bor _ => bad
  | e => e
def opOf : Operator → Option Op
  | .Add => some .add
  | .Sub => some .sub
  | .Mult => some .mul
  | .FloorDiv => some .fdiv
  | .Mod => some .mod
  | .Pow => some .pow
  | _ => none
def trName (c : TC) (x : Str) : E :=
  if plainN x then
    (if visB c.sc x then (match ixOf c.N x with | some i => .var i | none => bad)
    else if glB c.sc x then (match look c.cons x with | some v => .con x v | none => bad)
    else bad)
  else bad
def trO (c : TC) (f : Expr → E) : Expr → E
  | .Name x p => if plainN x && visB c.sc x then (match ixOf c.N x with | some i => .bor i | none => bad) else f (.Name x p)
  | e => f e
def lit : Const → E
  | .int i => .lit (.int i)
  | .bool b => .lit (.bl b)
  | .none => .lit .non
  | .str s => .lit (.str s)
  | _ => bad
def isSlice : Expr → Bool
  | .Slice .. => true
  | _ => false
def trSub (f fo : Expr → E) (a s : Expr) : E := match s with
  | .Slice (some l) (some u) none _ => .op (.slc true true) [fo a, f l, f u]
  | .Slice (some l) none none _ => .op (.slc true false) [fo a, f l]
  | .Slice none (some u) none _ => .op (.slc false true) [fo a, f u]
  | .Slice none none none _ => .op (.slc false false) [fo a]
  | .Slice none none (some (.UnaryOp .USub (.Constant (.int 1) _ _) _)) _ => .op .rev [fo a]
  | s => if isSlice s then bad else .op .idx [fo a, fo s]
def trB (f : Expr → E) (op : BoolOp) : List Expr → E
  | [] => bad
  | [a] => f a
  | a :: b :: r => match op with
    | .And => .and (f a) (trB f op (b :: r))
    | .Or => .or (f a) (trB f op (b :: r))
def short (es : List E) : Bool := decide (es.length ≤ 1000)
def trBlt (c : TC) (fo : Expr → E) (x : Str) (args : List Expr) : E :=
  if memS c.free x then (match bifOf x with
    | some b => (match args with | [] => bad | a :: r => .op (.bif b) ((a :: r).map fo))
    | none =>
      if x = "dict" then (match args with | [a] => .op (.bif .dict) [fo a] | _ => bad)
      else if x = "isinstance" then (match args with
        | [a, .Name y _] => (match tyOf y with | some t => if memS c.free y && glB c.sc y then .op (.isi t) [fo a] else bad | none => bad)
        | _ => bad)
      else bad)
  else bad
def trCall (c : TC) (f fo : Expr → E) (x : Str) (args : List Expr) : E :=
  if args.all notStar && plainN x && glB c.sc x then
    (match ixOf c.fns x with
      | some k => .call k (args.map f)
      | none => trBlt c fo x args)
  else bad
def notCall : Expr → Bool
  | .Call _ [] _ _ => false
  | _ => true
def methOf (m : Str) (n : Nat) : Option Op :=
  if m = "get" then (match n with | 1 => some .get1 | 2 => some .get2 | _ => none)
  else if m = "index" then (match n with | 1 => some .index | _ => none)
  else if m = "count" then (match n with | 1 => some .count | _ => none)
  else none
def trMeth (c : TC) (f fo : Expr → E) (o : Expr) (m : Str) (apos cpos : Pos) (args : List Expr) : E :=
  if args.all notStar && notCall o && (apos.endLine == cpos.line) && decide (args.length < 29) then
    (match methOf m args.length with
      | some op => .meth op (fo o) (args.map f)
      | none => if m = "pop" then (match o, args with
          | .Name x _, [] => if plainN x && visB c.sc x then (match ixOf c.N x with | some i => .pop i | none => bad) else bad
          | _, _ => bad) else bad)
  else bad
def trP : Nat → TC → Expr → Option Pat
  | 0, _, _ => none
  | n + 1, c, e => match e with
    | .Name x _ => (match c.tgt.lookup x with
      | some .local => (ixOf c.N x).map .nm
      | some .cell => (ixOf c.N x).map .nm
      | _ => none)
    | .Tuple es _ _ => (es.mapM (trP n c)).map .tup
    | _ => none
def ownOf (N : List Str) : List (Str × NameKind) → List (Str × Nat)
  | [] => []
  | (x, k) :: r => match k with
    | .local => (match ixOf N x with | some i => (x, i) :: ownOf N r | none => ownOf N r)
    | .cell => (match ixOf N x with | some i => (x, i) :: ownOf N r | none => ownOf N r)
    | _ => ownOf N r
def notSet : Expr → Bool
  | .Set .. => false
  | _ => true
def isTup : Expr → Bool
  | .Tuple .. => true
  | _ => false
def trI (c : TC) (f : Expr → E) (tg it : Expr) : E := match it with
  | .Call (.Name x p) args [] pos =>
    if args.all notStar && glB c.sc x && memS c.free x && plainN x then
      (if x = "range" then (match args with | [a] => .itr .range1 [f a] | [a, b] => .itr .range2 [f a, f b] | _ => bad)
      else if x = "enumerate" then (match args with | [a] => if isTup tg then .itr .enum [f a] else bad | _ => bad)
      else if x = "zip" then (match args with | [a, b] => if isTup tg then .itr .zip [f a, f b] else bad | _ => bad)
      else f it)
    else f it
  | _ => f it
def trIf (f : Expr → E) : List Expr → E
  | [] => .lit (.bl true)
  | [t] => f t
  | _ => bad
def blkT (c : TC) (scope : Scope) : TC := { c with sc := relS scope c.sc, tgt := scope.names, cupf := false }
def trPr (f : Expr → E) : List (Option Expr) → List Expr → Option (List E)
  | [], [] => some []
  | some k :: ks, v :: vs => (trPr f ks vs).map fun es => f k :: f v :: es
  | _, _ => none
def trE : Nat → TC → Expr → E
  | 0, _, _ => bad
  | n + 1, c, e => nb (match e with
    | .Constant k _ _ => lit k
    | .Name x _ => trName c x
    | .BinOp a op b _ => (match opOf op with | some o => .op o [trO c (trE n c) a, trO c (trE n c) b] | none => bad)
    | .UnaryOp .Not a _ => .not (trE n c a)
    | .UnaryOp .USub a _ => .op .neg [trO c (trE n c) a]
    | .BoolOp op es _ => trB (trE n c) op es
    | .Compare a [o] [b] _ => if behindInMarks o b then bad else .op (.cmp o) [trO c (trE n c) a, trO c (trE n c) b]
    | .Compare a [o1, o2] [b, d] _ => if lastMarks [o1, o2] [b, d] then bad else .chain o1 o2 (trE n c a) (trE n c b) (trE n c d)
    | .IfExp t a b _ => .ite (trE n c t) (trE n c a) (trE n c b)
    | .Subscript a s _ => trSub (trE n c) (trO c (trE n c)) a s
    | .Tuple es _ _ => if es.all notStar && short (es.map (trE n c)) then .op .tup (es.map (trE n c)) else bad
    | .List es _ => if es.all notStar && short (es.map (trE n c)) then .op .lst (es.map (trE n c)) else bad
    | .Dict [] [] _ => .op .dct []
    | .Dict ks vs _ => (match trPr (trE n c) ks vs with | some es => if decide (ks.length ≤ 15) && !ks.isEmpty then .op .dct es else bad | none => bad)
    | .Call (.Name x _) args [] _ => trCall c (trE n c) (trO c (trE n c)) x args
    | .Call (.Attribute o m apos) args [] cpos => trMeth c (trE n c) (trO c (trE n c)) o m apos cpos args
    | .ListComp elt [⟨tg, it, ifs, 0⟩] scope _ =>
      (match trP n (blkT c scope) tg with
        | some p => if blkC c.N c.sc scope (ownOf c.N scope.names) && notSet it && (pvs p).all (memN ((ownOf c.N scope.names).map (·.2)))
          then .lc ((ownOf c.N scope.names).map (·.2)) p (trI c (trE n c) tg it) (trIf (trE n (blkT c scope)) ifs) (trE n (blkT c scope) elt) else bad
        | none => bad)
    | .ListComp elt [⟨tg, it, ifs, 0⟩, ⟨tg1, it1, ifs1, 0⟩] scope _ =>
      (match trP n (blkT c scope) tg, trP n (blkT c scope) tg1 with
        | some p, some p1 => if blkC c.N c.sc scope (ownOf c.N scope.names) && notSet it && notSet it1 && (pvs p).all (memN ((ownOf c.N scope.names).map (·.2))) && (pvs p1).all (memN ((ownOf c.N scope.names).map (·.2)))
          then .lc2 ((ownOf c.N scope.names).map (·.2)) p (trI c (trE n c) tg it) (trIf (trE n (blkT c scope)) ifs) (pvs p1) p1 (trI (blkT c scope) (trE n (blkT c scope)) tg1 it1) (trIf (trE n (blkT c scope)) ifs1) (trE n (blkT c scope) elt) else bad
        | _, _ => bad)
    | .DictComp k v [⟨tg, it, ifs, 0⟩] scope _ =>
      (match trP n (blkT c scope) tg with
        | some p => if blkC c.N c.sc scope (ownOf c.N scope.names) && notSet it && (pvs p).all (memN ((ownOf c.N scope.names).map (·.2)))
          then .dc ((ownOf c.N scope.names).map (·.2)) p (trI c (trE n c) tg it) (trIf (trE n (blkT c scope)) ifs) (trE n (blkT c scope) k) (trE n (blkT c scope) v) else bad
        | none => bad)
    | _ => bad)
end Py
end

section
set_option Elab.async false
set_option linter.all false
set_option autoImplicit false
set_option maxRecDepth 100000
/-! The translation of expressions is sound. -/
namespace Py
open PySem PySem.Spec PyProof.Rows L2

theorem ixOf_ok : ∀ {N : List Str} {x : Str} {i : Nat}, ixOf N x = some i → N[i]? = some x
  | [], _, _, h => nomatch h
  | y :: r, x, i, h => by
    unfold ixOf at h
    split at h
    · rename_i e; cases h; rw [e]; rfl
    · obtain ⟨j, h1, rfl⟩ := Option.map_eq_some_iff.mp h
      simpa using ixOf_ok h1
theorem memS_ok : ∀ {N : List Str} {x : Str}, memS N x = true → x ∈ N
  | [], _, h => nomatch h
  | y :: r, x, h => by
    unfold memS at h
    rw [Bool.or_eq_true] at h
    rcases h with h | h
    · rw [of_decide_eq_true h]; exact List.mem_cons_self
    · exact List.mem_cons_of_mem _ (memS_ok h)
theorem memN_ok : ∀ {N : List Nat} {x : Nat}, memN N x = true → x ∈ N
  | [], _, h => nomatch h
  | y :: r, x, h => by
    unfold memN at h
    rw [Bool.or_eq_true] at h
    rcases h with h | h
    · rw [Nat.eq_of_beq_eq_true h]; exact List.mem_cons_self
    · exact List.mem_cons_of_mem _ (memN_ok h)
theorem look_mem {α : Type} : ∀ {l : List (Str × α)} {x : Str} {v : α}, look l x = some v → (x, v) ∈ l
  | [], _, _, h => nomatch h
  | (y, w) :: r, x, v, h => by
    unfold look at h
    split at h
    · rename_i e; cases h; rw [e]; exact List.mem_cons_self
    · exact List.mem_cons_of_mem _ (look_mem h)
theorem plainN_ok {x : Str} (h : plainN x = true) : (x == ("__debug__" : Str)) = false ∧ (x == ("__classdict__" : Str)) = false := by
  unfold plainN at h
  rw [Bool.and_eq_true] at h
  exact ⟨by simpa using h.1, by simpa using h.2⟩
structure XT (G : GP) (X : Cx) (c : TC) : Prop where
  o : XO G X
  sc : X.env.scope = c.sc
  N : X.N = c.N
  tgtL : ∀ x, c.tgt.lookup x = some .local → c.sc.names.lookup x = some .local
  tgtC : ∀ x, c.tgt.lookup x = some .cell → c.sc.names.lookup x = some .cell ∧ X.fn x = true
  fns : ∀ k x, c.fns[k]? = some x → FnK G X k x
  cons : ∀ x v, (x, v) ∈ c.cons → ∃ u vv, X.mg x = some u ∧ RelV vv u ∧ ∀ C : RC, C.K = G.K → C.w = G.w → Rep C v vv
  free : ∀ x ∈ c.free, X.mg x = none
theorem relS_keep {scope sc : Scope} {x : Str} {k : NameKind} (hk : k ≠ .free) (h : scope.names.lookup x = some k) : (relS scope sc).names.lookup x = some k := lookup_relS_keep hk h
theorem XT.blk {G : GP} {X : Cx} {c : TC} (T : XT G X c) (scope : Scope) (s : Shared) (H : Hp) (C : Addr) (cl : List (Str × Addr)) (fp : List Addr) : XT G (X.blk s H scope (compEnvC scope cl C X.env) fp) (blkT c scope) := by
  refine ⟨⟨T.o.hK, T.o.hw, T.o.calm, T.o.units, T.o.nd⟩, ?_, T.N, fun x h => relS_keep (by decide) h, fun x h => ⟨relS_keep (by decide) h, ?_⟩, T.fns, T.cons, T.free⟩
  · show relS scope X.env.scope = relS scope c.sc
    rw [T.sc]
  · show (scope.names.lookup x == some .cell) = true
    rw [show scope.names.lookup x = some .cell from h]
    rfl
section
variable {G : GP} {X : Cx} {c : TC}
theorem visB_ok (T : XT G X c) {x : Str} (h : visB c.sc x = true) : Vis X.env.scope x := by
  unfold visB at h
  rw [← T.sc] at h
  split at h
  · rename_i e; exact .inl e
  · rename_i e; exact .inr (.inl e)
  · rename_i e; exact .inr (.inr e)
  · cases h
theorem glB_ok (T : XT G X c) {x : Str} (h : glB c.sc x = true) : Gl X x := by
  unfold glB at h
  rw [← T.sc] at h
  split at h
  · rename_i e; exact e
  · cases h
theorem isBor_nb (e : E) : isBor (nb e) = false := by cases e <;> rfl
theorem pe_nb {e : Expr} {e' : E} (h : PE X e (rd G e')) : PE X e (rd G (nb e')) := by
  cases e' <;> first | exact h | exact pe_bad
theorem pt_nb {e : Expr} {e' : E} (h : PT X e (rdT G e')) : PT X e (rdT G (nb e')) := by
  cases e' <;> first | exact h | exact pt_bad
theorem p_name (T : XT G X c) {x : Str} {p : Pos} : PE X (.Name x p) (rd G (trName c x)) := by
  unfold trName
  split
  · rename_i hp
    obtain ⟨hd, hcd⟩ := plainN_ok hp
    split
    · rename_i hv
      split
      · rename_i i hi
        exact (pe_var (T.N ▸ ixOf_ok hi) (visB_ok T hv) hd hcd).imp fun _ _ _ h => rd_var h
      · exact pe_bad
    · split
      · rename_i hg
        split
        · rename_i v hl
          obtain ⟨u, vv, h1, h2, h3⟩ := T.cons x v (look_mem hl)
          exact (pe_glob (glB_ok T hg) h1 h2 hd).imp fun _ _ _ h => rd_con h3 h
        · exact pe_bad
      · exact pe_bad
  · exact pe_bad
theorem p_opnd (T : XT G X c) {f : Expr → E} (hf : ∀ e, PE X e (rd G (f e))) (e : Expr) : PE X e (rd G (trO c f e)) := by
  cases e with
  | Name x p =>
    show PE X (.Name x p) (rd G (if plainN x && visB c.sc x then (match ixOf c.N x with | some i => .bor i | none => bad) else f (.Name x p)))
    split
    · rename_i h
      rw [Bool.and_eq_true] at h
      obtain ⟨hd, hcd⟩ := plainN_ok h.1
      split
      · rename_i i hi
        exact (pe_var (T.N ▸ ixOf_ok hi) (visB_ok T h.2) hd hcd).imp fun _ _ _ h => rd_bor h
      · exact pe_bad
    · exact hf _
  | _ => exact hf _
theorem p_lit {k : Const} {j : Nat} {pos : Pos} : PE X (.Constant k j pos) (rd G (lit k)) := by
  cases k with
  | int i => exact pe_int.imp fun _ _ _ h => rd_lit (p := .int i) (v := .int i) (fun _ => rfl) h
  | bool b => exact pe_bl.imp fun _ _ _ h => rd_lit (p := .bl b) (v := .bl b) (fun _ => rfl) h
  | none => exact pe_non.imp fun _ _ _ h => rd_lit (p := .non) (v := .non) (fun _ => rfl) h
  | str s => exact pe_str.imp fun _ _ _ h => rd_lit (p := .str s) (v := .str s) (fun _ => rfl) h
  | _ => exact pe_bad
theorem sndl {f : Expr → E} (hf : ∀ e, PE X e (rd G (f e))) : ∀ {es : List Expr}, es.all notStar = true → SndL G X es (es.map f)
  | [], _ => .nil
  | e :: es, h => by
    rw [List.all_cons, Bool.and_eq_true] at h
    exact .cons h.1 (hf e) (sndl hf h.2)
theorem noBor_map {f : Expr → E} (hf : ∀ e, isBor (f e) = false) : ∀ es : List Expr, noBor (es.map f) = true
  | [] => rfl
  | e :: es => by
    rw [List.map_cons]
    have := noBor_map hf es
    unfold noBor at this ⊢
    rw [List.all_cons, hf e, this]; rfl
theorem plainIx_of {s : Expr} (h : isSlice s = false) : PlainIx s := by
  intro o i
  cases s <;> first | rfl | exact absurd h (fun e => Bool.noConfusion e)
/-! ### slices, and, or, calls -/
theorem p_sub (T : XT G X c) {f fo : Expr → E} (hf : ∀ e, PE X e (rd G (f e))) (ho : ∀ e, PE X e (rd G (fo e))) (hb : ∀ e, isBor (f e) = false) {a s : Expr} {pos : Pos} : PE X (.Subscript a s pos) (rd G (trSub f fo a s)) := by
  unfold trSub
  split
  · exact n_slc_tt T.o (hb _) (hb _) (ho _) (hf _) (hf _)
  · exact n_slc_tf T.o (hb _) (ho _) (hf _)
  · exact n_slc_ft T.o (hb _) (ho _) (hf _)
  · exact n_slc_ff T.o (ho _)
  · exact n_rev T.o (ho _)
  · split
    · exact pe_bad
    · rename_i h
      exact n_idx T.o (ho _) (ho _) (plainIx_of (by simpa using h))
theorem trB_nb {f : Expr → E} (hb : ∀ e, isBor (f e) = false) {op : BoolOp} : ∀ es : List Expr, isBor (trB f op es) = false
  | [] => rfl
  | [a] => hb a
  | a :: b :: r => by unfold trB; cases op <;> rfl
theorem p_boolE {f : Expr → E} (hf : ∀ e, PE X e (rd G (f e))) (hb : ∀ e, isBor (f e) = false) {op : BoolOp} {pos : Pos} : ∀ es : List Expr, PE X (.BoolOp op es pos) (rd G (trB f op es))
  | [] => pe_bad
  | [a] => pe_one (hf a)
  | a :: b :: r => by
    unfold trB
    cases op with
    | And => exact (pe_and (hf a) (p_boolE hf hb (b :: r))).imp fun _ _ _ h => rd_and (trB_nb hb _) h
    | Or => exact (pe_or (hf a) (p_boolE hf hb (b :: r))).imp fun _ _ _ h => rd_or (trB_nb hb _) h
theorem pw_bad {e : Expr} : PW X e (rdT G bad) := ⟨fun _ _ _ _ _ _ _ h => (rdT_bad h).elim⟩
theorem p_boolT {f : Expr → E} (hf : ∀ e, PT X e (rdT G (f e))) {op : BoolOp} {pos : Pos} : ∀ es : List Expr, PW X (.BoolOp op es pos) (rdT G (trB f op es))
  | [] => pw_bad
  | [a] => by
    cases op with
    | And => exact pw_and1 (hf a)
    | Or => exact pw_or1 (hf a)
  | a :: b :: r => by
    unfold trB
    cases op with
    | And => exact (pw_and (hf a) (p_boolT hf (b :: r))).imp fun _ _ _ h => rdT_and h
    | Or => exact (pw_or (hf a) (p_boolT hf (b :: r))).imp fun _ _ _ h => rdT_or h
theorem n_dict (O : XO G X) {a : Expr} {a' : E} {p pos : Pos} (hg : Gl X "dict") (hm : X.mg "dict" = none) (hn : notStar a = true) (ha : PE X a (rd G a')) : PE X (.Call (.Name "dict" p) [a] [] pos) (rd G (.op (.bif .dict) [a'])) :=
  n_callTy (u_dict O) hg hm bt_dict (by decide) (by decide) (.cons hn ha .nil)
theorem p_blt (T : XT G X c) {fo : Expr → E} (ho : ∀ e, PE X e (rd G (fo e))) {x : Str} {args : List Expr} {p pos : Pos} (hs : args.all notStar = true) (hg : Gl X x) : PE X (.Call (.Name x p) args [] pos) (rd G (trBlt c fo x args)) := by
  unfold trBlt
  split
  · rename_i hfree
    have hm := T.free x (memS_ok hfree)
    split
    · rename_i b hb
      cases args with
      | nil => exact pe_bad
      | cons a r => exact n_bif T.o hb hg hm (sndl ho hs)
    · split
      · rename_i e; subst e
        split
        · rename_i a
          rw [List.all_cons, Bool.and_eq_true] at hs
          exact n_dict T.o hg hm hs.1 (ho a)
        · exact pe_bad
      · split
        · rename_i e
          split
          · rename_i a y p2
            split
            · rename_i t ht
              split
              · rename_i h
                rw [Bool.and_eq_true] at h
                rw [List.all_cons, Bool.and_eq_true] at hs
                exact n_isi T.o e hg hm hs.1 (ho a) ht (glB_ok T h.2) (T.free y (memS_ok h.1))
              · exact pe_bad
            · exact pe_bad
          · exact pe_bad
        · exact pe_bad
  · exact pe_bad
theorem p_call (T : XT G X c) {f fo : Expr → E} (hf : ∀ e, PE X e (rd G (f e))) (ho : ∀ e, PE X e (rd G (fo e))) (hb : ∀ e, isBor (f e) = false) {x : Str} {args : List Expr} {p pos : Pos} : PE X (.Call (.Name x p) args [] pos) (rd G (trCall c f fo x args)) := by
  unfold trCall
  split
  · rename_i h
    rw [Bool.and_eq_true, Bool.and_eq_true] at h
    obtain ⟨⟨hs, hp⟩, hg⟩ := h
    have hg := glB_ok T hg
    split
    · rename_i k hk
      exact n_call (T.fns k x (ixOf_ok hk)) hg (plainN_ok hp).1 (noBor_map hb args) (sndl hf hs)
    · exact p_blt T ho hs hg
  · exact pe_bad
theorem attrBase {o : Expr} {m : Str} {env : Env} {t : Sem Value} (h : notCall o = true) : attributeBase o m env t = t := by
  cases o with
  | Call f args kw pos =>
    cases args with
    | nil => exact nomatch h
    | cons a r => cases f <;> rfl
  | _ => rfl
theorem methOk_of (O : XO G X) {m : Str} {n : Nat} {op : Op} (h : methOf m n = some op) : MethOk G X m op ∧ freshO op = false := by
  unfold methOf at h
  split at h
  · rename_i e; subst e
    split at h
    · cases h; exact ⟨m_get1 O, rfl⟩
    · cases h; exact ⟨m_get2 O, rfl⟩
    · cases h
  split at h
  · rename_i e; subst e
    split at h
    · cases h; exact ⟨m_index O, rfl⟩
    · cases h
  split at h
  · rename_i e; subst e
    split at h
    · cases h; exact ⟨m_count O, rfl⟩
    · cases h
  cases h
theorem p_meth (T : XT G X c) {f fo : Expr → E} (hf : ∀ e, PE X e (rd G (f e))) (ho : ∀ e, PE X e (rd G (fo e))) (hb : ∀ e, isBor (f e) = false) {o : Expr} {m : Str} {apos cpos : Pos} {args : List Expr} :
    PE X (.Call (.Attribute o m apos) args [] cpos) (rd G (trMeth c f fo o m apos cpos args)) := by
  unfold trMeth
  split
  · rename_i h
    simp only [Bool.and_eq_true] at h
    obtain ⟨⟨⟨hs, hn⟩, hl⟩, hlen⟩ := h
    split
    · rename_i op hop
      obtain ⟨M, hfr⟩ := methOk_of T.o hop
      exact n_meth T.o M hfr (ho o) (noBor_map hb args) (sndl hf hs) (attrBase hn) hl hlen
    · split
      · rename_i e; subst e
        split
        · rename_i x p1
          split
          · rename_i h
            rw [Bool.and_eq_true] at h
            obtain ⟨hd, hcd⟩ := plainN_ok h.1
            split
            · rename_i i hi
              exact n_pop T.o (T.N ▸ ixOf_ok hi) (visB_ok T h.2) hd hcd (attrBase hn) hl
            · exact pe_bad
          · exact pe_bad
        · exact pe_bad
      · exact pe_bad
  · exact pe_bad
/-! ### targets, what is walked -/
theorem assignEach_cons {e : Expr} {es : List Expr} {env : Env} (h : notStar e = true) : assignEach (e :: es) env = (false, assign e env) :: assignEach es env := by
  cases e <;> first | rfl | exact absurd h (fun e => Bool.noConfusion e)
theorem trP_star : ∀ {n : Nat} {c : TC} {e : Expr} {p : Pat}, trP n c e = some p → notStar e = true
  | 0, _, _, _, h => nomatch h
  | n + 1, c, e, p, h => by
    cases e <;> first | rfl | exact nomatch h
theorem assignEach_ok : ∀ {es : List Expr} {env : Env}, es.all notStar = true → (assignEach es env).length = es.length ∧ (assignEach es env).findIdx? (·.1) = none
  | [], _, _ => ⟨rfl, rfl⟩
  | e :: es, env, h => by
    rw [List.all_cons, Bool.and_eq_true] at h
    obtain ⟨h1, h2⟩ := assignEach_ok (env := env) h.2
    rw [assignEach_cons h.1]
    refine ⟨by rw [List.length_cons, List.length_cons, h1], ?_⟩
    rw [List.findIdx?_cons, h2]; rfl
theorem pg_cell (T : XT G X c) {x : Str} {i : Nat} {pos : Pos} (hi : ixOf c.N x = some i) (h : c.tgt.lookup x = some .local ∨ c.tgt.lookup x = some .cell) : PG X (.Name x pos) (gName i) := by
  rcases h with h | h
  · have := T.tgtL x h
    rw [← T.sc] at this
    exact pg_name T.o.nd (T.N ▸ ixOf_ok hi) (.inl this) (.inr this)
  · obtain ⟨h1, h2⟩ := T.tgtC x h
    rw [← T.sc] at h1
    exact pg_name T.o.nd (T.N ▸ ixOf_ok hi) (.inr h1) (.inl h2)
theorem p_pat (T : XT G X c) : ∀ {n : Nat} {e : Expr} {p : Pat}, trP n c e = some p → PG X e (gP G.K p) := by
  intro n
  induction n with
  | zero => intro e p h; exact nomatch h
  | succ n ih =>
    intro e p h
    cases e with
    | Name x pos =>
      have h : (match c.tgt.lookup x with | some .local => (ixOf c.N x).map Pat.nm | some .cell => (ixOf c.N x).map Pat.nm | _ => none) = some p := h
      split at h
      · rename_i e
        obtain ⟨i, h1, rfl⟩ := Option.map_eq_some_iff.mp h
        exact pg_cell T h1 (.inl e)
      · rename_i e
        obtain ⟨i, h1, rfl⟩ := Option.map_eq_some_iff.mp h
        exact pg_cell T h1 (.inr e)
      · exact nomatch h
    | Tuple es k pos =>
      obtain ⟨ps, h1, rfl⟩ := Option.map_eq_some_iff.mp (show (es.mapM (trP n c)).map Pat.tup = some p from h)
      have key : ∀ {es : List Expr} {ps : List Pat}, es.mapM (trP n c) = some ps → es.all notStar = true ∧ PGs X es (gPs G.K ps) ∧ ps.length = es.length := by
        intro es
        induction es with
        | nil => intro ps h; cases h; exact ⟨rfl, pgs_nil, rfl⟩
        | cons e es ihs =>
          intro ps h
          rw [List.mapM_cons] at h
          obtain ⟨p, k1, h⟩ := Option.bind_eq_some_iff.mp h
          obtain ⟨ps', k2, h⟩ := Option.bind_eq_some_iff.mp h
          cases h
          obtain ⟨g1, g2, g3⟩ := ihs k2
          have hs := trP_star k1
          refine ⟨by rw [List.all_cons, hs, g1]; rfl, pgs_cons (ih k1) g2 (by rw [assignEach_cons hs]; rfl), by rw [List.length_cons, List.length_cons, g3]⟩
      obtain ⟨g1, g2, g3⟩ := key h1
      obtain ⟨k1, k2⟩ := assignEach_ok (env := X.env) g1
      show PG X _ (gTup G.K ps.length (gPs G.K ps))
      rw [← T.o.hK]
      exact pg_tup T.o.calm (by rw [T.o.hK]; exact g2) (k1.trans g3.symm) k2
    | _ => exact nomatch h
theorem isTup_ok {e : Expr} (h : isTup e = true) : ∃ es k pos, e = .Tuple es k pos := by
  cases e <;> first | exact ⟨_, _, _, rfl⟩ | exact absurd h (fun e => Bool.noConfusion e)
theorem p_iter (T : XT G X c) {f : Expr → E} (hf : ∀ e, PE X e (rd G (f e))) (hb : ∀ e, isBor (f e) = false) {tg it : Expr} : PI X tg it (rdI G (trI c f tg it)) := by
  unfold trI
  split
  · rename_i x p args pos
    split
    · rename_i h
      simp only [Bool.and_eq_true] at h
      obtain ⟨⟨⟨hs, hg⟩, hfr⟩, hp⟩ := h
      have hg := glB_ok T hg
      have hm := T.free x (memS_ok hfr)
      have pb : ∀ {it : Expr}, PI X tg it (rdI G bad) := ⟨fun pins s σ H R I h => by
        obtain ⟨C, st, p, st', xs, hK, hw, Rl, hev, hl, q⟩ := h
        exact (rd_bad (Q := fun _ _ => True) ⟨C, st, p, st', hK, hw, Rl, hev, fun _ _ _ _ _ _ => trivial⟩).elim⟩
      split
      · rename_i e; subst e
        split
        · rename_i a
          simp only [List.all_cons, Bool.and_eq_true] at hs
          exact p_range1 (hb a) hs.1 hg hm (hf a)
        · rename_i a b
          simp only [List.all_cons, Bool.and_eq_true] at hs
          exact p_range2 (hb a) (hb b) hs.1 hs.2.1 hg hm (hf a) (hf b)
        · exact pb
      · split
        · rename_i e; subst e
          split
          · rename_i a
            split
            · rename_i ht
              obtain ⟨es, k, tp, rfl⟩ := isTup_ok ht
              simp only [List.all_cons, Bool.and_eq_true] at hs
              exact p_enum (hb a) hs.1 hg hm (hf a)
            · exact pb
          · exact pb
        · split
          · rename_i e; subst e
            split
            · rename_i a b
              split
              · rename_i ht
                obtain ⟨es, k, tp, rfl⟩ := isTup_ok ht
                simp only [List.all_cons, Bool.and_eq_true] at hs
                exact p_zip T.o (hb a) (hb b) hs.1 hs.2.1 hg hm (hf a) (hf b)
              · exact pb
            · exact pb
          · exact p_val T.o (hb _) (hf _)
    · exact p_val T.o (hb _) (hf _)
  · exact p_val T.o (hb _) (hf _)
theorem folded {it : Expr} (h : notSet it = true) (env : Env) (x : Value) : foldedSetIterable it env x = pure x := by
  cases it <;> first | rfl | exact absurd h (fun e => Bool.noConfusion e)
theorem p_ifs {f : Expr → E} (hf : ∀ e, PT X e (rdT G (f e))) : ∀ {ifs : List Expr}, PTs X ifs (rdT G (trIf f ifs))
  | [] => ⟨fun pins s σ H Q I h => by
    obtain ⟨C, st, b, st', hK, hw, R, he, q⟩ := h
    cases (show Res.ok (PV.bl true, st) = Res.ok (.bl b, st') from he)
    exact pts_nil.run pins s σ H Q I (q C H .refl R)⟩
  | [t] => pts_one (hf t)
  | _ :: _ :: _ => ⟨fun pins s σ H Q I h => (rdT_bad h).elim⟩
/-! ### the random state -/
theorem ev_newcup {Φ : Calls} {a b : E} {st st' : St} {p : PV} (h : ev Φ (.newcup a b) st = .ok (p, st')) : ∃ x st1 y st2, ev Φ a st = .ok (.int x, st1) ∧ ev Φ b st1 = .ok (.int y, st2) ∧ st2.cup = none ∧ p = .cup ∧ st' = { st2 with cup := some (x, y) } := by
  rw [ev] at h
  obtain ⟨⟨p1, st1⟩, h1, h⟩ := bindR h
  obtain ⟨⟨p2, st2⟩, h2, h⟩ := bindR h
  split at h
  · rename_i x y e1 e2 e3
    cases h
    have e1 : p1 = .int x := e1
    have e2 : p2 = .int y := e2
    subst e1 e2
    exact ⟨x, st1, y, st2, h1, h2, e3, rfl, rfl⟩
  · exact nomatch h
theorem n_newcup {a b : Expr} {a' b' : E} {pos : Pos} (na : notStar a = true) (nb' : notStar b = true) (ha : PE X a (rd G a')) (hb : PE X b (rd G b')) : PE X (.List [a, b] pos) (rd G (.newcup a' b')) :=
  (pe_lst (pa_cons ha (pa_cons hb pa_nil (star_cons nb')) (star_cons na))).imp fun σ H Q h => by
  obtain ⟨C, st, p, st', hK, hw, R, he, q⟩ := h
  obtain ⟨x, st1, y, st2, h1, h2, h3, rfl, rfl⟩ := ev_newcup he
  refine ⟨C, st, _, st1, hK, hw, R, h1, fun v C1 H1 L1 R1 r1 => ?_⟩
  cases res_int r1
  refine ⟨C1, st1, _, st2, L1.le.k.trans hK, L1.le.w.trans hw, R1, h2, fun v2 C2 H2 L2 R2 r2 => ?_⟩
  cases res_int r2
  refine ⟨by show 2 ≤ sizeLine; decide, fun p hp => ?_⟩
  have LL := L1.trans L2
  have c0 := R2.nocup h3
  have hFp : C2.F p = none := by
    cases e : C2.F p with
    | none => rfl
    | some u => have := R2.sub p u e; rw [hp] at this; cases this
  have le : C2.Le { C2 with cp := some p } := ⟨rfl, rfl, fun _ _ h => h, fun c h => by rw [c0] at h; cases h⟩
  have ne : ∀ {b o}, H2 b = some o → upd H2 p (.lst [.int x, .int y]) b = some o := fun {b o} h => by rw [upd_ne (ne_of_none h hp)]; exact h
  refine q _ { C2 with cp := some p } _ ⟨LL.le.trans le, fun b o h hw hc => ne (LL.keep b o h hw hc), fun b o h => ?_, LL.fnew, fun c h => ?_, LL.ow⟩ ⟨fun b u e => ne (R2.sub b u e), R2.len, fun i z hz => ?_, fun i z hz => ?_, R2.apart, fun x' y' e => ?_, fun e => (by cases e), fun c e => ?_⟩ ?_
  · obtain ⟨o', e⟩ := LL.there b o h
    exact ⟨o', ne e⟩
  · cases h; exact .inr (gone LL hp)
  · obtain ⟨v, e, r⟩ := R2.slot i z hz
    exact ⟨v, e, Rep.le le _ _ r⟩
  · obtain ⟨a, e, g1, g2, g3⟩ := R2.own i z hz
    obtain ⟨o, ho⟩ := g3.some
    exact ⟨a, e, g1, fun e2 => (by cases e2; rw [hp] at ho; cases ho), g3.le le (by rw [ho]; exact ne ho)⟩
  · cases e; exact ⟨p, rfl, upd_same⟩
  · cases e; exact hFp
  · rw [resV_nb rfl]
    show if false = true then _ else _
    rw [if_neg Bool.false_ne_true]
    exact ⟨p, rfl, rfl⟩
theorem n_iteT {t a b : Expr} {t' a' b' : E} {pos : Pos} (ht : PT X t (rdT G t')) (ha : PT X a (rdT G a')) (hb : PT X b (rdT G b')) : PT X (.IfExp t a b pos) (rdT G (.ite t' a' b')) := ⟨fun pins s σ H Q I h => by
  obtain ⟨C, st, p, st', hK, hw, R, he, q⟩ := h
  obtain ⟨k, st1, h1, h2⟩ := ev_ite he
  show wpAny (model X.prog X.w) X.A (do if ← isTrue t X.env (eval t X.env) then isTrue a X.env (eval a X.env) else isTrue b X.env (eval b X.env)) _ _ _
  refine wpAny_bind (thn (ht.run pins s σ H (fun d H1 => if d = true then rdT G a' σ H1 Q else rdT G b' σ H1 Q) I ⟨C, st, k, st1, hK, hw, R, h1, fun C1 H1 L1 R1 => ?_⟩) fun d s1 ⟨H1, I1, q1⟩ => ?_)
  · cases k with
    | true =>
      rw [if_pos rfl]
      exact ⟨C1, st1, p, st', L1.le.k.trans hK, L1.le.w.trans hw, R1, h2, fun C2 H2 L2 R2 => q C2 H2 (L1.trans L2) R2⟩
    | false =>
      rw [if_neg Bool.false_ne_true]
      exact ⟨C1, st1, p, st', L1.le.k.trans hK, L1.le.w.trans hw, R1, h2, fun C2 H2 L2 R2 => q C2 H2 (L1.trans L2) R2⟩
  · cases d with
    | true => exact ha.run pins s1 σ H1 Q I1 q1
    | false => exact hb.run pins s1 σ H1 Q I1 q1⟩
end
end Py
end

section
set_option Elab.async false
set_option linter.all false
set_option autoImplicit false
set_option maxRecDepth 100000
/-! Every expression's translation is sound. -/
namespace Py
open PySem PySem.Spec PyProof.Rows L2

theorem nbE (n : Nat) (c : TC) (e : Expr) : isBor (trE n c e) = false := by
  cases n with
  | zero => rfl
  | succ n => unfold trE; exact isBor_nb _
theorem own_of {N : List Str} {ns : List (Str × NameKind)} {sc scope : Scope} (h : blkC N sc scope (ownOf N ns) = true) : BlkOk N sc scope (ownOf N ns) := blkOk_by h
theorem prl_of {G : GP} {X : Cx} {f : Expr → E} (hf : ∀ e, PE X e (rd G (f e))) (hb : ∀ e, isBor (f e) = false) : ∀ {ks : List (Option Expr)} {vs : List Expr} {es : List E}, trPr f ks vs = some es → PrL G X ks vs es ∧ noBor es = true
  | [], [], es, h => by cases h; exact ⟨.nil, rfl⟩
  | [], _ :: _, es, h => nomatch h
  | none :: _, _, es, h => nomatch h
  | some _ :: _, [], es, h => nomatch h
  | some k :: ks, v :: vs, es, h => by
    obtain ⟨es', h1, rfl⟩ := Option.map_eq_some_iff.mp (show (trPr f ks vs).map (fun es => f k :: f v :: es) = some es from h)
    obtain ⟨g1, g2⟩ := prl_of hf hb h1
    refine ⟨.cons (hf k) (hf v) g1, ?_⟩
    unfold noBor at g2 ⊢
    rw [List.all_cons, List.all_cons, hb k, hb v, g2]; rfl
/-- the parts of a dict's comprehension -/
theorem p_dcP {G : GP} {X : Cx} {c : TC} (T : XT G X c) {n m : Nat} {ek ee tg it : Expr} {ifs : List Expr} {scope : Scope} {own : List (Str × Nat)} {p : Pat} (hf : ∀ e, PE X e (rd G (trE n c e))) (hb : ∀ e, isBor (trE n c e) = false)
    (ok : BlkOk X.N X.env.scope scope own) (h2 : notSet it = true)
    (ih : ∀ (s : Shared) (H : Hp) (C : Addr) (cl : List (Str × Addr)) (fp : List Addr) (e : Expr), PE (X.blk s H scope (compEnvC scope cl C X.env) fp) e (rd G (trE n (blkT c scope) e)) ∧ PT (X.blk s H scope (compEnvC scope cl C X.env) fp) e (rdT G (trE n (blkT c scope) e)))
    (hp : trP m (blkT c scope) tg = some p) :
    DcP X ek ee tg it ifs scope own (rdI G (trI c (trE n c) tg it)) (gP G.K p) (rdT G (trIf (trE n (blkT c scope)) ifs)) (rd G (trE n (blkT c scope) ek)) (rd G (trE n (blkT c scope) ee)) (DSet G) :=
  ⟨T.o.calm, T.o.nd, p_iter T hf hb, ok, fun s H C cl fp => p_pat (T.blk scope s H C cl fp) hp, fun s H C cl fp => p_ifs fun e => (ih s H C cl fp e).2, fun s H C cl fp => (ih s H C cl fp ek).1, fun s H C cl fp => (ih s H C cl fp ee).1,
    fun s H C cl fp => pds_set (T.blk scope s H C cl fp).o, folded h2 _⟩
theorem allN {l : List Nat} {m : List Nat} (h : l.all (memN m) = true) : ∀ i ∈ l, i ∈ m := fun i hi => memN_ok (List.all_eq_true.mp h i hi)
theorem sndE : ∀ (n : Nat) {G : GP} {X : Cx} {c : TC}, XT G X c → ∀ e : Expr, PE X e (rd G (trE n c e)) ∧ PT X e (rdT G (trE n c e)) := by
  intro n
  induction n with
  | zero => intro G X c T e; exact ⟨pe_bad, pt_bad⟩
  | succ n ih =>
    intro G X c T e
    have hf : ∀ e, PE X e (rd G (trE n c e)) := fun e => (ih T e).1
    have hT : ∀ e, PT X e (rdT G (trE n c e)) := fun e => (ih T e).2
    have ho : ∀ e, PE X e (rd G (trO c (trE n c) e)) := p_opnd T hf
    have hb : ∀ e, isBor (trE n c e) = false := nbE n c
    have tests : ∀ {e : Expr} {e' : E}, PE X e (rd G e') → (∀ whole, isTrue e X.env whole = (do let v ← whole; standAt e.pos; holding [v] (truthy v))) → PE X e (rd G (nb e')) ∧ PT X e (rdT G (nb e')) := fun h he => ⟨pe_nb h, pt_nb (n_test h he)⟩
    have bads : ∀ {e : Expr}, PE X e (rd G (nb bad)) ∧ PT X e (rdT G (nb bad)) := ⟨pe_bad, pt_bad⟩
    unfold trE
    split
    · exact tests p_lit fun _ => rfl
    · exact tests (p_name T) fun _ => rfl
    · rename_i a op b pos
      refine tests ?_ fun _ => rfl
      cases op with
      | Add => exact n_bin (u_add T.o.hK) (ho a) (ho b)
      | Sub => exact n_bin u_sub (ho a) (ho b)
      | Mult => exact n_bin (u_mul T.o.hK) (ho a) (ho b)
      | FloorDiv => exact n_bin u_fdiv (ho a) (ho b)
      | Mod => exact n_bin u_mod (ho a) (ho b)
      | Pow => exact n_bin u_pow (ho a) (ho b)
      | _ => exact pe_bad
    · rename_i a pos
      exact ⟨pe_nb ((pe_not (hf a)).imp fun _ _ _ h => rd_not h), pt_nb ((pt_not (hT a)).imp fun _ _ _ h => rdT_not h)⟩
    · exact tests (n_neg (ho _)) fun _ => rfl
    · exact ⟨pe_nb (p_boolE hf hb _), pt_nb (p_boolT hT _).pt⟩
    · split
      · exact bads
      · rename_i h
        exact ⟨pe_nb (n_cmp T.o (ho _) (ho _) (by simpa using h)), pt_nb (n_cmpT T.o (ho _) (ho _) (by simpa using h))⟩
    · split
      · exact bads
      · rename_i h
        exact ⟨pe_nb (n_chain T.o (hb _) (hb _) (hb _) (hf _) (hf _) (hf _) (by simpa using h)), pt_nb (n_chainT T.o (hb _) (hb _) (hb _) (hf _) (hf _) (hf _) (by simpa using h))⟩
    · exact ⟨pe_nb ((pe_ifExp (hT _) (hf _) (hf _)).imp fun _ _ _ h => rd_ite (hb _) (hb _) h), pt_nb (n_iteT (hT _) (hT _) (hT _))⟩
    · exact tests (p_sub T hf ho hb) fun _ => rfl
    · split
      · rename_i h
        rw [Bool.and_eq_true] at h
        refine tests (n_tup (sndl hf h.1) (noBor_map hb _) ?_) fun _ => rfl
        have := of_decide_eq_true h.2
        exact decide_eq_true (by omega)
      · exact bads
    · split
      · rename_i h
        rw [Bool.and_eq_true] at h
        refine tests (n_lst (sndl hf h.1) (noBor_map hb _) ?_) fun _ => rfl
        have := of_decide_eq_true h.2
        exact decide_eq_true (by omega)
      · exact bads
    · exact tests n_dct0 fun _ => rfl
    · split
      · rename_i hes
        split
        · rename_i h
          rw [Bool.and_eq_true] at h
          obtain ⟨g1, g2⟩ := prl_of hf hb hes
          exact tests (n_disp T.o g1 g2 (by simpa using h.2) (of_decide_eq_true h.1)) fun _ => rfl
        · exact bads
      · exact bads
    · exact tests (p_call T hf ho hb) fun _ => rfl
    · exact tests (p_meth T hf ho hb) fun _ => rfl
    · rename_i elt tg it ifs scope pos
      split
      · rename_i p hp
        split
        · rename_i h
          simp only [Bool.and_eq_true] at h
          obtain ⟨⟨h1, h2⟩, h3⟩ := h
          refine tests ?_ fun _ => rfl
          refine (pe_lc T.o.calm T.o.nd (p_iter T hf hb) (by rw [T.N, T.sc]; exact own_of h1) (fun s H C cl fp => p_pat (T.blk scope s H C cl fp) hp) (fun s H C cl fp => p_ifs fun e => (ih (T.blk scope s H C cl fp) e).2) (fun s H C cl fp => (ih (T.blk scope s H C cl fp) elt).1) (folded h2 _)).imp fun _ _ _ h => rd_lc (allN h3) (nbE _ _ _) h
        · exact bads
      · exact bads
    · rename_i elt tg it ifs tg1 it1 ifs1 scope pos
      split
      · rename_i p p1 hp hp1
        split
        · rename_i h
          simp only [Bool.and_eq_true] at h
          obtain ⟨⟨⟨⟨h1, h2⟩, h2'⟩, h3⟩, h4⟩ := h
          refine tests ?_ fun _ => rfl
          refine (pe_lc2 (vs1 := pvs p1) T.o.calm T.o.nd (p_iter T hf hb) (by rw [T.N, T.sc]; exact own_of h1) (allN h4) (fun s H C cl fp => p_pat (T.blk scope s H C cl fp) hp) (fun s H C cl fp => p_ifs fun e => (ih (T.blk scope s H C cl fp) e).2)
            (fun s H C cl fp => p_iter (T.blk scope s H C cl fp) (fun e => (ih (T.blk scope s H C cl fp) e).1) (nbE _ _)) (fun s H C cl fp => p_pat (T.blk scope s H C cl fp) hp1) (fun s H C cl fp => p_ifs fun e => (ih (T.blk scope s H C cl fp) e).2)
            (fun s H C cl fp => (ih (T.blk scope s H C cl fp) elt).1) (folded h2 _) (folded h2')).imp fun _ _ _ h => rd_lc2 (allN h3) (fun i hi => hi) (allN h4) (nbE _ _ _) h
        · exact bads
      · exact bads
    · rename_i ek ee tg it ifs scope pos
      split
      · rename_i p hp
        split
        · rename_i h
          simp only [Bool.and_eq_true] at h
          obtain ⟨⟨h1, h2⟩, h3⟩ := h
          refine tests ?_ fun _ => rfl
          exact (pe_dc (p_dcP T hf hb (by rw [T.N, T.sc]; exact own_of h1) h2 (fun s H C cl fp => ih (T.blk scope s H C cl fp)) hp)).imp fun _ _ _ h => rd_dc (allN h3) (nbE _ _ _) (nbE _ _ _) h
        · exact bads
      · exact bads
    · exact bads
end Py
end

section
set_option Elab.async false
set_option linter.all false
set_option autoImplicit false
set_option maxRecDepth 100000
/-! Statements: translation, soundness. -/
namespace Py
open PySem PySem.Spec PyProof.Rows L2

def locB (sc : Scope) (x : Str) : Bool := match sc.names.lookup x with
  | some .local => true
  | _ => false
def tgtB (sc : Scope) (x : Str) : Bool := match sc.names.lookup x with
  | some .local => true
  | some .cell => true
  | _ => false
def kindF (sc : Scope) : Bool := match sc.kind with
  | .function => true
  | _ => false
/-- a comprehension that is stored at once -/
def swB (sc : Scope) (y : Str) (py : Pos) (value : Expr) : Bool :=
  match (match value with
    | .ListComp _ _ s _ | .SetComp _ _ s _ | .DictComp _ _ _ s _ => some s
    | _ => none : Option Scope) with
  | some s => sc.names.lookup y == some .local && py.line == value.pos.line && !(s.names.any fun (n, k) => n == y && (k == .local || k == .cell))
  | none => false
def swN (sc : Scope) (ts vs : List Expr) : Option (Option (List Str)) :=
  if (!(ts.length == 2 || ts.length == 3) || vs.length != ts.length) = true then some none
  else if (vs.any fun | .Starred .. => true | _ => false) = true then some none
  else
    let line := (ts.head?.map (·.pos.line)).getD 0
    let names := ts.filterMap fun
      | .Name id pos => if sc.names.lookup id == some .local && pos.line == line then some id else none
      | _ => none
    if (names.length != ts.length || names.eraseDups.length != names.length) = true then some none
    else if vs.all (foldedForSure 8) = true then some none
    else if vs.all (constantsAlone 8) = true then none
    else some (some names)
theorem blockKind_of {env : Env} (h : env.scope.kind = .function) : env.blockKind = .function := by unfold Env.blockKind; rw [h]; rfl
theorem swB_ok {env : Env} {y : Str} {py : Pos} {value : Expr} {l : Nat} (hk : env.scope.kind = .function) : swapsWith value (some (.Name y py)) l env = pure (swB env.scope y py value) := by
  have hb := blockKind_of hk
  unfold swapsWith swB
  cases value <;> first | rfl | (simp only [hb]; rfl)
theorem swN_ok {env : Env} {ts vs : List Expr} {k k2 : Nat} {p p2 : Pos} {r : Option (List Str)} (hk : env.scope.kind = .function) (h : swN env.scope ts vs = some r) : swappedStores [.Tuple ts k p] (.Tuple vs k2 p2) env = pure r := by
  have hb := blockKind_of hk
  have e : (env.blockKind != .function) = false := by rw [hb]; rfl
  unfold swN at h
  unfold swappedStores
  simp only [e, Bool.or_false, Env.kindOf]
  dsimp only at h
  split at h
  · rename_i h1
    cases h
    exact if_pos h1
  · rename_i h1
    refine (if_neg h1).trans ?_
    split at h
    · rename_i h2
      cases h
      exact if_pos h2
    · rename_i h2
      refine (if_neg h2).trans ?_
      split at h
      · rename_i h3
        cases h
        exact if_pos h3
      · rename_i h3
        refine (if_neg h3).trans ?_
        split at h
        · rename_i h4
          cases h
          exact if_pos h4
        · rename_i h4
          refine (if_neg h4).trans ?_
          split at h
          · cases h
          · rename_i h5
            cases h
            exact if_neg h5
def ff0 : Nat → Bool := fun _ => false
def trF (f fo : Expr → E) : Expr → E
  | .BinOp a .Add b _ => .op .cat [fo a, fo b]
  | e => f e
/-- a value for the slot i: a new object of the slot's own, where the slot's object is written later -/
def trVal (n : Nat) (c : TC) (i : Nat) (e : Expr) : E × Bool :=
  if memN c.muts i && freshE ff0 (trF (trE n c) (trO c (trE n c)) e) then (trF (trE n c) (trO c (trE n c)) e, true) else (trE n c e, false)
def isComp : Expr → Bool
  | .ListComp .. => true
  | .SetComp .. => true
  | .DictComp .. => true
  | _ => false
def sto (i : Nat) (v : E × Bool) : S := if v.2 then .asgo i v.1 else .asg (.nm i) v.1
def trPar (n : Nat) (c : TC) (ns : List Str) (ts vs : List Expr) : S := match ts, vs with
  | [.Name x _, .Name y _], [a, b] =>
    if decide (ns = [x, y]) && locB c.sc x && locB c.sc y && notStar a && notStar b then
      (match ixOf c.N x, ixOf c.N y with
        | some i, some j => if Nat.beq i j then sBad else .asgs [(i, (trVal n c i a).2), (j, (trVal n c j b).2)] [(trVal n c i a).1, (trVal n c j b).1]
        | _, _ => sBad)
    else sBad
  | [.Name x _, .Name y _, .Name z _], [a, b, d] =>
    if decide (ns = [x, y, z]) && locB c.sc x && locB c.sc y && locB c.sc z && notStar a && notStar b && notStar d then
      (match ixOf c.N x, ixOf c.N y, ixOf c.N z with
        | some i, some j, some l => if Nat.beq i j || Nat.beq i l || Nat.beq j l then sBad
          else .asgs [(i, (trVal n c i a).2), (j, (trVal n c j b).2), (l, (trVal n c l d).2)] [(trVal n c i a).1, (trVal n c j b).1, (trVal n c l d).1]
        | _, _, _ => sBad)
    else sBad
  | _, _ => sBad
def trGen (n : Nat) (c : TC) (tg v : Expr) : S := match trP n c tg with
  | some p => .asg p (trE n c v)
  | none => sBad
/-- through a tuple; where a part is written later, it is the slot's own -/
def trGen2 (n : Nat) (c : TC) (ts : List Expr) (k : Nat) (p : Pos) (vs : List Expr) (k2 : Nat) (p2 : Pos) : S := match ts, vs with
  | [.Name x px, .Name y py], [a, b] => (match ixOf c.N x, ixOf c.N y with
    | some i, some j => if tgtB c.sc x && tgtB c.sc y && notStar a && notStar b && ((trVal n c i a).2 || (trVal n c j b).2) then .asgs [(i, (trVal n c i a).2), (j, (trVal n c j b).2)] [(trVal n c i a).1, (trVal n c j b).1]
      else trGen n c (.Tuple [.Name x px, .Name y py] k p) (.Tuple [a, b] k2 p2)
    | _, _ => sBad)
  | [.Name x px, .Name y py, .Name z pz], [a, b, d] => (match ixOf c.N x, ixOf c.N y, ixOf c.N z with
    | some i, some j, some l => if tgtB c.sc x && tgtB c.sc y && tgtB c.sc z && notStar a && notStar b && notStar d && ((trVal n c i a).2 || (trVal n c j b).2 || (trVal n c l d).2) then .asgs [(i, (trVal n c i a).2), (j, (trVal n c j b).2), (l, (trVal n c l d).2)] [(trVal n c i a).1, (trVal n c j b).1, (trVal n c l d).1]
      else trGen n c (.Tuple [.Name x px, .Name y py, .Name z pz] k p) (.Tuple [a, b, d] k2 p2)
    | _, _, _ => sBad)
  | ts, vs => trGen n c (.Tuple ts k p) (.Tuple vs k2 p2)
def trAsg (n : Nat) (c : TC) (tg v : Expr) : S := match tg with
  | .Name y _ => if tgtB c.sc y then (match ixOf c.N y with | some i => sto i (trVal n c i v) | none => sBad) else sBad
  | .Tuple ts k p => (match v with
    | .Tuple vs k2 p2 => (match swN c.sc ts vs with
      | some (some ns) => trPar n c ns ts vs
      | some none => trGen2 n c ts k p vs k2 p2
      | none => sBad)
    | v => trGen n c (.Tuple ts k p) v)
  | .Subscript (.Name x _) k _ => if plainN x && visB c.sc x && !isSlice k then (match ixOf c.N x with | some i => .setx i (trE n c k) (trE n c v) | none => sBad) else sBad
  | _ => sBad
def trX (n : Nat) (c : TC) (e : Expr) : S := match e with
  | .Constant (.str _) _ _ => .pass
  | .Call (.Attribute (.Name x p1) m apos) [a] [] cpos =>
    if m = "append" then
      (if plainN x && visB c.sc x && notStar a && (apos.endLine == cpos.line) then (match ixOf c.N x with | some i => .app i (trE n c a) | none => sBad) else sBad)
    else if m = "update" then
      (if plainN x && visB c.sc x && notStar a && (apos.endLine == cpos.line) then (match ixOf c.N x with | some i => .upd i (trE n c a) | none => sBad) else sBad)
    else .expr (trE n c (.Call (.Attribute (.Name x p1) m apos) [a] [] cpos))
  | e => if isComp e then sBad else .expr (trE n c e)
def trAug (n : Nat) (c : TC) (x : Str) (op : Operator) (e : Expr) : S :=
  if tgtB c.sc x then (match ixOf c.N x with
    | some i => (match op with
      | .Add => .aug i .add (trE n c e)
      | .Sub => .aug i .sub (trE n c e)
      | _ => sBad)
    | none => sBad) else sBad
def trRet (n : Nat) (c : TC) (e : Expr) : S := .ret (if c.cupf then (match e with
  | .List [a, b] _ => if notStar a && notStar b then .newcup (trE n c a) (trE n c b) else trE n c e
  | e => trE n c e) else trE n c e)
def trS : Nat → TC → Stmt → S
  | 0, _, _ => sBad
  | n + 1, c, s => match s with
    | .Pass _ => .pass
    | .Break _ => .brk
    | .Continue _ => .cont
    | .Return none _ => .ret (.lit .non)
    | .Return (some e) _ => trRet n c e
    | .Expr e _ => trX n c e
    | .Assign [tg] v _ => trAsg n c tg v
    | .AugAssign (.Name x _) op e _ => trAug n c x op e
    | .If t a b _ => .ite (trE n c t) (a.map (trS n c)) (b.map (trS n c))
    | .While t b [] _ => .while (trE n c t) (b.map (trS n c))
    | .For tg it b [] _ => (match trP n c tg with | some p => if notSet it then .for p (trI c (trE n c) tg it) (b.map (trS n c)) else sBad | none => sBad)
    | _ => sBad
/-- a def's body -/
structure XS (G : GP) (X : Cx) (c : TC) : Prop where
  t : XT G X c
  kind : c.sc.kind = .function
  tgt : c.tgt = c.sc.names
  xe : PassesOwn (model X.prog X.w) X.A X.env X.xe
section
variable {G : GP} {X : Cx} {c : TC}
theorem fresh_mono {ff : Nat → Bool} {e : E} (h : freshE ff0 e = true) : freshE ff e = true := by
  cases e with
  | op o es =>
    cases o with
    | «bif» b => cases b <;> exact h
    | _ => exact h
  | call k es => exact nomatch h
  | _ => exact h
theorem fresh_nb {e : E} (h : freshE ff0 e = true) : isBor e = false := by
  cases e <;> first | rfl | exact nomatch h
theorem p_F (T : XT G X c) (n : Nat) (e : Expr) : PE X e (rd G (trF (trE n c) (trO c (trE n c)) e)) := by
  have hf : ∀ e, PE X e (rd G (trE n c e)) := fun e => (sndE n T e).1
  have ho : ∀ e, PE X e (rd G (trO c (trE n c) e)) := p_opnd T hf
  unfold trF
  split
  · exact n_bin u_cat (ho _) (ho _)
  · exact hf _
theorem p_val' (T : XT G X c) (n i : Nat) (e : Expr) : PE X e (rd G (trVal n c i e).1) ∧ isBor (trVal n c i e).1 = false ∧ ((trVal n c i e).2 = true → freshE G.ff (trVal n c i e).1 = true) := by
  unfold trVal
  split
  · rename_i h
    rw [Bool.and_eq_true] at h
    exact ⟨p_F T n e, fresh_nb h.2, fun _ => fresh_mono h.2⟩
  · exact ⟨(sndE n T e).1, nbE n c e, fun h => nomatch h⟩
theorem psa_bad {a : Stmt} {g : TG} : PS X a (tAsg (rd G bad) g) := ⟨fun _ _ _ _ _ _ h => (rd_bad h).elim⟩
/-- a comprehension that is stored at once -/
theorem s_comp (T : XS G X c) {n i : Nat} {y : Str} {py spos : Pos} {value : Expr} (hi : X.N[i]? = some y) (hs : swB c.sc y py value = true) : PS X (.Assign [.Name y py] value spos) (tAsg (rd G (trE n c value)) (gName i)) := by
  have hk : X.env.scope.kind = .function := by rw [T.t.sc]; exact T.kind
  have hsw : swapsWith value (some (.Name y py)) spos.line X.env = pure true := by
    rw [swB_ok hk, T.t.sc, hs]
  have hy : X.env.scope.names.lookup y = some .local := by
    rw [T.t.sc]
    unfold swB at hs
    split at hs
    · rw [Bool.and_eq_true, Bool.and_eq_true] at hs
      exact eq_of_beq hs.1.1
    · cases hs
  cases n with
  | zero => exact psa_bad
  | succ n =>
    have hf : ∀ e, PE X e (rd G (trE n c e)) := fun e => (sndE n T.t e).1
    have hb : ∀ e, isBor (trE n c e) = false := nbE n c
    cases value with
    | ListComp elt gs scope pos =>
      unfold trE
      split
      case h_17 =>
        rename_i elt' tg it ifs sc' ps' heq
        cases heq
        split
        · rename_i p hp
          split
          · rename_i h
            simp only [Bool.and_eq_true] at h
            obtain ⟨⟨h1, h2⟩, h3⟩ := h
            exact (ps_setLc T.t.o.calm T.t.o.nd hi hy hsw (p_iter T.t hf hb) (by rw [T.t.N, T.t.sc]; exact own_of h1) (fun s H C cl fp => p_pat (T.t.blk scope s H C cl fp) hp) (fun s H C cl fp => p_ifs fun e => (sndE n (T.t.blk scope s H C cl fp) e).2) (fun s H C cl fp => (sndE n (T.t.blk scope s H C cl fp) elt).1) (folded h2 _)).imp fun _ _ _ h => rd_lc (allN h3) (nbE _ _ _) h
          · exact psa_bad
        · exact psa_bad
      case h_18 =>
        rename_i elt' tg it ifs tg1 it1 ifs1 sc' ps' heq
        cases heq
        split
        · rename_i p p1 hp hp1
          split
          · rename_i h
            simp only [Bool.and_eq_true] at h
            obtain ⟨⟨⟨⟨h1, h2⟩, h2'⟩, h3⟩, h4⟩ := h
            exact (ps_setLc2 (vs1 := pvs p1) T.t.o.calm T.t.o.nd hi hy hsw (p_iter T.t hf hb) (by rw [T.t.N, T.t.sc]; exact own_of h1) (allN h4) (fun s H C cl fp => p_pat (T.t.blk scope s H C cl fp) hp) (fun s H C cl fp => p_ifs fun e => (sndE n (T.t.blk scope s H C cl fp) e).2)
              (fun s H C cl fp => p_iter (T.t.blk scope s H C cl fp) (fun e => (sndE n (T.t.blk scope s H C cl fp) e).1) (nbE _ _)) (fun s H C cl fp => p_pat (T.t.blk scope s H C cl fp) hp1) (fun s H C cl fp => p_ifs fun e => (sndE n (T.t.blk scope s H C cl fp) e).2)
              (fun s H C cl fp => (sndE n (T.t.blk scope s H C cl fp) elt).1) (folded h2 _) (folded h2')).imp fun _ _ _ h => rd_lc2 (allN h3) (fun i hi => hi) (allN h4) (nbE _ _ _) h
          · exact psa_bad
        · exact psa_bad
      all_goals first | exact psa_bad | (rename_i heq; cases heq; done)
    | SetComp => exact psa_bad
    | DictComp ek ee gs scope pos =>
      unfold trE
      split
      case h_19 =>
        rename_i ek' ee' tg it ifs sc' ps' heq
        cases heq
        split
        · rename_i p hp
          split
          · rename_i h
            simp only [Bool.and_eq_true] at h
            obtain ⟨⟨h1, h2⟩, h3⟩ := h
            exact (ps_setDc (p_dcP T.t hf hb (by rw [T.t.N, T.t.sc]; exact own_of h1) h2 (fun s H C cl fp e => sndE n (T.t.blk scope s H C cl fp) e) hp) hi hy hsw).imp fun _ _ _ h => rd_dc (allN h3) (nbE _ _ _) (nbE _ _ _) h
          · exact psa_bad
        · exact psa_bad
      all_goals first | exact psa_bad | (rename_i heq; cases heq; done)
    | _ => exact nomatch hs
end
end Py
end

section
set_option Elab.async false
set_option linter.all false
set_option autoImplicit false
set_option maxRecDepth 100000
/-! Every statement's translation is sound. -/
namespace Py
open PySem PySem.Spec PyProof.Rows L2

section
variable {G : GP} {X : Cx} {c : TC}
theorem tgtB_ok (T : XS G X c) {x : Str} (h : tgtB c.sc x = true) : L2.Loc X.env.scope x ∧ (X.fn x = true ∨ X.env.scope.names.lookup x = some .local) := by
  unfold tgtB at h
  split at h
  · rename_i e
    rw [← T.t.sc] at e
    exact ⟨.inl e, .inr e⟩
  · rename_i e
    have := (T.t.tgtC x (by rw [T.tgt]; exact e)).2
    rw [← T.t.sc] at e
    exact ⟨.inr e, .inl this⟩
  · cases h
theorem locB_ok (T : XS G X c) {x : Str} (h : locB c.sc x = true) : X.env.scope.names.lookup x = some .local := by
  unfold locB at h
  split at h
  · rename_i e; rw [T.t.sc]; exact e
  · cases h
theorem isComp_ok {e : Expr} (h : isComp e = false) (l : Nat) (env : Env) : swapsWith e none l env = pure false := by
  cases e <;> first | rfl | exact absurd h (fun e => Bool.noConfusion e)
theorem swSole {tg v : Expr} {l : Nat} {env : Env} (h : ∀ y p, tg ≠ .Name y p) : swapsWithSole [tg] v l env = pure false := by
  show swapsWith v (some tg) l env = pure false
  cases tg with
  | Name y p => exact absurd rfl (h y p)
  | _ => cases v <;> rfl
theorem swNone {tg v : Expr} {env : Env} (h : ∀ ts k p vs k2 p2, ¬ (tg = .Tuple ts k p ∧ v = .Tuple vs k2 p2)) (h2 : ∀ ts p, tg ≠ .List ts p) : swappedStores [tg] v env = pure none := by
  cases tg with
  | Tuple ts k p =>
    cases v with
    | Tuple vs k2 p2 => exact absurd ⟨rfl, rfl⟩ (h _ _ _ _ _ _)
    | _ => rfl
  | List ts p => exact absurd rfl (h2 _ _)
  | _ => cases v <;> rfl
/-- name = value -/
theorem p_sto (T : XS G X c) {n i : Nat} {y : Str} {py pos : Pos} {v : Expr} (hi : ixOf c.N y = some i) (hy : tgtB c.sc y = true) : PS X (.Assign [.Name y py] v pos) (rdS G (sto i (trVal n c i v))) := by
  have hN : X.N[i]? = some y := T.t.N ▸ ixOf_ok hi
  have hk : X.env.scope.kind = .function := by rw [T.t.sc]; exact T.kind
  obtain ⟨hx, hf⟩ := tgtB_ok T hy
  obtain ⟨h1, h2, h3⟩ := p_val' T.t n i v
  have hsw := swB_ok (env := X.env) (y := y) (py := py) (value := v) (l := pos.line) hk
  rw [T.t.sc] at hsw
  unfold sto
  cases hs : swB c.sc y py v with
  | false =>
    rw [hs] at hsw
    split
    · rename_i ho
      exact s_seto T.t.o (h3 ho) h2 hN hx h1 hsw hf
    · exact s_set T.t.o h2 hN hx h1 hsw hf
  | true =>
    have base := s_comp T (n := n) (spos := pos) hN hs
    have e1 : (trVal n c i v).1 = trE n c v := by
      have e2 : trF (trE n c) (trO c (trE n c)) v = trE n c v := by
        unfold trF
        split
        · exact nomatch hs
        · rfl
      unfold trVal
      rw [e2]
      split <;> rfl
    split
    · rename_i ho
      rw [← e1] at base
      exact base.imp fun _ _ _ h => rd_asgo (h3 ho) h2 h
    · rw [e1]
      exact base.imp fun _ _ _ h => rd_asg (nbE n c v) h
theorem p_gen (T : XS G X c) {n : Nat} {ts : List Expr} {k : Nat} {p pos : Pos} {v : Expr} (hw : swappedStores [.Tuple ts k p] v X.env = pure none) : PS X (.Assign [.Tuple ts k p] v pos) (rdS G (trGen n c (.Tuple ts k p) v)) := by
  unfold trGen
  split
  · rename_i q hq
    exact s_asg (nbE n c v) (sndE n T.t v).1 (p_pat T.t hq) (swSole fun _ _ e => nomatch e) hw rfl
  · exact ps_bad
theorem neq {i j : Nat} (h : Nat.beq i j = false) : i ≠ j := fun e => by rw [e] at h; have := Nat.beq_refl j; rw [this] at h; cases h
theorem p_par (T : XS G X c) {n : Nat} {ns : List Str} {ts vs : List Expr} {k k2 : Nat} {p p2 pos : Pos} (hw : swappedStores [.Tuple ts k p] (.Tuple vs k2 p2) X.env = pure (some ns)) :
    PS X (.Assign [.Tuple ts k p] (.Tuple vs k2 p2) pos) (rdS G (trPar n c ns ts vs)) := by
  unfold trPar
  split
  · rename_i x px y py a b
    split
    · rename_i h
      simp only [Bool.and_eq_true, decide_eq_true_eq] at h
      obtain ⟨⟨⟨⟨h1, h2⟩, h3⟩, h4⟩, h5⟩ := h
      subst h1
      split
      · rename_i i j hi hj
        split
        · exact ps_bad
        · rename_i hij
          obtain ⟨a1, a2, a3⟩ := p_val' T.t n i a
          obtain ⟨b1, b2, b3⟩ := p_val' T.t n j b
          exact s_par2 T.t.o (T.t.N ▸ ixOf_ok hi) (T.t.N ▸ ixOf_ok hj) (by simpa using hij) (locB_ok T h2) (locB_ok T h3) h4 h5 a1 b1 a2 b2 a3 b3 hw (swSole fun _ _ e => nomatch e)
      · exact ps_bad
    · exact ps_bad
  · rename_i x px y py z pz a b d
    split
    · rename_i h
      simp only [Bool.and_eq_true, decide_eq_true_eq] at h
      obtain ⟨⟨⟨⟨⟨⟨h1, h2⟩, h3⟩, h3'⟩, h4⟩, h5⟩, h6⟩ := h
      subst h1
      split
      · rename_i i j l hi hj hl
        split
        · exact ps_bad
        · rename_i hij
          simp only [Bool.or_eq_true, not_or, Bool.not_eq_true] at hij
          obtain ⟨a1, a2, a3⟩ := p_val' T.t n i a
          obtain ⟨b1, b2, b3⟩ := p_val' T.t n j b
          obtain ⟨d1, d2, d3⟩ := p_val' T.t n l d
          exact s_par3 T.t.o (T.t.N ▸ ixOf_ok hi) (T.t.N ▸ ixOf_ok hj) (T.t.N ▸ ixOf_ok hl) (neq hij.1.1) (neq hij.1.2) (neq hij.2) (locB_ok T h2) (locB_ok T h3) (locB_ok T h3') h4 h5 h6 a1 b1 d1 a2 b2 d2 a3 b3 d3 hw (swSole fun _ _ e => nomatch e)
      · exact ps_bad
    · exact ps_bad
  · exact ps_bad
theorem tgtB_look (T : XS G X c) {x : Str} (h : tgtB c.sc x = true) : c.tgt.lookup x = some .local ∨ c.tgt.lookup x = some .cell := by
  rw [T.tgt]
  unfold tgtB at h
  split at h
  · rename_i e; exact .inl e
  · rename_i e; exact .inr e
  · cases h
theorem p_gen2 (T : XS G X c) {n : Nat} {ts vs : List Expr} {k k2 : Nat} {p p2 pos : Pos} (hw : swappedStores [.Tuple ts k p] (.Tuple vs k2 p2) X.env = pure none) : PS X (.Assign [.Tuple ts k p] (.Tuple vs k2 p2) pos) (rdS G (trGen2 n c ts k p vs k2 p2)) := by
  unfold trGen2
  split
  · rename_i x px y py a b
    split
    · rename_i i j hi hj
      split
      · rename_i h
        simp only [Bool.and_eq_true] at h
        obtain ⟨⟨⟨⟨h1, h2⟩, h3⟩, h4⟩, _⟩ := h
        obtain ⟨a1, a2, a3⟩ := p_val' T.t n i a
        obtain ⟨b1, b2, b3⟩ := p_val' T.t n j b
        have gx : PG X (.Name x px) (gName i) := pg_cell T.t hi (tgtB_look T h1)
        have gy : PG X (.Name y py) (gName j) := pg_cell T.t hj (tgtB_look T h2)
        exact s_tup2 T.t.o gx gy h3 h4 a1 b1 a2 b2 a3 b3 hw (swSole fun _ _ e => nomatch e)
      · exact p_gen T hw
    · exact ps_bad
  · rename_i x px y py z pz a b d
    split
    · rename_i i j l hi hj hl
      split
      · rename_i h
        simp only [Bool.and_eq_true] at h
        obtain ⟨⟨⟨⟨⟨⟨h1, h2⟩, h2'⟩, h3⟩, h4⟩, h5⟩, _⟩ := h
        obtain ⟨a1, a2, a3⟩ := p_val' T.t n i a
        obtain ⟨b1, b2, b3⟩ := p_val' T.t n j b
        obtain ⟨d1, d2, d3⟩ := p_val' T.t n l d
        have gx : PG X (.Name x px) (gName i) := pg_cell T.t hi (tgtB_look T h1)
        have gy : PG X (.Name y py) (gName j) := pg_cell T.t hj (tgtB_look T h2)
        have gz : PG X (.Name z pz) (gName l) := pg_cell T.t hl (tgtB_look T h2')
        exact s_tup3 T.t.o gx gy gz h3 h4 h5 a1 b1 d1 a2 b2 d2 a3 b3 d3 hw (swSole fun _ _ e => nomatch e)
      · exact p_gen T hw
    · exact ps_bad
  · exact p_gen T hw
theorem p_asg (T : XS G X c) {n : Nat} {tg v : Expr} {pos : Pos} : PS X (.Assign [tg] v pos) (rdS G (trAsg n c tg v)) := by
  have hk : X.env.scope.kind = .function := by rw [T.t.sc]; exact T.kind
  unfold trAsg
  split
  · rename_i y py
    split
    · rename_i hy
      split
      · rename_i i hi
        exact p_sto T hi hy
      · exact ps_bad
    · exact ps_bad
  · rename_i ts k p
    split
    · rename_i vs k2 p2
      split
      · rename_i ns h
        rw [← T.t.sc] at h
        exact p_par T (swN_ok hk h)
      · rename_i h
        rw [← T.t.sc] at h
        exact p_gen2 T (swN_ok hk h)
      · exact ps_bad
    · rename_i hv
      exact p_gen T (swNone (fun ts k p vs k2 p2 ⟨_, e⟩ => hv vs k2 p2 e) fun _ _ e => nomatch e)
  · rename_i x px k p
    split
    · rename_i h
      simp only [Bool.and_eq_true] at h
      obtain ⟨⟨h1, h2⟩, h3⟩ := h
      obtain ⟨hd, hcd⟩ := plainN_ok h1
      split
      · rename_i i hi
        refine s_setx T.t.o rfl (T.t.N ▸ ixOf_ok hi) (visB_ok T.t h2) hd hcd (nbE n c v) (nbE n c k) (sndE n T.t k).1 (sndE n T.t v).1 (swSole fun _ _ e => nomatch e) (swNone (fun ts k p vs k2 p2 ⟨e, _⟩ => nomatch e) fun _ _ e => nomatch e) (fun u => ?_) rfl
        cases k <;> first | rfl | exact absurd h3 (fun e => Bool.noConfusion e)
      · exact ps_bad
    · exact ps_bad
  · exact ps_bad
theorem p_expr (T : XS G X c) {n : Nat} {e : Expr} {pos : Pos} : PS X (.Expr e pos) (rdS G (trX n c e)) := by
  unfold trX
  split
  · exact ps_doc.imp fun D σ H ⟨C, st, fl, st', hK, hw, R, he, q⟩ => by
      cases (show Res.ok (Flow.nx, st) = Res.ok (fl, st') from he)
      exact q C σ H .refl R
  · rename_i x p1 m apos a cpos
    split
    · rename_i e; subst e
      split
      · rename_i h
        simp only [Bool.and_eq_true] at h
        obtain ⟨⟨⟨h1, h2⟩, h3⟩, h4⟩ := h
        obtain ⟨hd, hcd⟩ := plainN_ok h1
        split
        · rename_i i hi
          exact s_app T.t.o (T.t.N ▸ ixOf_ok hi) (visB_ok T.t h2) hd hcd (nbE n c a) h3 (sndE n T.t a).1 (attrBase rfl) h4 rfl
        · exact ps_bad
      · exact ps_bad
    · split
      · rename_i e; subst e
        split
        · rename_i h
          simp only [Bool.and_eq_true] at h
          obtain ⟨⟨⟨h1, h2⟩, h3⟩, h4⟩ := h
          obtain ⟨hd, hcd⟩ := plainN_ok h1
          split
          · rename_i i hi
            exact (ps_expr (pe_upd T.t.o (T.t.N ▸ ixOf_ok hi) (visB_ok T.t h2) hd hcd h3 (sndE n T.t a).1 (attrBase rfl) h4) rfl).imp fun _ _ _ h => rd_upd (nbE n c a) h
          · exact ps_bad
        · exact ps_bad
      · exact s_expr (nbE _ _ _) (sndE n T.t _).1 rfl
  · split
    · exact ps_bad
    · rename_i h
      exact s_expr (nbE _ _ _) (sndE n T.t _).1 (isComp_ok (by simpa using h) _ _)
theorem p_aug (T : XS G X c) {n : Nat} {x : Str} {px pos : Pos} {op : Operator} {e : Expr} : PS X (.AugAssign (.Name x px) op e pos) (rdS G (trAug n c x op e)) := by
  unfold trAug
  split
  · rename_i hx
    obtain ⟨h1, h2⟩ := tgtB_ok T hx
    split
    · rename_i i hi
      split
      · exact s_augA T.t.o (nbE n c e) (T.t.N ▸ ixOf_ok hi) h1 (sndE n T.t e).1 h2
      · exact s_augS T.t.o (T.t.N ▸ ixOf_ok hi) h1 (sndE n T.t e).1 h2
      · exact ps_bad
    · exact ps_bad
  · exact ps_bad
theorem p_ret (T : XS G X c) {n : Nat} {e : Expr} {pos : Pos} : PS X (.Return (some e) pos) (rdS G (trRet n c e)) := by
  unfold trRet
  split
  · split
    · split
      · rename_i h
        rw [Bool.and_eq_true] at h
        exact s_ret rfl (n_newcup h.1 h.2 (sndE n T.t _).1 (sndE n T.t _).1)
      · exact s_ret (nbE _ _ _) (sndE n T.t _).1
    · exact s_ret (nbE _ _ _) (sndE n T.t _).1
  · exact s_ret (nbE _ _ _) (sndE n T.t _).1
theorem p_list {f : Stmt → S} (hf : ∀ s, PS X s (rdS G (f s))) : ∀ ss : List Stmt, PSs X ss (rdSs G (ss.map f))
  | [] => ss_nil
  | s :: ss => ss_cons (hf s) (p_list hf ss)
theorem sndS (T : XS G X c) : ∀ (n : Nat) (s : Stmt), PS X s (rdS G (trS n c s)) := by
  intro n
  induction n with
  | zero => intro s; exact ps_bad
  | succ n ih =>
    intro s
    have hf : ∀ e, PE X e (rd G (trE n c e)) := fun e => (sndE n T.t e).1
    have hb : ∀ e, isBor (trE n c e) = false := nbE n c
    unfold trS
    split
    · exact s_pass
    · exact s_brk
    · exact s_cont
    · exact s_retN
    · exact p_ret T
    · exact p_expr T
    · exact p_asg T
    · exact p_aug T
    · exact s_ite (sndE n T.t _).2 (p_list ih _) (p_list ih _)
    · exact s_while T.xe (sndE n T.t _).2 (p_list ih _)
    · split
      · rename_i p hp
        split
        · rename_i h
          exact s_for T.t.o T.xe (p_iter T.t hf hb) (p_pat T.t hp) (p_list ih _) (folded h _)
        · exact ps_bad
      · exact ps_bad
    · exact ps_bad
end
end Py
end

section
set_option Elab.async false
set_option linter.all false
set_option autoImplicit false
set_option maxRecDepth 100000
/-! A module's defs keep the one promise. -/
namespace Py
open PySem PySem.Spec PyProof.Rows L2

/-- a def of the program: where it stands, its parameters, all its names, those that are written -/
structure FR where
  d : He.DefD
  ps : List Str
  N : List Str
  ms : List Str
structure Md where
  frs : List FR
  cons : List (Str × PV)
  free : List Str
def Md.names (m : Md) : List Str := m.frs.map fun r => r.d.name
def FR.tc (m : Md) (r : FR) : TC := { N := r.N, sc := r.d.scope, tgt := r.d.scope.names, fns := m.names, cons := m.cons, free := m.free, muts := r.ms.filterMap (ixOf r.N), cupf := decide (r.d.name = "_law_cup") }
def FUEL : Nat := 60
def FR.fn (m : Md) (r : FR) : Fn := { name := r.d.name, nargs := r.ps.length, nslots := r.N.length, fresh := false, body := r.d.body.map (trS FUEL (r.tc m)) }
def Md.fns (m : Md) : List Fn := m.frs.map (FR.fn m)
def Md.gp (m : Md) (d : Nat) (K : PySem.W.Frag) (w : World) : GP := ⟨callN m.fns d, ff0, K, w⟩
/-- what is known of the module -/
structure MdOk (m : Md) (K : PySem.W.Frag) (mg : Str → Option Value) (w : World) : Prop where
  fn : ∀ r ∈ m.frs, FnScope r.N r.ps r.d.scope ∧ ∃ f fd, FunD K r.d.name r.d.qual r.d.params r.d.body r.d.scope [] [] f fd ∧ mg r.d.name = some (.ref f) ∧ Binds K fd r.ps []
  cons : ∀ x v, (x, v) ∈ m.cons → ∃ u vv, mg x = some u ∧ RelV vv u ∧ ∀ C : RC, C.K = K → C.w = w → Rep C v vv
  free : ∀ x ∈ m.free, mg x = none
theorem reps_slot {C : RC} : ∀ {ps : List PV} {vs : List V}, Reps C ps vs → ∀ (i : Nat) (p : PV), ps[i]? = some p → ∃ v, vs[i]? = some v ∧ Rep C p v := fun h i p e => h.get e
theorem start_rel {C : RC} {cup : Option (Int × Int)} {H : Hp} {f : Fn} {ps : List PV} {N : List Str} {vs : List V} (hF : SubH C H) (hc : CupOk C cup H) (hr : Reps C ps vs) (hn : f.nslots = N.length) (hl : ps.length ≤ N.length) : Rel C ⟨startE f ps, cup⟩ (L2.start N vs) H := by
  have hlen := hr.length
  have slots : ∀ (i : Nat) (s : Slot), (startE f ps)[i]? = some s → (∃ p, ps[i]? = some p ∧ s = .val p) ∨ s = .unk := fun i s h => by
    unfold startE at h
    by_cases hi : i < ps.length
    · rw [List.getElem?_append_left (by simpa using hi), List.getElem?_map] at h
      obtain ⟨p, h1, h2⟩ := Option.map_eq_some_iff.mp h
      exact .inl ⟨p, h1, h2.symm⟩
    · rw [List.getElem?_append_right (by simpa using hi)] at h
      exact .inr (List.eq_of_mem_replicate (List.mem_of_getElem? h))
  refine ⟨hF, ?_, fun i p h => ?_, fun i p h => ?_, fun i j p q a h => ?_, hc.cup, hc.nocup, hc.cpf⟩
  · show (startE f ps).length = (L2.start N vs).length
    unfold startE L2.start
    simp only [List.length_append, List.length_map, List.length_replicate]
    omega
  · rcases slots i _ h with ⟨p', h1, h2⟩ | h
    · cases h2
      obtain ⟨v, e, r⟩ := hr.get h1
      refine ⟨v, ?_, r⟩
      unfold L2.start
      rw [List.getElem?_append_left (by rw [List.length_map]; exact (List.getElem?_eq_some_iff.mp e).1), List.getElem?_map, e]
      rfl
    · cases h
  · rcases slots i _ h with ⟨p', h1, h2⟩ | h
    · cases h2
    · cases h
  · rcases slots i _ h with ⟨p', h1, h2⟩ | h
    · cases h2
    · cases h
theorem start_ow {f : Fn} {ps : List PV} {cup : Option (Int × Int)} {σ : L2.St} {b : Addr} : ¬ Ow ⟨startE f ps, cup⟩ σ b := fun ⟨i, p, h, _⟩ => by
  have h : (startE f ps)[i]? = some (.own p) := h
  unfold startE at h
  by_cases hi : i < ps.length
  · rw [List.getElem?_append_left (by simpa using hi), List.getElem?_map] at h
    obtain ⟨p', _, h2⟩ := Option.map_eq_some_iff.mp h
    cases h2
  · rw [List.getElem?_append_right (by simpa using hi)] at h
    have := List.eq_of_mem_replicate (List.mem_of_getElem? h)
    cases this
theorem callN_inv {F : List Fn} {d k : Nat} {ps : List PV} {cup cup' : Option (Int × Int)} {r : PV} (h : callN F (d + 1) k ps cup = .ok (r, cup')) :
    ∃ f fl st', F[k]? = some f ∧ ps.length = f.nargs ∧ exs (callN F d) f.body ⟨startE f ps, cup⟩ = .ok (fl, st') ∧ cup' = st'.cup ∧ ((fl = .nx ∧ r = .non) ∨ fl = .rt r) := by
  have h : (match F[k]? with | some f => runFn (callN F d) f ps cup | none => .no) = .ok (r, cup') := h
  cases e : F[k]? with
  | none => rw [e] at h; exact nomatch h
  | some f =>
    rw [e] at h
    obtain ⟨h1, h2⟩ := Res.of_ok (show Res.of _ _ = _ from h)
    obtain ⟨⟨fl, st'⟩, h3, h4⟩ := bindR h2
    refine ⟨f, fl, st', rfl, of_decide_eq_true h1, h3, ?_⟩
    cases fl with
    | nx => cases h4; exact ⟨rfl, .inl ⟨rfl, rfl⟩⟩
    | rt v => cases h4; exact ⟨rfl, .inr rfl⟩
    | bk => exact nomatch h4
    | ct => exact nomatch h4
section
variable {P : Program} {w : World} {K : PySem.W.Frag} {mg : Str → Option Value} {base : Heap} {m : Md}
theorem fns_ok (M : MdOk m K mg w) : ∀ (d k : Nat) (r : FR), m.frs[k]? = some r → ∀ f fd, FunD K r.d.name r.d.qual r.d.params r.d.body r.d.scope [] [] f fd → FnOk P w K mg base CX0 d f fd r.ps (spU (m.gp d K w) k) := by
  intro d
  induction d with
  | zero =>
    intro k r hr f fd F
    have no : ∀ vs H Q E, ¬ spU (m.gp 0 K w) k vs H Q E := fun vs H Q E ⟨C, ps, cup, r, cup', _, _, _, _, _, h, _⟩ => nomatch h
    exact ⟨fun vs H Q E h => (no _ _ _ _ h).elim, fun A outer s H args us vs Q E _ _ _ _ h => (no _ _ _ _ h).elim⟩
  | succ d ih =>
    intro k r hr f fd F
    have S := (M.fn r (List.mem_of_getElem? hr)).1
    have hfk : m.fns[k]? = some (r.fn m) := by unfold Md.fns; rw [List.getElem?_map, hr]; rfl
    refine F.ok S (fun vs H Q E h => ?_) (fun cdv A outer s H vs Q E hroom h => ?_)
    · obtain ⟨C, ps, cup, rr, cup', _, _, _, _, h5, h6, _⟩ := h
      obtain ⟨f', fl, st', e1, e2, _⟩ := callN_inv h6
      rw [hfk] at e1; cases e1
      rw [h5.length, e2]; rfl
    · refine ⟨rdSs (m.gp d K w) (r.d.body.map (trS FUEL (r.tc m))), PSs.nox (p_list (sndS (c := r.tc m) ?_ FUEL) r.d.body), ?_⟩
      · refine ⟨⟨⟨rfl, rfl, rfl, ?_, S.nd⟩, rfl, rfl, fun x h => h, fun x h => ⟨h, rfl⟩, fun j x hj => ?_, M.cons, M.free⟩, S.kind, rfl, PassesOwn.never⟩
        · have := hroom.un
          show (A.deeper _).units + 200 < cLine
          omega
        · have hj : (m.frs.map fun r => r.d.name)[j]? = some x := hj
          rw [List.getElem?_map] at hj
          obtain ⟨r', h1, rfl⟩ := Option.map_eq_some_iff.mp hj
          obtain ⟨_, f', fd', F', g2, g4⟩ := M.fn r' (List.mem_of_getElem? h1)
          exact ⟨f', fd', r'.ps, d, ih j r' h1 f' fd' F', hroom, g2, F'.kp, g4⟩
      · obtain ⟨C, ps, cup, rr, cup', hK, hw, hF, hc, h5, h6, q⟩ := h
        obtain ⟨f', fl, st', e1, e2, e3, e4, e5⟩ := callN_inv h6
        rw [hfk] at e1; cases e1
        have hle : ps.length ≤ r.N.length := by
          rw [e2]
          show r.ps.length ≤ r.N.length
          have := congrArg List.length S.pre
          rw [List.length_take] at this
          omega
        have R := start_rel (f := r.fn m) hF hc h5 (N := r.N) rfl hle
        have post : ∀ {C' : RC} {σ' : L2.St} {H' : Hp}, LocS C ⟨startE (r.fn m) ps, cup⟩ (L2.start r.N vs) H C' st' σ' H' → Rel C' st' σ' H' → Post C H C' H' ∧ CupOk C' cup' H' := fun L R' => by
          refine ⟨⟨L.le, fun b o h hc => L.keep b o h start_ow hc, L.there, fun b o h => ?_, L.cnew, R'.sub⟩, e4 ▸ R'.cupOk⟩
          rcases L.fnew b o h with z | z | z
          · exact .inl z
          · exact .inr z
          · exact (start_ow z).elim
        refine ⟨C, _, fl, st', hK, hw, R, e3, ?_⟩
        rcases e5 with ⟨rfl, rfl⟩ | rfl
        · intro C' σ' H' L R'
          obtain ⟨p1, p2⟩ := post L R'
          exact q .non C' H' p1 p2 rfl
        · intro v C' σ' H' L R' rv
          obtain ⟨p1, p2⟩ := post L R'
          exact q v C' H' p1 p2 rv
end
end Py
end

section
set_option Elab.async false
set_option linter.all false
set_option autoImplicit false
set_option maxRecDepth 100000
/-! A law's end: what the little language answers is what the law answers. -/
namespace Py
open PySem PySem.Spec PyProof.Rows L2

theorem all_cons {α : Type} {P : α → Prop} {a : α} {l : List α} (h : P a) (t : ∀ r ∈ l, P r) : ∀ r ∈ a :: l, P r := fun r hr => by
  rcases List.mem_cons.mp hr with rfl | hr
  · exact h
  · exact t r hr
theorem all_nil {α : Type} {P : α → Prop} : ∀ r ∈ ([] : List α), P r := fun _ h => nomatch h
def FrOk (K : PySem.W.Frag) (mg : Str → Option Value) (r : FR) : Prop := FnScope r.N r.ps r.d.scope ∧ ∃ f fd, FunD K r.d.name r.d.qual r.d.params r.d.body r.d.scope [] [] f fd ∧ mg r.d.name = some (.ref f) ∧ Binds K fd r.ps []
def CoOk (K : PySem.W.Frag) (mg : Str → Option Value) (w : World) (p : Str × PV) : Prop := ∃ u vv, mg p.1 = some u ∧ RelV vv u ∧ ∀ C : RC, C.K = K → C.w = w → Rep C p.2 vv
theorem co_int {K : PySem.W.Frag} {mg : Str → Option Value} {w : World} {h : Heap} (X : K.In h) (G : h.Ns mainGlobals mg) {x : Str} {i : Int} (c : (He.Fa.int x i).ok K = true) : CoOk K mg w (x, .int i) := by
  obtain ⟨t, e⟩ := He.int_ok X G c
  exact ⟨_, .int i, e, ⟨t, rfl⟩, fun _ _ _ => rfl⟩
theorem co_str {K : PySem.W.Frag} {mg : Str → Option Value} {w : World} {h : Heap} (X : K.In h) (G : h.Ns mainGlobals mg) {x z : Str} (c : (He.Fa.str x z).ok K = true) : CoOk K mg w (x, .str z) := by
  obtain ⟨t, e⟩ := He.str_ok X G c
  exact ⟨_, .str z, e, ⟨t, rfl⟩, fun _ _ _ => rfl⟩
theorem mdOk {m : Md} {K : PySem.W.Frag} {mg : Str → Option Value} {w : World} (h1 : ∀ r ∈ m.frs, FrOk K mg r) (h2 : ∀ p ∈ m.cons, CoOk K mg w p) (h3 : ∀ x ∈ m.free, mg x = none) : MdOk m K mg w :=
  ⟨h1, fun x v h => h2 (x, v) h, h3⟩
/-- what is asked of the law -/
def LawOk (m : Md) (d k n : Nat) : Prop := ∀ ns : List Int, ns.length ≤ n → ∃ cup, callN m.fns d k [.scr (ns.map PV.int)] none = .ok (.bl true, cup)
def spLaw (K : PySem.W.Frag) (n : Nat) : Sp := fun vs H Q _ => ∃ (a : Addr) (ns : List Int), vs = [.ref a] ∧ ns.length ≤ n ∧ SqL K H a (ns.map V.int) ∧ ∀ H', Q (.bl true) H'
theorem reps_of_ints {C : RC} : ∀ ns : List Int, Reps C (ns.map PV.int) (ns.map V.int)
  | [] => rfl
  | n :: ns => Reps.cons rfl (reps_of_ints ns)
theorem law_fn {P : Program} {w : World} {K : PySem.W.Frag} {mg : Str → Option Value} {base : Heap} {m : Md} (M : MdOk m K mg w) {d k n : Nat} {r : FR} (hr : m.frs[k]? = some r) (L : LawOk m d k n) {f : Addr} {fd : FuncData} (F : FunD K r.d.name r.d.qual r.d.params r.d.body r.d.scope [] [] f fd) :
    FnOk P w K mg base CX0 d f fd r.ps (spLaw K n) :=
  (fns_ok (P := P) (base := base) M d k r hr f fd F).imp fun vs H Q E h => by
    obtain ⟨a, ns, rfl, hn, hS, q⟩ := h
    obtain ⟨cup, e⟩ := L ns hn
    refine ⟨⟨K, w, H, none⟩, [.scr (ns.map PV.int)], none, .bl true, cup, rfl, rfl, fun _ _ h => h, ⟨(fun _ _ h => nomatch h), (fun _ => rfl), (fun _ h => nomatch h)⟩, ⟨.ref a, [], rfl, ⟨a, _, rfl, hS, reps_of_ints ns⟩, rfl⟩, e, fun v C' H' _ _ o => ?_⟩
    have o : Rep C' (.bl true) v := o
    rw [show v = V.bl true from o]
    exact q H'
end Py
end

section
set_option Elab.async false
set_option linter.all false
set_option autoImplicit false
set_option maxRecDepth 100000
/-! Constants of a module: tuples, dicts; the hook that tells them. -/
namespace Py
open PySem PySem.Spec PyProof.Rows L2

mutual
def cRep (K : PySem.W.Frag) : PV → Value → Bool
  | .non, u => (match u with | .none => true | _ => false)
  | .bl b, u => (match u with | .bool c => b == c | _ => false)
  | .int i, u => (match u with | .int j _ => decide (j = i) | _ => false)
  | .str x, u => (match u with | .str y _ => decide (y = x) | _ => false)
  | .tup xs, u => (match u with
    | .ref a => (match K.lookup a with
      | some ⟨.type c, _, .seq its _, _⟩ => decide (c = "tuple") && (decide (its.size ≤ sizeLine) && cReps K xs its.toList)
      | _ => false)
    | _ => false)
  | .lst _, _ => false
  | .dct _, _ => false
  | .cup, _ => false
  | .fn _, _ => false
  | .scr _, _ => false
def cReps (K : PySem.W.Frag) : List PV → List Value → Bool
  | [], us => us.isEmpty
  | x :: xs, us => (match us with
    | u :: r => cRep K x u && cReps K xs r
    | [] => false)
end
def cRepE (K : PySem.W.Frag) : List (PV × PV) → List DictEntry → Bool
  | [], es => es.isEmpty
  | (k, x) :: r, es => (match es with
    | e :: t => cRep K k e.key && (cRep K x e.val && cRepE K r t)
    | [] => false)
def apart : List (PV × PV) → Bool
  | [] => true
  | p :: r => r.all (fun q => !q.1.eqv p.1) && apart r
/-- what a dict must be -/
def dctOk (kvs : List (PV × PV)) : Bool := decide (kvs.length ≤ 1000) && (kvs.all (fun p => PV.keyOk p.1 && (decide (PV.depth p.1 ≤ 8) && (decide (PV.kkind p.1 ≤ 2) && kvs.all fun q => PV.kkind q.1 == PV.kkind p.1))) && apart kvs)
def dctAt (K : PySem.W.Frag) (a : Addr) : Option (List DictEntry) := match K.lookup a with
  | some ⟨.type c, none, .dict es _, sl⟩ => if decide (c = "dict") && (sl.isEmpty && !(a == sysModules)) then some es.toList else none
  | _ => none
def cVal (K : PySem.W.Frag) (p : Str × PV) : Bool := match PySem.W.nsIn K mainGlobals p.1 with
  | some (some u) => (match p.2 with
    | .dct kvs => (match u with
      | .ref a => (match dctAt K a with
        | some es => dctOk kvs && cRepE K kvs es
        | none => false)
      | _ => false)
    | v => cRep K v u)
  | _ => false
def cHash (K : PySem.W.Frag) (p : Str × PV) : List Int := match p.2 with
  | .dct _ => (match PySem.W.nsIn K mainGlobals p.1 with
    | some (some (.ref a)) => (match dctAt K a with
      | some es => es.map (·.hash)
      | none => [])
    | _ => [])
  | _ => []
def cHashV (w : World) (p : Str × PV) : List Int := match p.2 with
  | .dct kvs => kvs.map fun q => (PV.nk q.1).hash w
  | _ => []
mutual
theorem cRep_ok {K : PySem.W.Frag} {C : RC} (hK : C.K = K) : ∀ (p : PV) (u : Value), cRep K p u = true → ∃ v, RelV v u ∧ Rep C p v
  | .non, u, h => by
    unfold cRep at h
    split at h
    · exact ⟨.non, rfl, rfl⟩
    · cases h
  | .bl b, u, h => by
    unfold cRep at h
    split at h
    · rw [eq_of_beq h]; exact ⟨.bl _, rfl, rfl⟩
    · cases h
  | .int i, u, h => by
    unfold cRep at h
    split at h
    · rw [of_decide_eq_true h]; exact ⟨.int _, ⟨_, rfl⟩, rfl⟩
    · cases h
  | .str x, u, h => by
    unfold cRep at h
    split at h
    · rw [of_decide_eq_true h]; exact ⟨.str _, ⟨_, rfl⟩, rfl⟩
    · cases h
  | .tup xs, u, h => by
    unfold cRep at h
    split at h
    · rename_i a
      split at h
      · rename_i c d its n sl q
        rw [Bool.and_eq_true, Bool.and_eq_true] at h
        obtain ⟨h1, h2, h3⟩ := h
        obtain ⟨vs, r1, r2⟩ := cReps_ok hK xs _ h3
        exact ⟨.ref a, rfl, a, vs, rfl, .inr ⟨_, its, n, by rw [hK]; exact q, congrArg Value.type (of_decide_eq_true h1), rfl, of_decide_eq_true h2, r1⟩, r2⟩
      · cases h
    · cases h
  | .lst _, _, h => by unfold cRep at h; cases h
  | .dct _, _, h => by unfold cRep at h; cases h
  | .cup, _, h => by unfold cRep at h; cases h
  | .fn _, _, h => by unfold cRep at h; cases h
  | .scr _, _, h => by unfold cRep at h; cases h
theorem cReps_ok {K : PySem.W.Frag} {C : RC} (hK : C.K = K) : ∀ (ps : List PV) (us : List Value), cReps K ps us = true → ∃ vs, Vals vs us ∧ Reps C ps vs
  | [], us, h => by
    unfold cReps at h
    cases us with
    | nil => exact ⟨[], .nil, rfl⟩
    | cons u r => cases h
  | x :: xs, us, h => by
    unfold cReps at h
    split at h
    · rename_i u r
      rw [Bool.and_eq_true] at h
      obtain ⟨v, r1, r2⟩ := cRep_ok hK x u h.1
      obtain ⟨vs, r3, r4⟩ := cReps_ok hK xs r h.2
      exact ⟨v :: vs, .cons r1 r3, Reps.cons r2 r4⟩
    · cases h
end
theorem cRepE_ok {K : PySem.W.Frag} {C : RC} (hK : C.K = K) : ∀ (kvs : List (PV × PV)) (es : List DictEntry), cRepE K kvs es = true → RepE C kvs es
  | [], es, h => by
    unfold cRepE at h
    cases es with
    | nil => rfl
    | cons u r => cases h
  | (k, x) :: r, es, h => by
    unfold cRepE at h
    split at h
    · rename_i e t
      rw [Bool.and_eq_true, Bool.and_eq_true] at h
      exact ⟨e, t, rfl, cRep_ok hK k _ h.1, cRep_ok hK x _ h.2.1, cRepE_ok hK r t h.2.2⟩
    · cases h
theorem apart_ok : ∀ {kvs : List (PV × PV)}, (∀ p ∈ kvs, PV.keyOk p.1 = true ∧ PV.depth p.1 ≤ 8) → apart kvs = true → (kvs.map fun p => PV.nk p.1).Nodup
  | [], _, _ => List.nodup_nil
  | p :: r, hk, h => by
    unfold apart at h
    rw [Bool.and_eq_true] at h
    rw [List.map_cons, List.nodup_cons]
    refine ⟨fun hm => ?_, apart_ok (fun q hq => hk q (List.mem_cons_of_mem _ hq)) h.2⟩
    obtain ⟨q, hq, e⟩ := List.mem_map.mp hm
    have h1 := List.all_eq_true.mp h.1 q hq
    have h2 := (nk_iff (kvs := r) (fun q hq => hk q (List.mem_cons_of_mem _ hq)) (hk p List.mem_cons_self).1 q hq).mp e
    rw [h2] at h1
    cases h1
theorem co_all {K : PySem.W.Frag} {mg : Str → Option Value} {w : World} {h : Heap} (X : K.In h) (G : h.Ns mainGlobals mg) {cs : List (Str × PV)} (c1 : cs.all (cVal K) = true) (c2 : cs.map (cHash K) = cs.map (cHashV w)) : ∀ p ∈ cs, CoOk K mg w p := by
  intro p hp
  have h1 := List.all_eq_true.mp c1 p hp
  have h2 : cHash K p = cHashV w p := List.map_inj_left.mp c2 p hp
  obtain ⟨x, v⟩ := p
  unfold cVal at h1
  split at h1
  · rename_i u hu
    have hm := PySem.W.mg_of X G hu
    split at h1
    · rename_i kvs hv
      cases (show v = .dct kvs from hv)
      split at h1
      · rename_i a
        split at h1
        · rename_i es hes
          rw [Bool.and_eq_true] at h1
          obtain ⟨g1, g2⟩ := h1
          have h3 : es.map (fun e => e.hash) = kvs.map fun q => (PV.nk q.1).hash w := by
            have e1 : cHash K (x, .dct kvs) = es.map (fun e => e.hash) := by
              unfold cHash
              dsimp only
              rw [show PySem.W.nsIn K mainGlobals x = some (some (.ref a)) from hu]
              dsimp only
              rw [hes]
            rw [← e1]; exact h2
          have hes' := hes
          unfold dctAt at hes
          split at hes
          · rename_i c esA ep sl hl
            split at hes
            · rename_i hb
              rw [Bool.and_eq_true, Bool.and_eq_true] at hb
              obtain ⟨b1, b2, b3⟩ := hb
              cases hes
              unfold dctOk at g1
              rw [Bool.and_eq_true, Bool.and_eq_true] at g1
              obtain ⟨d1, d2, d3⟩ := g1
              have keys : ∀ p ∈ kvs, (PV.keyOk p.1 = true ∧ PV.depth p.1 ≤ 8) ∧ PV.kkind p.1 ≤ 2 ∧ ∀ q ∈ kvs, PV.kkind q.1 = PV.kkind p.1 := fun p hp => by
                have z := List.all_eq_true.mp d2 p hp
                rw [Bool.and_eq_true, Bool.and_eq_true, Bool.and_eq_true] at z
                exact ⟨⟨z.1, of_decide_eq_true z.2.1⟩, of_decide_eq_true z.2.2.1, fun q hq => eq_of_beq (List.all_eq_true.mp z.2.2.2 q hq)⟩
              refine ⟨_, .ref a, hm, rfl, fun C hK hw => ?_⟩
              refine ⟨a, _, esA.toList, rfl, .inr (by rw [hK]; exact hl), ⟨⟨congrArg Value.type (of_decide_eq_true b1), rfl, ?_⟩, ⟨esA, ep, rfl, rfl⟩, by simpa using b3, Nat.le_trans (of_decide_eq_true d1) (by unfold LIM; omega), fun p hp => (keys p hp).1, ?_, apart_ok (fun p hp => (keys p hp).1) d3, ?_⟩, cRepE_ok hK _ _ g2⟩
              · exact Array.isEmpty_iff.mp b2
              · cases kvs with
                | nil => exact ⟨0, Nat.zero_le _, fun _ h => nomatch h⟩
                | cons q r => exact ⟨PV.kkind q.1, (keys q List.mem_cons_self).2.1, fun p hp => (keys q List.mem_cons_self).2.2 p hp⟩
              · rw [hw]; exact h3
            · cases hes
          · cases hes
        · cases h1
      · cases h1
    · have key : ∀ C : RC, C.K = K → ∃ vv, RelV vv u ∧ Rep C v vv := fun C hK => cRep_ok hK v u h1
      obtain ⟨vv, r1, _⟩ := key ⟨K, w, fun _ => none, none⟩ rfl
      refine ⟨u, vv, hm, r1, fun C hK hw => ?_⟩
      obtain ⟨v2, r2, r3⟩ := key C hK
      rw [RelV.inj r1 r2]
      exact r3
  · cases h1
/-! ### the hook -/
def refsC (o : Obj) : List Addr := He.refsD o ++ match o.data with
  | .dict es _ => es.toList.flatMap fun e => He.refV e.key
  | _ => []
def growC (g : Addr → Option Obj) (as : List Addr) : List Addr := (as ++ as.flatMap fun a => match g a with
  | some o => refsC o
  | none => []).eraseDups
def asC (g : Addr → Option Obj) : Nat → List Addr
  | 0 => [mainGlobals]
  | n + 1 => growC g (asC g n)
abbrev AlC : Type := He.AlD × Bool × List (List Int)
def obsK (fa : List He.Fa) (fn : List He.DefD) (cs : List (Str × PV)) (K : PySem.W.Frag) : AlC := (He.obsD fa fn K, cs.all (cVal K), cs.map (cHash K))
def obsC (n : Nat) (fa : List He.Fa) (fn : List He.DefD) (cs : List (Str × PV)) (g : Addr → Option Obj) : AlC := obsK fa fn cs (He.frG g (asC g n))
structure SaysC (fa : List He.Fa) (fn : List He.DefD) (cs : List (Str × PV)) (w : World) (K : PySem.W.Frag) : Prop where
  d : He.SaysD fa fn K
  v : cs.all (cVal K) = true
  h : cs.map (cHash K) = cs.map (cHashV w)
def hookC (n : Nat) (fa : List He.Fa) (fn : List He.DefD) (cs : List (Str × PV)) : PySem.W.Hook where
  α := AlC
  obs := fun s => obsC n fa fn cs s.heap.get?
  val := fun w => (He.valD fn, true, cs.map (cHashV w))
  says := fun w h => ∃ K : PySem.W.Frag, K.In h ∧ SaysC fa fn cs w K
  of := fun _ _ e => ⟨_, He.frG_in, ⟨congrArg (fun z : AlC => z.1) e, congrArg (fun z : AlC => z.2.1) e, congrArg (fun z : AlC => z.2.2) e⟩⟩
  keeps := fun _ _ _ ⟨K, hK, c⟩ k => ⟨K, PySem.W.Frag.In.keeps hK k, c⟩
theorem obsC_eq {n : Nat} {fa : List He.Fa} {fn : List He.DefD} {cs : List (Str × PV)} {g : Addr → Option Obj} {s : Shared} (h : ∀ a, g a = s.heap.get? a) : obsC n fa fn cs g = (hookC n fa fn cs).obs s := by
  have e : g = s.heap.get? := funext h
  rw [e] <;> rfl
end Py
end

section
set_option Elab.async false
set_option linter.all false
set_option autoImplicit false
set_option maxRecDepth 100000
/-! Running the small language by hand. -/
namespace Py
open PySem (Str CmpOp)

theorem bind_ok' {α β : Type} (a : α) (f : α → Res β) : (Res.ok a).bind f = f a := rfl
theorem of_t {α : Type} (x : Res α) : Res.of true x = x := rfl
theorem ofOpt_s {α : Type} (a : α) : Res.ofOpt (some a) = Res.ok a := rfl
theorem callN_succ {F : List Fn} {k : Nat} {f : Fn} (h : F[k]? = some f) (d : Nat) (args : List PV) (cup : Option (Int × Int)) : callN F (d + 1) k args cup = runFn (callN F d) f args cup := by
  show (match F[k]? with | some f => runFn (callN F d) f args cup | none => .no) = _
  rw [h]
theorem runFn_eq {Φ : Calls} {f : Fn} {args : List PV} {cup : Option (Int × Int)} (h : args.length = f.nargs) : runFn Φ f args cup = (exs Φ f.body ⟨startE f args, cup⟩).bind fun r => match r.1 with
    | .rt v => .ok (v, r.2.cup)
    | .nx => .ok (.non, r.2.cup)
    | _ => .no := by
  unfold runFn
  rw [decide_eq_true h]; rfl
/-- a for loop by an invariant -/
theorem for_inv {turn : PV → St → Res (Flow × St)} {xs : List PV} (I : St → Prop) {st : St} (h0 : I st) (h : ∀ x ∈ xs, ∀ s, I s → ∃ s', turn x s = .ok (.nx, s') ∧ I s') : ∃ s', forL turn xs st = .ok (.nx, s') ∧ I s' := by
  induction xs generalizing st with
  | nil => exact ⟨st, rfl, h0⟩
  | cons x xs ih =>
    obtain ⟨s1, e1, i1⟩ := h x List.mem_cons_self st h0
    obtain ⟨s2, e2, i2⟩ := ih i1 fun y hy => h y (List.mem_cons_of_mem _ hy)
    refine ⟨s2, ?_, i2⟩
    show (turn x st).bind _ = _
    rw [e1]
    exact e2
/-- a comprehension's loop by an invariant; the items are told by the sources -/
theorem lc_inv {turn : PV → St → Res (List PV × St)} {xs : List PV} (I : St → Prop) (g : PV → List PV) {st : St} (h0 : I st) (h : ∀ x ∈ xs, ∀ s, I s → ∃ s', turn x s = .ok (g x, s') ∧ I s') : ∃ s', lcLoop turn xs st = .ok (xs.flatMap g, s') ∧ I s' := by
  induction xs generalizing st with
  | nil => exact ⟨st, rfl, h0⟩
  | cons x xs ih =>
    obtain ⟨s1, e1, i1⟩ := h x List.mem_cons_self st h0
    obtain ⟨s2, e2, i2⟩ := ih i1 fun y hy => h y (List.mem_cons_of_mem _ hy)
    refine ⟨s2, ?_, i2⟩
    show (turn x st).bind _ = _
    rw [e1, bind_ok', e2, List.flatMap_cons]
    rfl
theorem lc_map {turn : PV → St → Res (List PV × St)} {xs : List PV} (I : St → Prop) (g : PV → PV) {st : St} (h0 : I st) (h : ∀ x ∈ xs, ∀ s, I s → ∃ s', turn x s = .ok ([g x], s') ∧ I s') : ∃ s', lcLoop turn xs st = .ok (xs.map g, s') ∧ I s' := by
  obtain ⟨s', e, i⟩ := lc_inv I (fun x => [g x]) h0 h
  refine ⟨s', ?_, i⟩
  rw [e]
  congr 2
  clear e h h0 i
  induction xs with
  | nil => rfl
  | cons x xs ih => rw [List.flatMap_cons, List.map_cons, ih]; rfl
/-- items that are only known to be of a kind -/
theorem lc_rel {turn : PV → St → Res (List PV × St)} {xs : List PV} (I : St → Prop) (P : PV → PV → Prop) {st : St} (h0 : I st) (h : ∀ x ∈ xs, ∀ s, I s → ∃ y s', turn x s = .ok ([y], s') ∧ P x y ∧ I s') : ∃ ys s', lcLoop turn xs st = .ok (ys, s') ∧ ys.length = xs.length ∧ (∀ y ∈ ys, ∃ x ∈ xs, P x y) ∧ I s' := by
  induction xs generalizing st with
  | nil => exact ⟨[], st, rfl, rfl, (fun _ h => nomatch h), h0⟩
  | cons x xs ih =>
    obtain ⟨y, s1, e1, p1, i1⟩ := h x List.mem_cons_self st h0
    obtain ⟨ys, s2, e2, l2, p2, i2⟩ := ih i1 fun y hy => h y (List.mem_cons_of_mem _ hy)
    refine ⟨y :: ys, s2, ?_, by rw [List.length_cons, List.length_cons, l2], fun z hz => ?_, i2⟩
    · show (turn x st).bind _ = _
      rw [e1, bind_ok', e2]
      rfl
    · rcases List.mem_cons.mp hz with rfl | hz
      · exact ⟨x, List.mem_cons_self, p1⟩
      · obtain ⟨x', hx, p⟩ := p2 z hz
        exact ⟨x', List.mem_cons_of_mem _ hx, p⟩

/-! ### one step after the other -/
def ifB {α : Type} (v : PV) (x y : Res α) : Res α := match v with
  | .bl true => x
  | .bl false => y
  | _ => .no
@[simp] theorem ifB_bl {α : Type} (b : Bool) (x y : Res α) : ifB (.bl b) x y = if b = true then x else y := by cases b <;> rfl
@[simp] theorem bind_ite {α β : Type} (c : Prop) [Decidable c] (x y : Res α) (f : α → Res β) : (if c then x else y).bind f = if c then x.bind f else y.bind f := by split <;> rfl
@[simp] theorem rbind_ok {α β : Type} (a : α) (f : α → Res β) : (Res.ok a).bind f = f a := rfl
@[simp] theorem rof_t {α : Type} (x : Res α) : Res.of true x = x := rfl
@[simp] theorem rofOpt_s {α : Type} (a : α) : Res.ofOpt (some a) = Res.ok a := rfl
section
variable {Φ : Calls} {st : St}
@[simp] theorem r_lit (v : PV) : ev Φ (.lit v) st = .ok (v, st) := by rw [ev]
@[simp] theorem r_con (x : Str) (v : PV) : ev Φ (.con x v) st = .ok (v, st) := by rw [ev]
@[simp] theorem r_var (i : Nat) : ev Φ (.var i) st = (slotV st.env i).bind fun v => .ok (v, { st with env := frz st.env i }) := by rw [ev]
@[simp] theorem r_bor (i : Nat) : ev Φ (.bor i) st = (slotV st.env i).bind fun v => .ok (v, st) := by rw [ev]
@[simp] theorem r_op (o : Op) (es : List E) : ev Φ (.op o es) st = (evs Φ es st).bind fun r => (reread es r.1 r.2).bind fun vs => (opV r.2.cup o vs).bind fun v => .ok (v, r.2) := by rw [ev]
@[simp] theorem r_itr (k : Itk) (es : List E) : ev Φ (.itr k es) st = (evs Φ es st).bind fun r => (reread es r.1 r.2).bind fun vs => (itrV k vs).bind fun v => .ok (.lst v, r.2) := by rw [ev]
@[simp] theorem r_and (a b : E) : ev Φ (.and a b) st = (ev Φ a st).bind fun r => ifB r.1 (ev Φ b r.2) (.ok (.bl false, r.2)) := by
  rw [ev]; rfl
@[simp] theorem r_or (a b : E) : ev Φ (.or a b) st = (ev Φ a st).bind fun r => ifB r.1 (.ok (.bl true, r.2)) (ev Φ b r.2) := by
  rw [ev]; rfl
def notB (v : PV) : Res PV := match v with
  | .bl b => .ok (.bl (!b))
  | _ => .no
@[simp] theorem notB_bl (b : Bool) : notB (.bl b) = .ok (.bl (!b)) := rfl
@[simp] theorem r_not (a : E) : ev Φ (.not a) st = (ev Φ a st).bind fun r => (notB r.1).bind fun v => .ok (v, r.2) := by
  rw [ev]
  congr 1
  funext r
  cases r.1 <;> rfl
@[simp] theorem r_ite (c a b : E) : ev Φ (.ite c a b) st = (ev Φ c st).bind fun r => ifB r.1 (ev Φ a r.2) (ev Φ b r.2) := by
  rw [ev]; rfl
@[simp] theorem r_chain (o1 o2 : CmpOp) (a b c : E) : ev Φ (.chain o1 o2 a b c) st = (ev Φ a st).bind fun r => (ev Φ b r.2).bind fun q => (cmpV o1 r.1 q.1).bind fun z =>
    ifB z ((ev Φ c q.2).bind fun t => (cmpV o2 q.1 t.1).bind fun z' => .ok (z', t.2)) (.ok (.bl false, q.2)) := by
  rw [ev]; rfl
@[simp] theorem r_call (k : Nat) (es : List E) : ev Φ (.call k es) st = (evs Φ es st).bind fun r => (Φ k r.1 r.2.cup).bind fun q => .ok (q.1, { r.2 with cup := q.2 }) := by rw [ev]
def lcTurn (Φ : Calls) (own : List Nat) (p : Pat) (c elt : E) (x : PV) (st : St) : Res (List PV × St) :=
  (bindP p x (wipeE st.env own)).bind fun env => (ev Φ c { st with env := env }).bind fun b => ifB b.1 ((ev Φ elt b.2).bind fun y => .ok ([y.1], y.2)) (.ok ([], b.2))
theorem r_lc (own : List Nat) (p : Pat) (it c elt : E) : ev Φ (.lc own p it c elt) st = (ev Φ it st).bind fun r => (Res.ofOpt (ltOf r.1)).bind fun xs =>
    (lcLoop (lcTurn Φ own p c elt) xs r.2).bind fun q => .of (fits (q.1.length)) (.ok (.lst q.1, { q.2 with env := backE r.2.env q.2.env own })) := by
  rw [ev]; rfl
def lc2In (Φ : Calls) (vs1 : List Nat) (p1 : Pat) (c1 elt : E) (y : PV) (st : St) : Res (List PV × St) :=
  (bindP p1 y (wipeE st.env vs1)).bind fun env => (ev Φ c1 { st with env := env }).bind fun b1 => ifB b1.1 ((ev Φ elt b1.2).bind fun z => .ok ([z.1], z.2)) (.ok ([], b1.2))
def lc2Turn (Φ : Calls) (own : List Nat) (p : Pat) (c : E) (vs1 : List Nat) (p1 : Pat) (it1 c1 elt : E) (x : PV) (st : St) : Res (List PV × St) :=
  (bindP p x (wipeE st.env own)).bind fun env => (ev Φ c { st with env := env }).bind fun b => ifB b.1 ((ev Φ it1 b.2).bind fun r1 => (Res.ofOpt (ltOf r1.1)).bind fun ys => lcLoop (lc2In Φ vs1 p1 c1 elt) ys r1.2) (.ok ([], b.2))
theorem r_lc2 (own : List Nat) (p : Pat) (it c : E) (vs1 : List Nat) (p1 : Pat) (it1 c1 elt : E) : ev Φ (.lc2 own p it c vs1 p1 it1 c1 elt) st = (ev Φ it st).bind fun r => (Res.ofOpt (ltOf r.1)).bind fun xs =>
    (lcLoop (lc2Turn Φ own p c vs1 p1 it1 c1 elt) xs r.2).bind fun q => .of (fits (q.1.length)) (.ok (.lst q.1, { q.2 with env := backE r.2.env q.2.env own })) := by
  rw [ev]; rfl
@[simp] theorem r_evs0 : evs Φ [] st = .ok ([], st) := by rw [evs]
@[simp] theorem r_evs (e : E) (es : List E) : evs Φ (e :: es) st = (ev Φ e st).bind fun r => (evs Φ es r.2).bind fun q => .ok (r.1 :: q.1, q.2) := by rw [evs]
/-! statements -/
@[simp] theorem r_exs0 : exs Φ [] st = .ok (.nx, st) := by rw [exs]
def thenS (Φ : Calls) (ss : List S) (r : Flow × St) : Res (Flow × St) := match r.1 with
  | .nx => exs Φ ss r.2
  | f => .ok (f, r.2)
@[simp] theorem thenS_nx (ss : List S) (s : St) : thenS Φ ss (.nx, s) = exs Φ ss s := rfl
@[simp] theorem thenS_rt (ss : List S) (v : PV) (s : St) : thenS Φ ss (.rt v, s) = .ok (.rt v, s) := rfl
@[simp] theorem thenS_bk (ss : List S) (s : St) : thenS Φ ss (.bk, s) = .ok (.bk, s) := rfl
@[simp] theorem thenS_ct (ss : List S) (s : St) : thenS Φ ss (.ct, s) = .ok (.ct, s) := rfl
@[simp] theorem r_exs (s : S) (ss : List S) : exs Φ (s :: ss) st = (ex Φ s st).bind (thenS Φ ss) := by
  rw [exs]; rfl
@[simp] theorem r_asg (p : Pat) (e : E) : ex Φ (.asg p e) st = (ev Φ e st).bind fun r => (bindP p r.1 r.2.env).bind fun env => .ok (.nx, { r.2 with env := env }) := by rw [ex]
@[simp] theorem r_asgo (i : Nat) (e : E) : ex Φ (.asgo i e) st = (ev Φ e st).bind fun r => .ok (.nx, { r.2 with env := r.2.env.set i (.own r.1) }) := by rw [ex]
@[simp] theorem r_asgs (is : List (Nat × Bool)) (es : List E) : ex Φ (.asgs is es) st = (evs Φ es st).bind fun r => (storeAll is r.1 r.2.env).bind fun env => .ok (.nx, { r.2 with env := env }) := by rw [ex]
@[simp] theorem r_ret (e : E) : ex Φ (.ret e) st = (ev Φ e st).bind fun r => .ok (.rt r.1, r.2) := by rw [ex]
@[simp] theorem r_expr (e : E) : ex Φ (.expr e) st = (ev Φ e st).bind fun r => .ok (.nx, r.2) := by rw [ex]
@[simp] theorem test_bl (b : Bool) (s : St) : test (.ok (.bl b, s)) = .ok (b, s) := rfl
@[simp] theorem test_ite (c : Prop) [Decidable c] (x y : Res (PV × St)) : test (if c then x else y) = if c then test x else test y := by split <;> rfl
@[simp] theorem r_site (c : E) (t f : List S) : ex Φ (.ite c t f) st = (test (ev Φ c st)).bind fun r => if r.1 = true then exs Φ t r.2 else exs Φ f r.2 := by rw [ex]
@[simp] theorem r_pass : ex Φ .pass st = .ok (.nx, st) := by rw [ex]
def forTurn (Φ : Calls) (p : Pat) (b : List S) (x : PV) (st : St) : Res (Flow × St) := (bindP p x st.env).bind fun env => exs Φ b { st with env := env }
theorem r_for (p : Pat) (it : E) (b : List S) : ex Φ (.for p it b) st = (ev Φ it st).bind fun r => (Res.ofOpt (ltOf r.1)).bind fun xs => forL (forTurn Φ p b) xs r.2 := by
  rw [ex]; rfl
end
/-! operations -/
section
variable (cu : Option (Int × Int))
@[simp] theorem o_add (x y : PV) : opV cu .add [x, y] = addV x y := rfl
@[simp] theorem o_sub (i j : Int) : opV cu .sub [.int i, .int j] = .ok (.int (i - j)) := rfl
@[simp] theorem o_mul (x y : PV) : opV cu .mul [x, y] = mulV x y := rfl
@[simp] theorem o_fdiv (i j : Int) : opV cu .fdiv [.int i, .int j] = .of (decide (0 < j) && decide (j < 1073741824)) (.ok (.int (i / j))) := rfl
@[simp] theorem o_mod (i j : Int) : opV cu .mod [.int i, .int j] = .of (decide (0 < j)) (.ok (.int (i % j))) := rfl
@[simp] theorem o_pow (i j : Int) : opV cu .pow [.int i, .int j] = .of (decide (0 ≤ j) && decide (j ≤ 1000) && small64 i) (.ok (.int (i ^ j.toNat))) := rfl
@[simp] theorem o_neg (i : Int) : opV cu .neg [.int i] = .ok (.int (-i)) := rfl
@[simp] theorem o_cmp (c : CmpOp) (x y : PV) : opV cu (.cmp c) [x, y] = cmpV c x y := rfl
@[simp] theorem o_idx (x y : PV) : opV cu .idx [x, y] = idxV cu x y := rfl
@[simp] theorem o_rev (x : PV) : opV cu .rev [x] = revV x := rfl
@[simp] theorem o_tup (xs : List PV) : opV cu .tup xs = .ok (.tup xs) := rfl
@[simp] theorem o_lst (xs : List PV) : opV cu .lst xs = .ok (.lst xs) := rfl
@[simp] theorem o_dct0 : opV cu .dct [] = .ok (.dct []) := rfl
@[simp] theorem o_bif (b : Bif) (xs : List PV) : opV cu (.bif b) xs = bifV b xs := rfl
@[simp] theorem o_isi (t : Ty) (x : PV) : opV cu (.isi t) [x] = isiV t x := rfl
@[simp] theorem o_slc_tt (x : PV) (l h : Int) : opV cu (.slc true true) [x, .int l, .int h] = slcV x (some l) (some h) := rfl
@[simp] theorem o_slc_tf (x : PV) (l : Int) : opV cu (.slc true false) [x, .int l] = slcV x (some l) none := rfl
@[simp] theorem o_slc_ft (x : PV) (l : Int) : opV cu (.slc false true) [x, .int l] = slcV x none (some l) := rfl
@[simp] theorem o_slc_ff (x : PV) : opV cu (.slc false false) [x] = slcV x none none := rfl
@[simp] theorem add_int (i j : Int) : addV (.int i) (.int j) = .ok (.int (i + j)) := rfl
@[simp] theorem add_tup (xs ys : List PV) : addV (.tup xs) (.tup ys) = .of (fits (xs.length + ys.length)) (.ok (.tup (xs ++ ys))) := rfl
@[simp] theorem add_lst (xs ys : List PV) : addV (.lst xs) (.lst ys) = .of (fits (xs.length + ys.length)) (.ok (.lst (xs ++ ys))) := rfl
@[simp] theorem mul_int (i j : Int) : mulV (.int i) (.int j) = .of (small64 i || small64 j) (.ok (.int (i * j))) := rfl
@[simp] theorem idx_tup (xs : List PV) (i : Int) : idxV cu (.tup xs) (.int i) = .ofOpt (atI xs i) := rfl
@[simp] theorem idx_lst (xs : List PV) (i : Int) : idxV cu (.lst xs) (.int i) = .ofOpt (atI xs i) := rfl
@[simp] theorem idx_cup0 (a b : Int) : idxV (some (a, b)) .cup (.int 0) = .ok (.int a) := rfl
@[simp] theorem idx_cup1 (a b : Int) : idxV (some (a, b)) .cup (.int 1) = .ok (.int b) := rfl
@[simp] theorem slc_tup (xs : List PV) (l h : Option Int) : slcV (.tup xs) l h = .ok (.tup (cut xs l h)) := rfl
@[simp] theorem slc_lst (xs : List PV) (l h : Option Int) : slcV (.lst xs) l h = .ok (.lst (cut xs l h)) := rfl
@[simp] theorem rev_tup (xs : List PV) : revV (.tup xs) = .ok (.tup xs.reverse) := rfl
@[simp] theorem rev_lst (xs : List PV) : revV (.lst xs) = .ok (.lst xs.reverse) := rfl
@[simp] theorem b_len_l (xs : List PV) : bifV .len [.lst xs] = .ok (.int xs.length) := rfl
@[simp] theorem b_len_t (xs : List PV) : bifV .len [.tup xs] = .ok (.int xs.length) := rfl
@[simp] theorem b_len_d (xs : List (PV × PV)) : bifV .len [.dct xs] = .ok (.int xs.length) := rfl
@[simp] theorem b_abs (i : Int) : bifV .abs [.int i] = .ok (.int i.natAbs) := rfl
@[simp] theorem b_int (i : Int) : bifV .int [.int i] = .ok (.int i) := rfl
@[simp] theorem b_tup_l (xs : List PV) : bifV .tuple [.lst xs] = .ok (.tup xs) := rfl
@[simp] theorem b_tup_t (xs : List PV) : bifV .tuple [.tup xs] = .ok (.tup xs) := rfl
@[simp] theorem b_lst_s (xs : List PV) : bifV .list [.scr xs] = .ok (.lst xs) := rfl
@[simp] theorem b_lst_l (xs : List PV) : bifV .list [.lst xs] = .ok (.lst xs) := rfl
@[simp] theorem b_lst_t (xs : List PV) : bifV .list [.tup xs] = .ok (.lst xs) := rfl
@[simp] theorem b_lst_d (xs : List (PV × PV)) : bifV .list [.dct xs] = .ok (.lst (xs.map (·.1))) := rfl
theorem mapM_bls (bs : List Bool) : (bs.map PV.bl).mapM blOf = some bs := by
  induction bs with
  | nil => rfl
  | cons b bs ih => rw [List.map_cons, List.mapM_cons, ih]; rfl
theorem mapM_ints (bs : List Int) : (bs.map PV.int).mapM intOf = some bs := by
  induction bs with
  | nil => rfl
  | cons b bs ih => rw [List.map_cons, List.mapM_cons, ih]; rfl
@[simp] theorem b_all (bs : List Bool) : bifV .all [.lst (bs.map PV.bl)] = .ok (.bl (bs.all id)) := by
  show ((Res.ofOpt ((bs.map PV.bl).mapM blOf)).bind fun bs => Res.ok (PV.bl (bs.all id))) = _
  rw [mapM_bls]; rfl
@[simp] theorem b_any (bs : List Bool) : bifV .any [.lst (bs.map PV.bl)] = .ok (.bl (bs.any id)) := by
  show ((Res.ofOpt ((bs.map PV.bl).mapM blOf)).bind fun bs => Res.ok (PV.bl (bs.any id))) = _
  rw [mapM_bls]; rfl
@[simp] theorem b_sum (is : List Int) : bifV .sum [.lst (is.map PV.int)] = .ok (.int is.sum) := by
  show ((Res.ofOpt ((is.map PV.int).mapM intOf)).bind fun is => Res.ok (PV.int is.sum)) = _
  rw [mapM_ints]; rfl
/-! comparisons of numbers -/
@[simp] theorem fine_int (i : Int) : (PV.int i).fine = true := by simp [PV.fine, PV.plain, PV.depth]
@[simp] theorem c_lt (i j : Int) : cmpV .Lt (.int i) (.int j) = .ok (.bl (decide (i < j))) := by simp [cmpV, cmpB, ordOk, PV.alike, PV.isNon, PV.lt]
@[simp] theorem c_gt (i j : Int) : cmpV .Gt (.int i) (.int j) = .ok (.bl (decide (j < i))) := by simp [cmpV, cmpB, ordOk, PV.alike, PV.isNon, PV.lt]
@[simp] theorem c_le (i j : Int) : cmpV .LtE (.int i) (.int j) = .ok (.bl (decide (i ≤ j))) := by
  simp [cmpV, cmpB, ordOk, PV.alike, PV.isNon, PV.lt]
  by_cases h : i ≤ j <;> simp [h] <;> omega
@[simp] theorem c_ge (i j : Int) : cmpV .GtE (.int i) (.int j) = .ok (.bl (decide (j ≤ i))) := by
  simp [cmpV, cmpB, ordOk, PV.alike, PV.isNon, PV.lt]
  by_cases h : j ≤ i <;> simp [h] <;> omega
@[simp] theorem c_eq (i j : Int) : cmpV .Eq (.int i) (.int j) = .ok (.bl (decide (i = j))) := by simp [cmpV, cmpB, PV.eqv]
@[simp] theorem c_ne (i j : Int) : cmpV .NotEq (.int i) (.int j) = .ok (.bl (!decide (i = j))) := by simp [cmpV, cmpB, PV.eqv]
@[simp] theorem c_is_n (x : PV) : cmpV .Is x .non = .ok (.bl x.isNon) := rfl
@[simp] theorem c_isn_n (x : PV) : cmpV .IsNot x .non = .ok (.bl (!x.isNon)) := rfl
@[simp] theorem c_is_b (a b : Bool) : cmpV .Is (.bl a) (.bl b) = .ok (.bl (a == b)) := rfl
@[simp] theorem c_isn_b (a b : Bool) : cmpV .IsNot (.bl a) (.bl b) = .ok (.bl (!(a == b))) := rfl
end
section
variable {es : List E} {x : PV} {vs : List PV} {st : St}
@[simp] theorem rr_nil : reread [] [] st = .ok [] := rfl
@[simp] theorem rr_bor (i : Nat) : reread (.bor i :: es) (x :: vs) st = (slotV st.env i).bind fun v => (reread es vs st).bind fun r => .ok (v :: r) := rfl
@[simp] theorem rr_lit (v : PV) : reread (.lit v :: es) (x :: vs) st = (reread es vs st).bind fun r => .ok (x :: r) := rfl
@[simp] theorem rr_con (nm : Str) (v : PV) : reread (.con nm v :: es) (x :: vs) st = (reread es vs st).bind fun r => .ok (x :: r) := rfl
@[simp] theorem rr_var (i : Nat) : reread (.var i :: es) (x :: vs) st = (reread es vs st).bind fun r => .ok (x :: r) := rfl
@[simp] theorem rr_op (o : Op) (as : List E) : reread (.op o as :: es) (x :: vs) st = (reread es vs st).bind fun r => .ok (x :: r) := rfl
@[simp] theorem rr_meth (o : Op) (a : E) (as : List E) : reread (.meth o a as :: es) (x :: vs) st = (reread es vs st).bind fun r => .ok (x :: r) := rfl
@[simp] theorem rr_and (a b : E) : reread (.and a b :: es) (x :: vs) st = (reread es vs st).bind fun r => .ok (x :: r) := rfl
@[simp] theorem rr_or (a b : E) : reread (.or a b :: es) (x :: vs) st = (reread es vs st).bind fun r => .ok (x :: r) := rfl
@[simp] theorem rr_not (a : E) : reread (.not a :: es) (x :: vs) st = (reread es vs st).bind fun r => .ok (x :: r) := rfl
@[simp] theorem rr_ite (c a b : E) : reread (.ite c a b :: es) (x :: vs) st = (reread es vs st).bind fun r => .ok (x :: r) := rfl
@[simp] theorem rr_chain (o1 o2 : CmpOp) (a b c : E) : reread (.chain o1 o2 a b c :: es) (x :: vs) st = (reread es vs st).bind fun r => .ok (x :: r) := rfl
@[simp] theorem rr_call (k : Nat) (as : List E) : reread (.call k as :: es) (x :: vs) st = (reread es vs st).bind fun r => .ok (x :: r) := rfl
@[simp] theorem rr_pop (i : Nat) : reread (.pop i :: es) (x :: vs) st = (reread es vs st).bind fun r => .ok (x :: r) := rfl
@[simp] theorem rr_lc (own : List Nat) (p : Pat) (it c e : E) : reread (.lc own p it c e :: es) (x :: vs) st = (reread es vs st).bind fun r => .ok (x :: r) := rfl
@[simp] theorem rr_lc2 (own : List Nat) (p : Pat) (it c : E) (vs1 : List Nat) (p1 : Pat) (it1 c1 e : E) : reread (.lc2 own p it c vs1 p1 it1 c1 e :: es) (x :: vs) st = (reread es vs st).bind fun r => .ok (x :: r) := rfl
@[simp] theorem rr_dc (own : List Nat) (p : Pat) (it c k e : E) : reread (.dc own p it c k e :: es) (x :: vs) st = (reread es vs st).bind fun r => .ok (x :: r) := rfl
@[simp] theorem rr_dc2 (own : List Nat) (p : Pat) (it c : E) (vs1 : List Nat) (p1 : Pat) (it1 c1 k e : E) : reread (.dc2 own p it c vs1 p1 it1 c1 k e :: es) (x :: vs) st = (reread es vs st).bind fun r => .ok (x :: r) := rfl
end
section
variable {env : List Slot} {v : PV} {s : Slot} {n : Nat}
@[simp] theorem slotV_v : slotV (.val v :: env) 0 = .ok v := rfl
@[simp] theorem slotV_o : slotV (.own v :: env) 0 = .ok v := rfl
@[simp] theorem slotV_s : slotV (s :: env) (n + 1) = slotV env n := rfl
@[simp] theorem frz_v : frz (.val v :: env) 0 = .val v :: env := rfl
@[simp] theorem frz_o : frz (.own v :: env) 0 = .val v :: env := rfl
@[simp] theorem frz_s : frz (s :: env) (n + 1) = s :: frz env n := by
  unfold frz
  rw [List.getElem?_cons_succ]
  cases env[n]? with
  | none => rfl
  | some z => cases z <;> rfl
@[simp] theorem bindP_nm (i : Nat) : bindP (.nm i) v env = .ok (env.set i (.val v)) := rfl
@[simp] theorem bindP_tup (ps : List Pat) (xs : List PV) : bindP (.tup ps) (.tup xs) env = bindPs ps xs env := rfl
@[simp] theorem bindPs_nil : bindPs [] [] env = .ok env := rfl
@[simp] theorem bindPs_cons (p : Pat) (ps : List Pat) (x : PV) (xs : List PV) : bindPs (p :: ps) (x :: xs) env = (bindP p x env).bind fun e => bindPs ps xs e := rfl
end
@[simp] theorem i_int (t : Ty) (i : Int) : isiV t (.int i) = .ok (.bl (match t with | .int => true | _ => false)) := rfl
@[simp] theorem i_bl (t : Ty) (i : Bool) : isiV t (.bl i) = .ok (.bl (match t with | .int => true | .bool => true | _ => false)) := rfl
@[simp] theorem i_str (t : Ty) (i : Str) : isiV t (.str i) = .ok (.bl (match t with | .str => true | _ => false)) := rfl
@[simp] theorem i_tup (t : Ty) (i : List PV) : isiV t (.tup i) = .ok (.bl (match t with | .tuple => true | _ => false)) := rfl
@[simp] theorem i_lst (t : Ty) (i : List PV) : isiV t (.lst i) = .ok (.bl (match t with | .list => true | _ => false)) := rfl
@[simp] theorem i_dct (t : Ty) (i : List (PV × PV)) : isiV t (.dct i) = .ok (.bl false) := rfl
@[simp] theorem i_non (t : Ty) : isiV t .non = .ok (.bl false) := rfl

/-! ### comprehensions as maps -/
theorem wE_len (env : List Slot) : ∀ vs : List Nat, (wipeE env vs).length = env.length
  | [] => rfl
  | v :: vs => by unfold wipeE; rw [List.length_set, wE_len env vs]
theorem wE_out {env : List Slot} {i : Nat} : ∀ {vs : List Nat}, i ∉ vs → (wipeE env vs)[i]? = env[i]?
  | [], _ => rfl
  | v :: vs, h => by
    rw [List.mem_cons, not_or] at h
    unfold wipeE
    rw [List.getElem?_set_ne (Ne.symm h.1), wE_out h.2]
theorem bE_len (old new : List Slot) : ∀ vs : List Nat, (backE old new vs).length = new.length
  | [] => rfl
  | v :: vs => by unfold backE; rw [List.length_set, bE_len old new vs]
theorem bE_out {old new : List Slot} {i : Nat} : ∀ {vs : List Nat}, i ∉ vs → (backE old new vs)[i]? = new[i]?
  | [], _ => rfl
  | v :: vs, h => by
    rw [List.mem_cons, not_or] at h
    unfold backE
    rw [List.getElem?_set_ne (Ne.symm h.1), bE_out h.2]
theorem bE_in {old new : List Slot} {i : Nat} (hi : i < new.length) : ∀ {vs : List Nat}, i ∈ vs → (backE old new vs)[i]? = some (match old[i]? with | some (.val p) => .val p | _ => .unk)
  | [], h => absurd h List.not_mem_nil
  | v :: vs, h => by
    unfold backE
    by_cases hv : v = i
    · subst hv
      rw [List.getElem?_set_self (by rw [bE_len]; exact hi)]
      try rfl
    · rw [List.getElem?_set_ne hv]
      exact bE_in hi (by rcases List.mem_cons.mp h with z | z; exact absurd z.symm hv; exact z)
/-- no slot of the block holds a thing of its own -/
def cleanE (env : List Slot) (own : List Nat) : Prop := ∀ i ∈ own, ∀ p, env[i]? ≠ some (.own p)
theorem back_same {old new : List Slot} {own : List Nat} (h : wipeE new own = wipeE old own) (hc : cleanE old own) : backE old new own = old := by
  have hl : new.length = old.length := by rw [← wE_len new own, h, wE_len]
  apply List.ext_getElem?
  intro i
  by_cases hi : i ∈ own
  · by_cases hlt : i < new.length
    · rw [bE_in hlt hi]
      have ho : old[i]? = some old[i] := List.getElem?_eq_getElem (by omega)
      cases e : old[i] with
      | unk => rw [ho, e]
      | val p => rw [ho, e]
      | own p => exact absurd (ho.trans (by rw [e])) (hc i hi p)
    · rw [List.getElem?_eq_none (by rw [bE_len]; omega), List.getElem?_eq_none (by omega)]
  · rw [bE_out hi, ← wE_out (env := new) hi, h, wE_out hi]
theorem lcTurn_congr {Φ : Calls} {own : List Nat} {p : Pat} {c elt : E} {x : PV} {s st : St} (h : wipeE s.env own = wipeE st.env own) (hc : s.cup = st.cup) : lcTurn Φ own p c elt x s = lcTurn Φ own p c elt x st := by
  unfold lcTurn
  rw [h, hc]
/-- a comprehension whose turns change nothing else -/
theorem lc_fm {Φ : Calls} {own : List Nat} {p : Pat} {it c elt : E} {st st1 : St} {v : PV} {xs : List PV} (g : PV → List PV) (hit : ev Φ it st = .ok (v, st1)) (hl : ltOf v = some xs) (hc : cleanE st1.env own) (hlen : (xs.flatMap g).length ≤ LIM)
    (turn : ∀ x ∈ xs, ∃ env', lcTurn Φ own p c elt x st1 = .ok (g x, ⟨env', st1.cup⟩) ∧ wipeE env' own = wipeE st1.env own) : ev Φ (.lc own p it c elt) st = .ok (.lst (xs.flatMap g), st1) := by
  rw [r_lc, hit, rbind_ok, hl, rofOpt_s, rbind_ok]
  obtain ⟨s', e, h1, h2⟩ := lc_inv (turn := lcTurn Φ own p c elt) (xs := xs) (fun s => wipeE s.env own = wipeE st1.env own ∧ s.cup = st1.cup) g (st := st1) ⟨rfl, rfl⟩ fun x hx s ⟨i1, i2⟩ => by
    obtain ⟨env', e, w⟩ := turn x hx
    exact ⟨_, (lcTurn_congr i1 i2).trans e, w, rfl⟩
  rw [e, rbind_ok, fits_of hlen, rof_t]
  show Res.ok (PV.lst _, ({ s' with env := backE st1.env s'.env own } : St)) = _
  rw [back_same h1 hc, h2]
theorem lc_mp {Φ : Calls} {own : List Nat} {p : Pat} {it c elt : E} {st st1 : St} {v : PV} {xs : List PV} (g : PV → PV) (hit : ev Φ it st = .ok (v, st1)) (hl : ltOf v = some xs) (hc : cleanE st1.env own) (hlen : xs.length ≤ LIM)
    (turn : ∀ x ∈ xs, ∃ env', lcTurn Φ own p c elt x st1 = .ok ([g x], ⟨env', st1.cup⟩) ∧ wipeE env' own = wipeE st1.env own) : ev Φ (.lc own p it c elt) st = .ok (.lst (xs.map g), st1) := by
  have e : xs.flatMap (fun x => [g x]) = xs.map g := by
    clear turn hl hlen
    induction xs with
    | nil => rfl
    | cons x xs ih => rw [List.flatMap_cons, List.map_cons, ih]; rfl
  rw [← e]
  exact lc_fm (fun x => [g x]) hit hl hc (by rw [e, List.length_map]; exact hlen) turn
theorem clean_nil (env : List Slot) : cleanE env [] := fun _ h => nomatch h
@[simp] theorem z_l (xs ys : List PV) : itrV .zip [.lst xs, .lst ys] = .ok (List.zipWith (fun a b => .tup [a, b]) xs ys) := rfl
@[simp] theorem z_t (xs ys : List PV) : itrV .zip [.tup xs, .tup ys] = .ok (List.zipWith (fun a b => .tup [a, b]) xs ys) := rfl
@[simp] theorem z_e (xs : List PV) : itrV .enum [.lst xs] = .ok (xs.zipIdx.map fun p => .tup [.int p.2, p.1]) := rfl
theorem z_r1 {n : Int} (h : n < 2 ^ 62) (h0 : 0 ≤ n) : itrV .range1 [.int n] = .ok (rng 0 n) := by
  show Res.of (decide (-(2 ^ 62) ≤ n) && decide (n < 2 ^ 62)) (Res.ok (rng 0 n)) = _
  rw [decide_eq_true h, decide_eq_true (show -(2 ^ 62) ≤ n by omega)]; rfl
/-- all([..]), any([..]) -/
theorem all_lc {Φ : Calls} {own : List Nat} {p : Pat} {it c elt : E} {st st1 : St} {v : PV} {xs : List PV} (g : PV → Bool) (hit : ev Φ it st = .ok (v, st1)) (hl : ltOf v = some xs) (hc : cleanE st1.env own) (hlen : xs.length ≤ 1000000)
    (turn : ∀ x ∈ xs, ∃ env', lcTurn Φ own p c elt x st1 = .ok ([.bl (g x)], ⟨env', st1.cup⟩) ∧ wipeE env' own = wipeE st1.env own) : ev Φ (.op (.bif .all) [.lc own p it c elt]) st = .ok (.bl (xs.all g), st1) := by
  have e := lc_mp (fun x => PV.bl (g x)) hit hl hc (Nat.le_trans hlen (by unfold LIM; omega)) turn
  have e2 : xs.map (fun x => PV.bl (g x)) = (xs.map g).map PV.bl := by rw [List.map_map]; rfl
  rw [r_op, r_evs, e, rbind_ok, r_evs0, rbind_ok, rbind_ok, rr_lc, rr_nil, rbind_ok, rbind_ok, o_bif, e2, b_all, rbind_ok, List.all_map]
  rfl
theorem any_lc {Φ : Calls} {own : List Nat} {p : Pat} {it c elt : E} {st st1 : St} {v : PV} {xs : List PV} (g : PV → Bool) (hit : ev Φ it st = .ok (v, st1)) (hl : ltOf v = some xs) (hc : cleanE st1.env own) (hlen : xs.length ≤ 1000000)
    (turn : ∀ x ∈ xs, ∃ env', lcTurn Φ own p c elt x st1 = .ok ([.bl (g x)], ⟨env', st1.cup⟩) ∧ wipeE env' own = wipeE st1.env own) : ev Φ (.op (.bif .any) [.lc own p it c elt]) st = .ok (.bl (xs.any g), st1) := by
  have e := lc_mp (fun x => PV.bl (g x)) hit hl hc (Nat.le_trans hlen (by unfold LIM; omega)) turn
  have e2 : xs.map (fun x => PV.bl (g x)) = (xs.map g).map PV.bl := by rw [List.map_map]; rfl
  rw [r_op, r_evs, e, rbind_ok, r_evs0, rbind_ok, rbind_ok, rr_lc, rr_nil, rbind_ok, rbind_ok, o_bif, e2, b_any, rbind_ok, List.any_map]
  rfl
end Py
end

section
set_option Elab.async false
set_option linter.all false
set_option autoImplicit false
set_option maxRecDepth 100000
/-! Typed data behind values: keys, pairs, dicts, sorted lists. -/
namespace Py
open PySem (Str CmpOp)

/-- keys of one kind that stand for things of a type -/
structure Kd (κ : Type) [DecidableEq κ] where
  enc : κ → PV
  n : Nat
  eqv : ∀ a b, (enc a).eqv (enc b) = decide (a = b)
  ok : ∀ a, (enc a).keyOk = true
  dep : ∀ a, (enc a).depth ≤ 8
  kind : ∀ a, (enc a).kkind = n
  le2 : n ≤ 2
  fine : ∀ a, (enc a).fine = true
section
variable {κ : Type} [DecidableEq κ] (Q : Kd κ) {α : Type} (f : α → PV)
def encD (l : List (κ × α)) : List (PV × PV) := l.map fun e => (Q.enc e.1, f e.2)
end
section
variable {κ : Type} [DecidableEq κ] {α : Type}
def aget (l : List (κ × α)) (k : κ) : Option α := (l.find? fun e => decide (e.1 = k)).map (·.2)
def ahas (l : List (κ × α)) (k : κ) : Bool := l.any fun e => decide (e.1 = k)
def aset (l : List (κ × α)) (k : κ) (x : α) : List (κ × α) := if ahas l k = true then l.map (fun e => if e.1 = k then (e.1, x) else e) else l ++ [(k, x)]
theorem ahas_iff {l : List (κ × α)} {k : κ} : ahas l k = true ↔ k ∈ l.map (·.1) := by
  unfold ahas
  rw [List.any_eq_true]
  constructor
  · rintro ⟨e, h1, h2⟩
    exact List.mem_map.mpr ⟨e, h1, of_decide_eq_true h2⟩
  · intro h
    obtain ⟨e, h1, h2⟩ := List.mem_map.mp h
    exact ⟨e, h1, decide_eq_true h2⟩
theorem aset_keys (l : List (κ × α)) (k : κ) (x : α) : (aset l k x).map (·.1) = if ahas l k = true then l.map (·.1) else l.map (·.1) ++ [k] := by
  unfold aset
  split
  · rw [List.map_map]
    apply List.map_congr_left
    intro e _
    show (if e.1 = k then (e.1, x) else e).1 = e.1
    split <;> rfl
  · rw [List.map_append]; rfl
theorem aset_nodup {l : List (κ × α)} {k : κ} {x : α} (h : (l.map (·.1)).Nodup) : ((aset l k x).map (·.1)).Nodup := by
  rw [aset_keys]
  split
  · exact h
  · rename_i hk
    rw [ahas_iff] at hk
    rw [List.nodup_append]
    exact ⟨h, by simp, fun a ha b hb e => hk (by rw [List.mem_singleton] at hb; rw [← hb, ← e]; exact ha)⟩
theorem aset_len (l : List (κ × α)) (k : κ) (x : α) : (aset l k x).length ≤ l.length + 1 := by
  unfold aset
  split
  · rw [List.length_map]; omega
  · rw [List.length_append]; simp
theorem aset_all {l : List (κ × α)} {k : κ} {x : α} {P : κ → α → Prop} (h : ∀ e ∈ l, P e.1 e.2) (hx : P k x) : ∀ e ∈ aset l k x, P e.1 e.2 := fun e he => by
  unfold aset at he
  split at he
  · obtain ⟨e', h1, rfl⟩ := List.mem_map.mp he
    split
    · rename_i z; rw [z]; exact hx
    · exact h e' h1
  · rcases List.mem_append.mp he with he | he
    · exact h e he
    · rw [List.mem_singleton] at he; subst he; exact hx
theorem aget_mem {l : List (κ × α)} {k : κ} {x : α} (h : aget l k = some x) : (k, x) ∈ l := by
  obtain ⟨e, h1, h2⟩ := Option.map_eq_some_iff.mp h
  have h3 := List.find?_some h1
  have h4 := List.mem_of_find?_eq_some h1
  have h5 : e.1 = k := of_decide_eq_true h3
  obtain ⟨a, b⟩ := e
  cases h5
  cases h2
  exact h4
theorem aget_of_key {l : List (κ × α)} {k : κ} (h : k ∈ l.map (·.1)) : ∃ x, aget l k = some x := by
  unfold aget
  cases e : l.find? fun e => decide (e.1 = k) with
  | some p => exact ⟨p.2, rfl⟩
  | none =>
    obtain ⟨p, h1, h2⟩ := List.mem_map.mp h
    have := List.find?_eq_none.mp e p h1
    simp [h2] at this
end
section
variable {κ : Type} [DecidableEq κ] (Q : Kd κ) {α : Type} (f : α → PV)
theorem dhas_enc (l : List (κ × α)) (k : κ) : dhas (encD Q f l) (Q.enc k) = ahas l k := by
  unfold dhas encD ahas
  rw [List.any_map]
  congr 1
  funext e
  exact Q.eqv e.1 k
theorem dget_enc (l : List (κ × α)) (k : κ) : dget (encD Q f l) (Q.enc k) = (aget l k).map f := by
  unfold dget encD aget
  rw [List.find?_map, Option.map_map, Option.map_map]
  have : ((fun p => PV.eqv p.1 (Q.enc k)) ∘ fun e : κ × α => (Q.enc e.1, f e.2)) = fun e => decide (e.1 = k) := by
    funext e; exact Q.eqv e.1 k
  rw [this]
  rfl
theorem dset_enc (l : List (κ × α)) (k : κ) (x : α) : dset (encD Q f l) (Q.enc k) (f x) = encD Q f (aset l k x) := by
  unfold dset aset
  rw [dhas_enc]
  split
  · unfold encD
    rw [List.map_map, List.map_map]
    apply List.map_congr_left
    intro e _
    show (if PV.eqv (Q.enc e.1) (Q.enc k) = true then (Q.enc e.1, f x) else (Q.enc e.1, f e.2)) = (Q.enc (if e.1 = k then (e.1, x) else e).1, f (if e.1 = k then (e.1, x) else e).2)
    rw [Q.eqv]
    by_cases h : e.1 = k <;> simp [h]
  · unfold encD
    rw [List.map_append]; rfl
theorem kOk_enc (l : List (κ × α)) (k : κ) : kOk (encD Q f l) (Q.enc k) = true := by
  unfold kOk
  rw [Q.ok, Q.kind, decide_eq_true (Q.dep k), decide_eq_true Q.le2]
  cases l with
  | nil => rfl
  | cons e l =>
    show (true && true && true && (PV.kkind (Q.enc e.1) == Q.n)) = true
    rw [Q.kind]; simp
theorem encD_len (l : List (κ × α)) : (encD Q f l).length = l.length := by unfold encD; rw [List.length_map]
theorem encD_keys (l : List (κ × α)) : (encD Q f l).map (·.1) = (l.map (·.1)).map Q.enc := by
  unfold encD
  rw [List.map_map, List.map_map]; rfl
/-- dict(pairs) -/
def aof (acc ps : List (κ × α)) : List (κ × α) := ps.foldl (fun a p => aset a p.1 p.2) acc
theorem dictOf_enc : ∀ (ps acc : List (κ × α)), dictOf (encD Q f acc) (encD Q f ps) = .ok (encD Q f (aof acc ps))
  | [], acc => rfl
  | p :: ps, acc => by
    show Res.of (kOk (encD Q f acc) (Q.enc p.1)) (dictOf (dset (encD Q f acc) (Q.enc p.1) (f p.2)) (encD Q f ps)) = _
    rw [kOk_enc, rof_t, dset_enc, dictOf_enc ps]
    rfl
theorem aof_nodup : ∀ {ps acc : List (κ × α)}, (acc.map (·.1)).Nodup → ((aof acc ps).map (·.1)).Nodup
  | [], acc, h => h
  | p :: ps, acc, h => aof_nodup (ps := ps) (aset_nodup h)
theorem aof_mem : ∀ {ps acc : List (κ × α)} {k : κ}, k ∈ (aof acc ps).map (·.1) ↔ k ∈ acc.map (·.1) ∨ k ∈ ps.map (·.1)
  | [], acc, k => by simp [aof]
  | p :: ps, acc, k => by
    show k ∈ (aof (aset acc p.1 p.2) ps).map (·.1) ↔ _
    rw [aof_mem, aset_keys, List.map_cons, List.mem_cons]
    split
    · rename_i h
      rw [ahas_iff] at h
      constructor
      · rintro (h1 | h1)
        · exact .inl h1
        · exact .inr (.inr h1)
      · rintro (h1 | rfl | h1)
        · exact .inl h1
        · exact .inl h
        · exact .inr h1
    · rw [List.mem_append, List.mem_singleton, or_assoc]
/-- keys that are new are put at the end -/
theorem aof_fresh : ∀ {ps acc : List (κ × α)}, ((acc ++ ps).map (·.1)).Nodup → aof acc ps = acc ++ ps
  | [], acc, _ => by rw [List.append_nil]; rfl
  | p :: ps, acc, h => by
    have hp : ahas acc p.1 = false := by
      cases e : ahas acc p.1 with
      | false => rfl
      | true =>
        rw [ahas_iff] at e
        rw [List.map_append, List.nodup_append] at h
        exact absurd rfl (h.2.2 p.1 e p.1 (by simp))
    have e : aset acc p.1 p.2 = acc ++ [p] := by unfold aset; rw [hp]; rfl
    show aof (aset acc p.1 p.2) ps = _
    rw [e, aof_fresh (by rw [List.append_assoc]; exact h), List.append_assoc]
    rfl
end
end Py
end

section
set_option Elab.async false
set_option linter.all false
set_option autoImplicit false
set_option maxRecDepth 100000
/-! Pairs of numbers: order, sorting. -/
namespace Py
open PySem (Str CmpOp)

def pr (p : Int × Int) : PV := .tup [.int p.1, .int p.2]
theorem pr_eqv (a b : Int × Int) : (pr a).eqv (pr b) = decide (a = b) := by
  obtain ⟨a1, a2⟩ := a
  obtain ⟨b1, b2⟩ := b
  simp [pr, PV.eqv, PV.eqvs]
def prK : Kd (Int × Int) := ⟨pr, 0, pr_eqv, fun a => by simp [pr, PV.keyOk, PV.keyOks], fun a => by simp [pr, PV.depth, PV.depths], fun a => rfl, Nat.zero_le _, fun a => by simp [pr, PV.fine, PV.plain, PV.plains, PV.depth, PV.depths]⟩
def ltP (a b : Int × Int) : Bool := decide (a.1 < b.1) || (decide (a.1 = b.1) && decide (a.2 < b.2))
def leP (a b : Int × Int) : Bool := !ltP b a
theorem ltP_iff {a b : Int × Int} : ltP a b = true ↔ a.1 < b.1 ∨ (a.1 = b.1 ∧ a.2 < b.2) := by simp [ltP]
theorem leP_iff {a b : Int × Int} : leP a b = true ↔ a.1 < b.1 ∨ (a.1 = b.1 ∧ a.2 ≤ b.2) := by
  unfold leP
  rw [Bool.not_eq_true', ← Bool.not_eq_true, ltP_iff]
  omega
theorem pr_lt (a b : Int × Int) : (pr a).lt (pr b) = ltP a b := by
  obtain ⟨a1, a2⟩ := a
  obtain ⟨b1, b2⟩ := b
  by_cases h : a1 = b1
  · subst h
    by_cases h2 : a2 = b2
    · subst h2
      simp [pr, PV.lt, PV.lts, PV.eqv, ltP]
    · simp [pr, PV.lt, PV.lts, PV.eqv, ltP, h2]
  · simp [pr, PV.lt, PV.lts, PV.eqv, ltP, h]
theorem pr_alike (a b : Int × Int) : (pr a).alike (pr b) = true := by simp [pr, PV.alike, PV.alikes]
theorem leP_trans {a b c : Int × Int} (h : leP a b = true) (g : leP b c = true) : leP a c = true := by
  rw [leP_iff] at h g ⊢; omega
theorem leP_total (a b : Int × Int) : (leP a b || leP b a) = true := by
  rw [Bool.or_eq_true, leP_iff, leP_iff]; omega
theorem leP_anti {a b : Int × Int} (h : leP a b = true) (g : leP b a = true) : a = b := by
  rw [leP_iff] at h g
  exact Prod.ext (by omega) (by omega)
theorem ltP_trans {a b c : Int × Int} (h : ltP a b = true) (g : ltP b c = true) : ltP a c = true := by
  rw [ltP_iff] at h g ⊢; omega
theorem ltP_le {a b : Int × Int} (h : ltP a b = true) : leP a b = true := by
  rw [ltP_iff] at h; rw [leP_iff]; omega
theorem ltP_irr (a : Int × Int) : ltP a a = false := by simp [ltP]
theorem ltP_of {a b : Int × Int} (h : leP a b = true) (n : a ≠ b) : ltP a b = true := by
  rw [leP_iff] at h; rw [ltP_iff]
  have : ¬ (a.1 = b.1 ∧ a.2 = b.2) := fun ⟨h1, h2⟩ => n (Prod.ext h1 h2)
  omega
def srtP (l : List (Int × Int)) : List (Int × Int) := l.mergeSort leP
theorem srtP_perm (l : List (Int × Int)) : (srtP l).Perm l := List.mergeSort_perm l leP
theorem srtP_sorted (l : List (Int × Int)) : (srtP l).Pairwise fun a b => leP a b = true := List.pairwise_mergeSort (le := leP) (fun _ _ _ h g => leP_trans h g) leP_total l
theorem srtP_strict {l : List (Int × Int)} (h : l.Nodup) : (srtP l).Pairwise fun a b => ltP a b = true := by
  have h1 := srtP_sorted l
  have h2 : (srtP l).Pairwise (· ≠ ·) := (srtP_perm l).nodup_iff.mpr h
  exact (h1.and h2).imp fun ⟨x, y⟩ => ltP_of x y
theorem srtP_of {l : List (Int × Int)} (h : l.Pairwise fun a b => leP a b = true) : srtP l = l := List.mergeSort_of_pairwise h
theorem sort_pr (l : List (Int × Int)) : sortV (l.map pr) = (srtP l).map pr := by
  unfold sortV srtP
  refine (List.map_mergeSort fun a _ b _ => ?_).symm
  show leP a b = !(PV.lt (pr b) (pr a))
  rw [pr_lt]; rfl
theorem fine_pr (a : Int × Int) : (pr a).fine = true := prK.fine a
theorem allAlike_pr (l : List (Int × Int)) : allAlike (l.map pr) = true := by
  unfold allAlike
  rw [List.all_eq_true]
  intro x hx
  obtain ⟨a, _, rfl⟩ := List.mem_map.mp hx
  rw [fine_pr, Bool.true_and, List.all_eq_true]
  intro y hy
  obtain ⟨b, _, rfl⟩ := List.mem_map.mp hy
  exact pr_alike a b
theorem sortable_pr (l : List (Int × Int)) : sortable (l.map pr) = true := by
  unfold sortable
  rw [allAlike_pr, Bool.true_and, Bool.or_eq_true]
  refine .inl ?_
  rw [List.all_eq_true]
  intro x hx
  obtain ⟨a, _, rfl⟩ := List.mem_map.mp hx
  rfl
theorem b_sorted_l (l : List (Int × Int)) : bifV .sorted [.lst (l.map pr)] = .ok (.lst ((srtP l).map pr)) := by
  show ((Res.ofOpt (seqOf (.lst (l.map pr)))).bind fun xs => Res.of (sortable xs) (Res.ok (PV.lst (sortV xs)))) = _
  show Res.of (sortable (l.map pr)) (Res.ok (PV.lst (sortV (l.map pr)))) = _
  rw [sortable_pr, rof_t, sort_pr]
theorem b_sorted_d {α : Type} (f : α → PV) (l : List ((Int × Int) × α)) : bifV .sorted [.dct (encD prK f l)] = .ok (.lst ((srtP (l.map (·.1))).map pr)) := by
  show Res.of (sortable ((encD prK f l).map (·.1))) (Res.ok (PV.lst (sortV ((encD prK f l).map (·.1))))) = _
  rw [encD_keys]
  show Res.of (sortable ((l.map (·.1)).map pr)) (Res.ok (PV.lst (sortV ((l.map (·.1)).map pr)))) = _
  rw [sortable_pr, rof_t, sort_pr]
theorem b_dict_l {κ : Type} [DecidableEq κ] (Q : Kd κ) {α : Type} (f : α → PV) (ps : List (κ × α)) : bifV .dict [.lst (ps.map fun e => .tup [Q.enc e.1, f e.2])] = .ok (.dct (encD Q f (aof [] ps))) := by
  show ((Res.ofOpt ((ps.map fun e => PV.tup [Q.enc e.1, f e.2]).mapM pairOf)).bind fun ps => (dictOf [] ps).bind fun d => Res.ok (PV.dct d)) = _
  have e : (ps.map fun e => PV.tup [Q.enc e.1, f e.2]).mapM pairOf = some (encD Q f ps) := by
    induction ps with
    | nil => rfl
    | cons p ps ih => rw [List.map_cons, List.mapM_cons, ih]; rfl
  rw [e, rofOpt_s, rbind_ok]
  have := dictOf_enc Q f ps []
  rw [show encD Q f ([] : List (κ × α)) = [] from rfl] at this
  rw [this, rbind_ok]
/-! lists of them -/
theorem eqvs_pr : ∀ l m : List (Int × Int), PV.eqvs (l.map pr) (m.map pr) = decide (l = m)
  | [], [] => by simp [PV.eqvs]
  | [], b :: m => by simp [PV.eqvs]
  | a :: l, [] => by simp [PV.eqvs]
  | a :: l, b :: m => by
    rw [List.map_cons, List.map_cons, PV.eqvs, pr_eqv, eqvs_pr l m]
    by_cases h : a = b <;> simp [h]
theorem plains_pr : ∀ l : List (Int × Int), PV.plains (l.map pr) = true ∧ PV.depths (l.map pr) ≤ 1
  | [] => by simp [PV.plains, PV.depths]
  | a :: l => by
    obtain ⟨h1, h2⟩ := plains_pr l
    rw [List.map_cons, PV.plains, PV.depths, h1]
    refine ⟨by simp [pr, PV.plain, PV.plains], ?_⟩
    have : (pr a).depth = 1 := by simp [pr, PV.depth, PV.depths]
    omega
theorem fine_prs (l : List (Int × Int)) : (PV.lst (l.map pr)).fine = true := by
  unfold PV.fine
  rw [PV.plain, PV.depth, (plains_pr l).1]
  have := (plains_pr l).2
  simp; omega
theorem c_eq_prs (l m : List (Int × Int)) : cmpV .Eq (.lst (l.map pr)) (.lst (m.map pr)) = .ok (.bl (decide (l = m))) := by
  show (Res.of ((PV.lst (l.map pr)).fine && (PV.lst (m.map pr)).fine) (Res.ok (PV.eqv (.lst (l.map pr)) (.lst (m.map pr))))).bind _ = _
  rw [fine_prs, fine_prs, Bool.and_self, rof_t, PV.eqv, eqvs_pr]
  rfl
theorem c_lt_pr (a b : Int × Int) : cmpV .Lt (pr a) (pr b) = .ok (.bl (ltP a b)) := by
  show (Res.of (ordOk (pr a) (pr b)) (Res.ok ((pr a).lt (pr b)))).bind _ = _
  have : ordOk (pr a) (pr b) = true := by
    unfold ordOk
    rw [fine_pr, fine_pr, pr_alike]; rfl
  rw [this, rof_t, pr_lt]
  rfl
/-- rising, place by place -/
def riseB : List (Int × Int) → Bool
  | [] => true
  | [_] => true
  | a :: b :: r => ltP a b && riseB (b :: r)
theorem riseB_iff : ∀ {l : List (Int × Int)}, riseB l = true ↔ l.Pairwise fun a b => ltP a b = true
  | [] => by simp [riseB]
  | [a] => by simp [riseB]
  | a :: b :: r => by
    rw [riseB, Bool.and_eq_true, riseB_iff (l := b :: r)]
    constructor
    · rintro ⟨h1, h2⟩
      refine List.pairwise_cons.mpr ⟨fun c hc => ?_, h2⟩
      rcases List.mem_cons.mp hc with rfl | hc
      · exact h1
      · exact ltP_trans h1 ((List.pairwise_cons.mp h2).1 c hc)
    · intro h
      have h' := List.pairwise_cons.mp h
      exact ⟨h'.1 b List.mem_cons_self, h'.2⟩
theorem rise_nodup {l : List (Int × Int)} (h : l.Pairwise fun a b => ltP a b = true) : l.Nodup := h.imp fun {a b} x e => by
  subst e; rw [ltP_irr] at x; cases x
/-- l is its own things in order, each once -/
theorem rise_sorted {α : Type} (x : α) (l : List (Int × Int)) : decide (l = srtP ((aof [] (l.map fun p => (p, x))).map (·.1))) = riseB l := by
  have key : l = srtP ((aof [] (l.map fun p => (p, x))).map (·.1)) ↔ riseB l = true := by
    rw [riseB_iff]
    constructor
    · intro h
      rw [h]
      exact srtP_strict (aof_nodup (by simp))
    · intro h
      have hn := rise_nodup h
      have e : (l.map fun p => (p, x)).map (·.1) = l := by rw [List.map_map]; simp [Function.comp_def]
      have e2 : aof [] (l.map fun p => (p, x)) = l.map fun p => (p, x) := aof_fresh (acc := []) (by rw [List.nil_append, e]; exact hn)
      rw [e2, e, srtP_of (h.imp ltP_le)]
  cases hb : riseB l with
  | true => exact decide_eq_true (key.mpr hb)
  | false => exact decide_eq_false fun z => by rw [key.mp z] at hb; cases hb
/-- all([one < other for one, other in zip(l, l[1:])]) -/
theorem zip_rise : ∀ l : List (Int × Int), ((List.zip l (l.drop 1)).all fun p => ltP p.1 p.2) = riseB l
  | [] => rfl
  | [a] => rfl
  | a :: b :: r => by
    rw [riseB, ← zip_rise (b :: r)]; rfl
end Py
end

section
set_option Elab.async false
set_option linter.all false
set_option autoImplicit false
set_option maxRecDepth 100000
/-! The laws' random state. -/
namespace Py
open PySem (Str CmpOp)

/-- the random state, as it stands between draws -/
def CupI (a b : Int) : Prop := 0 ≤ a ∧ 0 ≤ b ∧ b < 2147483648
def CupO (c : Option (Int × Int)) : Prop := ∃ a b, c = some (a, b) ∧ CupI a b
def cupBody (c1 c2 c3 c4 c5 : Int) : List S := [(.asg (.nm 1) (.op (.bif .abs) [(.op .idx [(.op .add [(.op (.bif .list) [(.bor 0)]), (.op .lst [(.lit (.int 0))])]), (.lit (.int 0))])])),
  (.ret (.newcup (.ite (.op (.cmp .GtE) [(.bor 1), (.op .pow [(.lit (.int 10)), (.lit (.int 18))])]) (.op .fdiv [(.bor 1), (.lit (.int c1))]) (.lit (.int 0))) (.op .add [(.op .mod [(.op (.bif .int) [(.op .add [(.op .mul [(.bor 1), (.lit (.int c2))]), (.lit (.int c3))])]), (.lit (.int c4))]), (.lit (.int c5))])))]
def rollBody (c1 c2 c3 c4 c5 c6 : Int) : List S := [(.ite (.op (.cmp .Gt) [(.op .idx [(.bor 0), (.lit (.int 0))]), (.lit (.int 0))]) [(.asg (.nm 3) (.op .mod [(.op (.bif .int) [(.op .idx [(.bor 0), (.lit (.int 0))])]), (.bor 1)])),
  (.setx 0 (.lit (.int 0)) (.op .fdiv [(.op .idx [(.bor 0), (.lit (.int 0))]), (.bor 1)])),
  (.ret (.var 3))] []),
  (.setx 0 (.lit (.int 1)) (.op .mod [(.op (.bif .int) [(.op .add [(.op .mul [(.op .idx [(.bor 0), (.lit (.int 1))]), (.lit (.int c1))]), (.lit (.int c2))])]), (.lit (.int c3))])),
  (.asg (.nm 2) (.op .mod [(.op (.bif .int) [(.op .mul [(.op .idx [(.bor 0), (.lit (.int 1))]), (.op .add [(.op .idx [(.bor 0), (.lit (.int 1))]), (.lit (.int c4))])])]), (.lit (.int c5))])),
  (.ret (.op .mod [(.op (.bif .int) [(.op .fdiv [(.bor 2), (.lit (.int c6))])]), (.bor 1)]))]
def small (i : Int) : Bool := decide (0 < i) && decide (i < 1073741824)
theorem small_ok {i : Int} (h : small i = true) : 0 < i ∧ i < 1073741824 := by
  unfold small at h
  rw [Bool.and_eq_true] at h
  exact ⟨of_decide_eq_true h.1, of_decide_eq_true h.2⟩
theorem small64_of {i : Int} (h1 : -(2 ^ 64) < i) (h2 : i < 2 ^ 64) : small64 i = true := by unfold small64; rw [decide_eq_true h1, decide_eq_true h2]; rfl
section
variable {Φ : Calls} {st : St}
@[simp] theorem r_newcup (a b : E) : ev Φ (.newcup a b) st = (ev Φ a st).bind fun r => (ev Φ b r.2).bind fun q => match r.1, q.1, q.2.cup with
    | .int x, .int y, none => .ok (.cup, { q.2 with cup := some (x, y) })
    | _, _, _ => .no := by rw [ev]; try rfl
theorem r_setcup0 (k e : E) {env : List Slot} {a b x : Int} (hv : slotV st.env 0 = .ok .cup) (he : ev Φ e st = .ok (.int x, st)) (hk : ev Φ k st = .ok (.int 0, st)) (h0 : st.env[0]? = some (.val .cup)) (hc : st.cup = some (a, b)) :
    ex Φ (.setx 0 k e) st = .ok (.nx, { st with cup := some (x, b) }) := by
  rw [ex, he, rbind_ok]
  show (slotV st.env 0).bind _ = _
  rw [hv, rbind_ok]
  show (ev Φ k st).bind _ = _
  rw [hk, rbind_ok]
  simp only [h0, hc]
  rfl
theorem r_setcup1 (k e : E) {env : List Slot} {a b x : Int} (hv : slotV st.env 0 = .ok .cup) (he : ev Φ e st = .ok (.int x, st)) (hk : ev Φ k st = .ok (.int 1, st)) (h0 : st.env[0]? = some (.val .cup)) (hc : st.cup = some (a, b)) :
    ex Φ (.setx 0 k e) st = .ok (.nx, { st with cup := some (a, x) }) := by
  rw [ex, he, rbind_ok]
  show (slotV st.env 0).bind _ = _
  rw [hv, rbind_ok]
  show (ev Φ k st).bind _ = _
  rw [hk, rbind_ok]
  simp only [h0, hc]
  rfl
end
theorem o_pow18 (cu : Option (Int × Int)) : opV cu .pow [.int 10, .int 18] = .ok (.int 1000000000000000000) := by
  rw [o_pow, show small64 10 = true from by decide, show ((10 : Int) ^ ((18 : Int).toNat)) = 1000000000000000000 from by decide]
  rfl
theorem cup_run {F : List Fn} {k d : Nat} {f : Fn} {c1 c2 c3 c4 c5 : Int} (hk : F[k]? = some f) (hn : f.nargs = 1) (hs : f.nslots = 2) (hb : f.body = cupBody c1 c2 c3 c4 c5) (h1 : small c1 = true) (h2 : small c2 = true) (h3 : 0 ≤ c3) (h4 : 0 < c4) (h5 : 0 ≤ c5) (h6 : c4 + c5 < 2147483648) (ns : List Int) (hl : ns.length ≤ 1000) :
    ∃ c, CupO c ∧ callN F (d + 1) k [.scr (ns.map PV.int)] none = .ok (.cup, c) := by
  obtain ⟨h1, h1'⟩ := small_ok h1
  obtain ⟨h2, h2'⟩ := small_ok h2
  obtain ⟨n, e⟩ : ∃ n : Int, (atI (ns.map PV.int ++ [.int 0]) 0) = some (.int n) := by
    have hp : (0 : Int) < ((ns.map PV.int ++ [PV.int 0]).length : Int) := by
      rw [List.length_append, List.length_singleton]; omega
    unfold atI ixN
    rw [if_pos (Int.le_refl 0), if_pos hp]
    cases ns with
    | nil => exact ⟨0, rfl⟩
    | cons n ns => exact ⟨n, rfl⟩
  have hlen : fits (ns.length + 1) = true := fits_k (by omega)
  obtain ⟨z, hz0, hz⟩ : ∃ z : Int, 0 ≤ z ∧ bifV .abs [.int n] = .ok (.int z) := ⟨n.natAbs, by omega, rfl⟩
  refine ⟨some (if (1000000000000000000 : Int) ≤ z then z / c1 else 0, (z * c2 + c3) % c4 + c5), ⟨_, _, rfl, ?_, ?_, ?_⟩, ?_⟩
  · split
    · exact Int.ediv_nonneg hz0 (by omega)
    · exact Int.le_refl _
  · have := Int.emod_nonneg (z * c2 + c3) (show c4 ≠ 0 by omega)
    omega
  · have := Int.emod_lt_of_pos (z * c2 + c3) h4
    omega
  · rw [callN_succ hk, runFn_eq (by rw [hn]; rfl), hb]
    have s2 : small64 c2 = true := small64_of (by omega) (by omega)
    by_cases hge : (1000000000000000000 : Int) ≤ z
    · rw [if_pos hge]
      simp [-o_pow, -b_abs, hz, o_pow18, cupBody, startE, hs, hlen, e, s2, h1, h1', h4, hge]
    · rw [if_neg hge]
      simp [-o_pow, -b_abs, hz, o_pow18, cupBody, startE, hs, hlen, e, s2, h1, h1', h4, hge]
theorem roll_run {F : List Fn} {k d : Nat} {f : Fn} {c1 c2 c3 c4 c5 c6 : Int} (hk : F[k]? = some f) (hn : f.nargs = 2) (hs : f.nslots = 4) (hb : f.body = rollBody c1 c2 c3 c4 c5 c6) (h1 : small c1 = true) (h2 : 0 ≤ c2) (h3 : 0 < c3) (h3' : c3 < 2147483648) (h4 : 0 ≤ c4) (h5 : 0 < c5) (h6 : small c6 = true) {many : Int} (hm : small many = true) {c : Option (Int × Int)} (hc : CupO c) :
    ∃ r c', CupO c' ∧ 0 ≤ r ∧ r < many ∧ callN F (d + 1) k [.cup, .int many] c = .ok (.int r, c') := by
  obtain ⟨a, b, rfl, ha, hb1, hb2⟩ := hc
  obtain ⟨m1, m2⟩ := small_ok hm
  obtain ⟨h1, h1'⟩ := small_ok h1
  obtain ⟨h6, h6'⟩ := small_ok h6
  rw [callN_succ hk, runFn_eq (by rw [hn]; rfl), hb]
  by_cases h0 : 0 < a
  · refine ⟨a % many, some (a / many, b), ⟨_, _, rfl, Int.ediv_nonneg ha (by omega), hb1, hb2⟩, Int.emod_nonneg _ (by omega), Int.emod_lt_of_pos _ m1, ?_⟩
    have e := fun (Φ : Calls) => r_setcup0 (Φ := Φ) (st := ⟨[.val .cup, .val (.int many), .unk, .val (.int (a % many))], some (a, b)⟩) (.lit (.int 0)) (.op .fdiv [(.op .idx [(.bor 0), (.lit (.int 0))]), (.bor 1)]) (env := []) (a := a) (b := b) (x := a / many) (by simp) (by simp [m1, m2]) (by simp) rfl rfl
    simp [rollBody, startE, hs, h0, m1, e]
  · have s1 : small64 c1 = true := small64_of (by omega) (by omega)
    have n1 := Int.emod_nonneg (b * c1 + c2) (show c3 ≠ 0 by omega)
    have n2 := Int.emod_lt_of_pos (b * c1 + c2) h3
    have s2 : small64 ((b * c1 + c2) % c3) = true := small64_of (by omega) (by omega)
    refine ⟨((((b * c1 + c2) % c3) * ((b * c1 + c2) % c3 + c4)) % c5 / c6) % many, some (a, (b * c1 + c2) % c3), ⟨_, _, rfl, ha, n1, by omega⟩, Int.emod_nonneg _ (by omega), Int.emod_lt_of_pos _ m1, ?_⟩
    have e := fun (Φ : Calls) => r_setcup1 (Φ := Φ) (st := ⟨[.val .cup, .val (.int many), .unk, .unk], some (a, b)⟩) (.lit (.int 1)) (.op .mod [(.op (.bif .int) [(.op .add [(.op .mul [(.op .idx [(.bor 0), (.lit (.int 1))]), (.lit (.int c1))]), (.lit (.int c2))])]), (.lit (.int c3))]) (env := []) (a := a) (b := b) (x := (b * c1 + c2) % c3) (by simp) (by simp [s1, h3]) (by simp) rfl rfl
    simp [rollBody, startE, hs, h0, e, s2, h5, h6, h6', m1]
/-- things[_law_roll(cup, len(things))] -/
def someBody (kr : Nat) : List S := [(.ret (.op .idx [(.bor 1), (.call kr [(.var 0), (.op (.bif .len) [(.bor 1)])])]))]
theorem at_of {xs : List PV} {r : Int} (h0 : 0 ≤ r) (h1 : r < xs.length) : ∃ x ∈ xs, atI xs r = some x := by
  have hr : r.toNat < xs.length := by omega
  refine ⟨xs[r.toNat], List.getElem_mem hr, ?_⟩
  unfold atI ixN
  rw [if_pos h0, if_pos h1]
  show xs[r.toNat]? = _
  exact List.getElem?_eq_getElem hr
/-- what a draw does, whatever the law's own constants are -/
def RollOk (F : List Fn) (kr : Nat) : Prop := ∀ (d : Nat) (many : Int) (c : Option (Int × Int)), small many = true → CupO c → ∃ r c', CupO c' ∧ 0 ≤ r ∧ r < many ∧ callN F (d + 1) kr [.cup, .int many] c = .ok (.int r, c')
theorem some_run {F : List Fn} {k kr d : Nat} {f : Fn} (hk : F[k]? = some f) (hn : f.nargs = 2) (hs : f.nslots = 2) (hb : f.body = someBody kr) (R : RollOk F kr) {xs : List PV} (h0 : xs ≠ []) (hl : xs.length ≤ 1000000) {c : Option (Int × Int)} (hc : CupO c) :
    ∃ x c', x ∈ xs ∧ CupO c' ∧ callN F (d + 2) k [.cup, .lst xs] c = .ok (x, c') := by
  have hp : 0 < xs.length := List.length_pos_iff.mpr h0
  obtain ⟨r, c', hc', r0, r1, e⟩ := R d (xs.length : Int) c (by unfold small; rw [Bool.and_eq_true]; exact ⟨decide_eq_true (by omega), decide_eq_true (by omega)⟩) hc
  obtain ⟨x, hx, ex⟩ := at_of r0 r1
  refine ⟨x, c', hx, hc', ?_⟩
  rw [callN_succ hk, runFn_eq (by rw [hn]; rfl), hb]
  simp [someBody, startE, hs, e, ex]
end Py
end

section
set_option Elab.async false
set_option linter.all false
set_option autoImplicit false
set_option maxRecDepth 100000
/-! The laws' drawn figures. -/
namespace Py
open PySem (Str CmpOp)

theorem for_ix {turn : PV → St → Res (Flow × St)} : ∀ {xs : List PV} (n : Nat) (I : Nat → St → Prop) {st : St}, I n st → (∀ i x s, xs[i]? = some x → I (n + i) s → ∃ s', turn x s = .ok (.nx, s') ∧ I (n + i + 1) s') → ∃ s', forL turn xs st = .ok (.nx, s') ∧ I (n + xs.length) s'
  | [], n, I, st, h0, _ => ⟨st, rfl, h0⟩
  | x :: xs, n, I, st, h0, h => by
    obtain ⟨s1, e1, i1⟩ := h 0 x st rfl h0
    obtain ⟨s2, e2, i2⟩ := for_ix (xs := xs) (n + 1) I i1 fun i y s hy hi => by
      have := h (i + 1) y s (by simpa using hy) (by rw [show n + (i + 1) = n + 1 + i by omega]; exact hi)
      rw [show n + (i + 1) + 1 = n + 1 + i + 1 by omega] at this
      exact this
    refine ⟨s2, ?_, by rw [List.length_cons, show n + (xs.length + 1) = n + 1 + xs.length by omega]; exact i2⟩
    show (turn x st).bind _ = _
    rw [e1]
    exact e2
section
variable {Φ : Calls} {st st1 st2 : St}
theorem r_setD {i : Nat} {k e : E} {x y z : PV} {kvs : List (PV × PV)} (he : ev Φ e st = .ok (x, st1)) (hv : slotV st1.env i = .ok z) (hk : ev Φ k st1 = .ok (y, st2)) (hi : st2.env[i]? = some (.own (.dct kvs))) (ho : kOk kvs y = true) (hl : fitsL kvs.length = true) :
    ex Φ (.setx i k e) st = .ok (.nx, { st2 with env := st2.env.set i (.own (.dct (dset kvs y x))) }) := by
  rw [ex, he, rbind_ok]
  show (slotV st1.env i).bind _ = _
  rw [hv, rbind_ok]
  show (ev Φ k st1).bind _ = _
  rw [hk, rbind_ok]
  simp only [hi, ho, hl]
  rfl
end
/-- squares (x, y, kind) -/
def sq (t : Int × Int × Int) : PV := .tup [.int t.1, .int t.2.1, .int t.2.2]
def plc (ts : List (Int × Int × Int)) : List (Int × Int) := ts.map fun t => (t.1, t.2.1)
/-- a drawn figure: its squares in order, each place once, in the range, of the kinds 1 to 5 -/
structure FigR (size : Int) (many : Nat) (ts : List (Int × Int × Int)) : Prop where
  rise : riseB (plc ts) = true
  rng : ∀ t ∈ ts, (0 ≤ t.1 ∧ t.1 < size) ∧ (0 ≤ t.2.1 ∧ t.2.1 < size) ∧ (1 ≤ t.2.2 ∧ t.2.2 ≤ 5)
  len : ts.length ≤ many
def figBody (kr : Nat) : List S := [(.asgo 3 (.op .dct [])),
  (.for (.nm 4) (.itr .range1 [(.call kr [(.var 0), (.op .add [(.bor 1), (.lit (.int 1))])])]) [(.setx 3 (.op .tup [(.call kr [(.var 0), (.var 2)]), (.call kr [(.var 0), (.var 2)])]) (.op .add [(.lit (.int 1)), (.call kr [(.var 0), (.lit (.int 5))])]))]),
  (.ret (.op (.bif .tuple) [(.lc [5] (.nm 5) (.op (.bif .sorted) [(.bor 3)]) (.lit (.bl true)) (.op .add [(.bor 5), (.op .tup [(.op .idx [(.bor 3), (.bor 5)])])]))]))]
/-- what is known of the drawn dict -/
structure DrD (size : Int) (n : Nat) (l : List ((Int × Int) × Int)) : Prop where
  nd : (l.map (·.1)).Nodup
  all : ∀ e ∈ l, ((0 ≤ e.1.1 ∧ e.1.1 < size) ∧ (0 ≤ e.1.2 ∧ e.1.2 < size)) ∧ (1 ≤ e.2 ∧ e.2 ≤ 5)
  len : l.length ≤ n
theorem rng_length (a b : Int) : (rng a b).length = (b - a).toNat := by unfold rng; rw [List.length_map, List.length_range]
/-- the squares of a dict of places -/
def sqs (l : List ((Int × Int) × Int)) : List (Int × Int × Int) := (srtP (l.map (·.1))).map fun p => (p.1, p.2, (aget l p).getD 0)
theorem sqs_plc (l : List ((Int × Int) × Int)) : plc (sqs l) = srtP (l.map (·.1)) := by
  unfold plc sqs
  rw [List.map_map]
  simp [Function.comp_def]
theorem sqs_ok {size : Int} {n : Nat} {l : List ((Int × Int) × Int)} (h : DrD size n l) : FigR size n (sqs l) := by
  refine ⟨?_, fun t ht => ?_, ?_⟩
  · rw [sqs_plc, riseB_iff]; exact srtP_strict h.nd
  · obtain ⟨p, hp, rfl⟩ := List.mem_map.mp ht
    have hp' := (srtP_perm _).mem_iff.mp hp
    obtain ⟨x, hx⟩ := aget_of_key hp'
    have := h.all _ (aget_mem hx)
    rw [hx]
    exact ⟨this.1.1, this.1.2, this.2⟩
  · unfold sqs
    rw [List.length_map, (srtP_perm _).length_eq, List.length_map]; exact h.len
theorem fig_run {F : List Fn} {k kr d : Nat} {f : Fn} (hk : F[k]? = some f) (hn : f.nargs = 3) (hs : f.nslots = 6) (hb : f.body = figBody kr) (R : RollOk F kr) {many : Nat} {size : Int} (hm : many ≤ 1000) (hz : small size = true) {c : Option (Int × Int)} (hc : CupO c) :
    ∃ ts c', FigR size many ts ∧ CupO c' ∧ callN F (d + 2) k [.cup, .int many, .int size] c = .ok (.tup (ts.map sq), c') := by
  obtain ⟨r, c1, hc1, r0, r1, e1⟩ := R d ((many : Int) + 1) c (by unfold small; rw [Bool.and_eq_true]; exact ⟨decide_eq_true (by omega), decide_eq_true (by omega)⟩) hc
  let I : Nat → St → Prop := fun n s => ∃ l s4 c, s = ⟨[.val .cup, .val (.int many), .val (.int size), .own (.dct (encD prK PV.int l)), s4, .unk], c⟩ ∧ DrD size n l ∧ CupO c
  have loop := for_ix (turn := forTurn (callN F (d + 1)) (.nm 4) [(.setx 3 (.op .tup [(.call kr [(.var 0), (.var 2)]), (.call kr [(.var 0), (.var 2)])]) (.op .add [(.lit (.int 1)), (.call kr [(.var 0), (.lit (.int 5))])]))]) (xs := rng 0 r) 0 I
    (st := ⟨[.val .cup, .val (.int many), .val (.int size), .own (.dct []), .unk, .unk], c1⟩) ⟨[], .unk, c1, rfl, ⟨by simp, (fun _ h => nomatch h), Nat.zero_le _⟩, hc1⟩ fun i x s hx ⟨l, s4, c2, es, hD, hc2⟩ => by
      subst es
      have hi : i < r.toNat := by
        have := (List.getElem?_eq_some_iff.mp hx).1
        rw [rng_length] at this
        omega
      obtain ⟨a, c3, hc3, a0, a1, ea⟩ := R d 5 c2 (by decide) hc2
      obtain ⟨p, c4, hc4, p0, p1, ep⟩ := R d size c3 hz hc3
      obtain ⟨q, c5, hc5, q0, q1, eq⟩ := R d size c4 hz hc4
      have hl : fitsL (encD prK PV.int l).length = true := fitsL_k (by rw [encD_len]; have := hD.len; omega)
      have st := r_setD (Φ := callN F (d + 1)) (i := 3) (k := .op .tup [(.call kr [(.var 0), (.var 2)]), (.call kr [(.var 0), (.var 2)])]) (e := .op .add [(.lit (.int 1)), (.call kr [(.var 0), (.lit (.int 5))])])
        (st := ⟨[.val .cup, .val (.int many), .val (.int size), .own (.dct (encD prK PV.int l)), .val x, .unk], c2⟩) (st1 := ⟨[.val .cup, .val (.int many), .val (.int size), .own (.dct (encD prK PV.int l)), .val x, .unk], c3⟩) (st2 := ⟨[.val .cup, .val (.int many), .val (.int size), .own (.dct (encD prK PV.int l)), .val x, .unk], c5⟩)
        (x := .int (1 + a)) (y := prK.enc (p, q)) (z := .dct (encD prK PV.int l)) (kvs := encD prK PV.int l) (by simp [ea]) rfl (by simp [ep, eq]; rfl) rfl (kOk_enc prK PV.int l (p, q)) hl
      refine ⟨_, ?_, aset l (p, q) (1 + a), .val x, c5, rfl, ⟨aset_nodup hD.nd, aset_all (P := fun (k : Int × Int) (v : Int) => ((0 ≤ k.1 ∧ k.1 < size) ∧ (0 ≤ k.2 ∧ k.2 < size)) ∧ (1 ≤ v ∧ v ≤ 5)) hD.all ⟨⟨⟨p0, p1⟩, q0, q1⟩, by omega, by omega⟩, ?_⟩, hc5⟩
      · unfold forTurn
        simp only [bindP_nm, rbind_ok, r_exs, List.set_cons_succ, List.set_cons_zero]
        rw [st]
        simp only [rbind_ok, thenS_nx, r_exs0, List.set_cons_succ, List.set_cons_zero]
        rw [show (PV.int (1 + a)) = PV.int (1 + a) from rfl, dset_enc prK PV.int l (p, q) (1 + a)]
      · have := aset_len l (p, q) (1 + a)
        have := hD.len
        omega
  obtain ⟨s', e2, l, s4, c6, es, hD, hc6⟩ := loop
  subst es
  rw [Nat.zero_add, rng_length] at hD
  have hD' : DrD size many l := ⟨hD.nd, hD.all, by have := hD.len; omega⟩
  refine ⟨sqs l, c6, sqs_ok hD', hc6, ?_⟩
  have hsort : ev (callN F (d + 1)) (.op (.bif .sorted) [(.bor 3)]) ⟨[.val .cup, .val (.int many), .val (.int size), .own (.dct (encD prK PV.int l)), s4, .unk], c6⟩ = .ok (.lst ((srtP (l.map (·.1))).map pr), ⟨[.val .cup, .val (.int many), .val (.int size), .own (.dct (encD prK PV.int l)), s4, .unk], c6⟩) := by
    simp [b_sorted_d]
  have hlc : ev (callN F (d + 1)) (.lc [5] (.nm 5) (.op (.bif .sorted) [(.bor 3)]) (.lit (.bl true)) (.op .add [(.bor 5), (.op .tup [(.op .idx [(.bor 3), (.bor 5)])])])) ⟨[.val .cup, .val (.int many), .val (.int size), .own (.dct (encD prK PV.int l)), s4, .unk], c6⟩ = .ok (.lst ((sqs l).map sq), ⟨[.val .cup, .val (.int many), .val (.int size), .own (.dct (encD prK PV.int l)), s4, .unk], c6⟩) := by
    have e : (sqs l).map sq = ((srtP (l.map (·.1))).map pr).map fun x => match x with | .tup [.int a, .int b] => sq (a, b, (aget l (a, b)).getD 0) | _ => .non := by
      unfold sqs
      rw [List.map_map, List.map_map]; rfl
    rw [e]
    have hlen : ((srtP (l.map (·.1))).map pr).length ≤ 1000 := by
      rw [List.length_map, (srtP_perm _).length_eq, List.length_map]; have := hD'.len; omega
    refine lc_mp _ hsort rfl (by intro i hi p; simp at hi; subst hi; simp) (by unfold LIM; omega) fun x hx => ?_
    obtain ⟨p, hp, rfl⟩ := List.mem_map.mp hx
    obtain ⟨v, hv⟩ := aget_of_key ((srtP_perm _).mem_iff.mp hp)
    refine ⟨[.val .cup, .val (.int many), .val (.int size), .own (.dct (encD prK PV.int l)), s4, .val (pr p)], ?_, by simp [wipeE]⟩
    have hidx : idxV c6 (.dct (encD prK PV.int l)) (pr p) = .ok (.int v) := by
      show Res.of (kOk (encD prK PV.int l) (prK.enc p)) (Res.ofOpt (dget (encD prK PV.int l) (prK.enc p))) = _
      rw [kOk_enc, rof_t, dget_enc, hv]; rfl
    have hadd : addV (pr p) (.tup [.int v]) = .ok (sq (p.1, p.2, v)) := rfl
    simp [lcTurn, wipeE, hidx, hadd]
    show sq (p.1, p.2, v) = sq (p.1, p.2, (aget l (p.1, p.2)).getD 0)
    rw [show (p.1, p.2) = p from rfl, hv]; rfl
  have hr : itrV .range1 [.int r] = .ok (rng 0 r) := z_r1 (by omega) r0
  rw [callN_succ hk, runFn_eq (by rw [hn]; rfl), hb]
  simp [figBody, startE, hs, r_for, e1, hr, e2, hlc, ltOf]
end Py
end

section
set_option Elab.async false
set_option linter.all false
set_option autoImplicit false
set_option maxRecDepth 100000
/-! Running by hand, one statement after the other. -/
namespace Py
section
variable {Φ : Calls} {st st1 st2 : St} {s : S} {ss : List S} {c e : E} {t f : List S} {v w : PV} {i : Nat} {p : Pat}
theorem sq_nx (h : ex Φ s st = .ok (.nx, st1)) : exs Φ (s :: ss) st = exs Φ ss st1 := by rw [r_exs, h, rbind_ok, thenS_nx]
theorem sq_rt (h : ex Φ s st = .ok (.rt v, st1)) : exs Φ (s :: ss) st = .ok (.rt v, st1) := by rw [r_exs, h, rbind_ok, thenS_rt]
theorem if_t (h : ev Φ c st = .ok (.bl true, st1)) : ex Φ (.ite c t f) st = exs Φ t st1 := by rw [r_site, h, test_bl, rbind_ok]; rfl
theorem if_f (h : ev Φ c st = .ok (.bl false, st1)) : ex Φ (.ite c t f) st = exs Φ f st1 := by rw [r_site, h, test_bl, rbind_ok]; rfl
theorem if_n (h : ev Φ c st = .ok (.bl false, st1)) : ex Φ (.ite c t []) st = .ok (.nx, st1) := (if_f h).trans r_exs0
theorem rt_ok (h : ev Φ e st = .ok (v, st1)) : ex Φ (.ret e) st = .ok (.rt v, st1) := by rw [r_ret, h, rbind_ok]
theorem as_nm (h : ev Φ e st = .ok (v, st1)) : ex Φ (.asg (.nm i) e) st = .ok (.nx, { st1 with env := st1.env.set i (.val v) }) := by rw [r_asg, h, rbind_ok]; rfl
theorem as_p {env : List Slot} (h : ev Φ e st = .ok (v, st1)) (hb : bindP p v st1.env = .ok env) : ex Φ (.asg p e) st = .ok (.nx, { st1 with env := env }) := by rw [r_asg, h, rbind_ok, hb, rbind_ok]
theorem as_o (h : ev Φ e st = .ok (v, st1)) : ex Φ (.asgo i e) st = .ok (.nx, { st1 with env := st1.env.set i (.own v) }) := by rw [r_asgo, h, rbind_ok]
theorem xp_ok (h : ev Φ e st = .ok (v, st1)) : ex Φ (.expr e) st = .ok (.nx, st1) := by rw [r_expr, h, rbind_ok]
theorem fr_ok {xs : List PV} {r : Res (Flow × St)} (h : ev Φ e st = .ok (v, st1)) (hl : ltOf v = some xs) (hr : forL (forTurn Φ p t) xs st1 = r) : ex Φ (.for p e t) st = r := by rw [r_for, h, rbind_ok, hl, rofOpt_s, rbind_ok, hr]
theorem or_t {a b : E} (h : ev Φ a st = .ok (.bl true, st1)) : ev Φ (.or a b) st = .ok (.bl true, st1) := by rw [r_or, h, rbind_ok]; rfl
theorem or_f {a b : E} {r : Res (PV × St)} (h : ev Φ a st = .ok (.bl false, st1)) (hb : ev Φ b st1 = r) : ev Φ (.or a b) st = r := by rw [r_or, h, rbind_ok]; exact hb
theorem an_f {a b : E} (h : ev Φ a st = .ok (.bl false, st1)) : ev Φ (.and a b) st = .ok (.bl false, st1) := by rw [r_and, h, rbind_ok]; rfl
theorem an_t {a b : E} {r : Res (PV × St)} (h : ev Φ a st = .ok (.bl true, st1)) (hb : ev Φ b st1 = r) : ev Φ (.and a b) st = r := by rw [r_and, h, rbind_ok]; exact hb
theorem nt_ok {a : E} {b : Bool} (h : ev Φ a st = .ok (.bl b, st1)) : ev Φ (.not a) st = .ok (.bl (!b), st1) := by rw [r_not, h, rbind_ok]; rfl
theorem ie_t {a b : E} {r : Res (PV × St)} (h : ev Φ c st = .ok (.bl true, st1)) (hb : ev Φ a st1 = r) : ev Φ (.ite c a b) st = r := by rw [r_ite, h, rbind_ok]; exact hb
theorem ie_f {a b : E} {r : Res (PV × St)} (h : ev Φ c st = .ok (.bl false, st1)) (hb : ev Φ b st1 = r) : ev Φ (.ite c a b) st = r := by rw [r_ite, h, rbind_ok]; exact hb
theorem ca_1 {k : Nat} {cu : Option (Int × Int)} (h : ev Φ e st = .ok (v, st1)) (hc : Φ k [v] st1.cup = .ok (w, cu)) : ev Φ (.call k [e]) st = .ok (w, { st1 with cup := cu }) := by
  rw [r_call, r_evs, h, rbind_ok, r_evs0, rbind_ok, rbind_ok, hc, rbind_ok]
theorem ca_2 {k : Nat} {cu : Option (Int × Int)} {e2 : E} {v2 : PV} (h : ev Φ e st = .ok (v, st1)) (h2 : ev Φ e2 st1 = .ok (v2, st2)) (hc : Φ k [v, v2] st2.cup = .ok (w, cu)) : ev Φ (.call k [e, e2]) st = .ok (w, { st2 with cup := cu }) := by
  rw [r_call, r_evs, h, rbind_ok, r_evs, h2, rbind_ok, r_evs0, rbind_ok, rbind_ok, rbind_ok, hc, rbind_ok]
theorem ca_3 {k : Nat} {cu : Option (Int × Int)} {e2 e3 : E} {v2 v3 : PV} {st3 : St} (h : ev Φ e st = .ok (v, st1)) (h2 : ev Φ e2 st1 = .ok (v2, st2)) (h3 : ev Φ e3 st2 = .ok (v3, st3)) (hc : Φ k [v, v2, v3] st3.cup = .ok (w, cu)) : ev Φ (.call k [e, e2, e3]) st = .ok (w, { st3 with cup := cu }) := by
  rw [r_call, r_evs, h, rbind_ok, r_evs, h2, rbind_ok, r_evs, h3, rbind_ok, r_evs0, rbind_ok, rbind_ok, rbind_ok, rbind_ok, hc, rbind_ok]
theorem va_ok (h : st.env[i]? = some (.val v)) : ev Φ (.var i) st = .ok (v, st) := by
  rw [r_var, show slotV st.env i = .ok v from by unfold slotV; rw [h], rbind_ok, show frz st.env i = st.env from by unfold frz; rw [h]]
theorem bo_ok (h : st.env[i]? = some (.val v)) : ev Φ (.bor i) st = .ok (v, st) := by
  rw [r_bor, show slotV st.env i = .ok v from by unfold slotV; rw [h], rbind_ok]
theorem bo_own (h : st.env[i]? = some (.own v)) : ev Φ (.bor i) st = .ok (v, st) := by
  rw [r_bor, show slotV st.env i = .ok v from by unfold slotV; rw [h], rbind_ok]
end
theorem fn_rt {F : List Fn} {k : Nat} {f : Fn} {d : Nat} {args : List PV} {cup : Option (Int × Int)} {v : PV} {st1 : St} (hk : F[k]? = some f) (hn : args.length = f.nargs) (h : exs (callN F d) f.body ⟨startE f args, cup⟩ = .ok (.rt v, st1)) : callN F (d + 1) k args cup = .ok (v, st1.cup) := by
  rw [callN_succ hk, runFn_eq hn, h]; rfl
theorem fn_nx {F : List Fn} {k : Nat} {f : Fn} {d : Nat} {args : List PV} {cup : Option (Int × Int)} {st1 : St} (hk : F[k]? = some f) (hn : args.length = f.nargs) (h : exs (callN F d) f.body ⟨startE f args, cup⟩ = .ok (.nx, st1)) : callN F (d + 1) k args cup = .ok (.non, st1.cup) := by
  rw [callN_succ hk, runFn_eq hn, h]; rfl
/-- a loop that checks -/
theorem for_chk {turn : PV → St → Res (Flow × St)} {g : PV → Bool} {i : Nat} {base : List Slot} {c : Option (Int × Int)} : ∀ {xs : List PV} (s : Slot), (∀ x ∈ xs, ∀ s, turn x ⟨base.set i s, c⟩ = .ok (if g x = true then .nx else .rt (.bl false), ⟨base.set i (.val x), c⟩)) →
    ∃ s', (s' = s ∨ ∃ x, s' = .val x) ∧ forL turn xs ⟨base.set i s, c⟩ = .ok (if xs.all g = true then .nx else .rt (.bl false), ⟨base.set i s', c⟩)
  | [], s, _ => ⟨s, .inl rfl, rfl⟩
  | x :: xs, s, h => by
    have e := h x List.mem_cons_self s
    obtain ⟨s', hs, e2⟩ := for_chk (xs := xs) (.val x) fun y hy => h y (List.mem_cons_of_mem _ hy)
    cases hg : g x with
    | false =>
      rw [hg] at e
      refine ⟨.val x, .inr ⟨x, rfl⟩, ?_⟩
      show (turn x ⟨base.set i s, c⟩).bind _ = _
      rw [e, rbind_ok, List.all_cons, hg]
      rfl
    | true =>
      rw [hg] at e
      refine ⟨s', ?_, ?_⟩
      · rcases hs with rfl | h
        · exact .inr ⟨x, rfl⟩
        · exact .inr h
      show (turn x ⟨base.set i s, c⟩).bind _ = _
      rw [e, rbind_ok, List.all_cons, hg, Bool.true_and]
      exact e2
/-- a loop that goes on -/
theorem for_sq {turn : PV → St → Res (Flow × St)} {i : Nat} {base : List Slot} {c : Option (Int × Int)} : ∀ {xs : List PV} (s : Slot), (∀ x ∈ xs, ∀ s, turn x ⟨base.set i s, c⟩ = .ok (.nx, ⟨base.set i (.val x), c⟩)) →
    ∃ s', (s' = s ∨ ∃ x, s' = .val x) ∧ forL turn xs ⟨base.set i s, c⟩ = .ok (.nx, ⟨base.set i s', c⟩)
  | [], s, _ => ⟨s, .inl rfl, rfl⟩
  | x :: xs, s, h => by
    obtain ⟨s', hs, e2⟩ := for_sq (xs := xs) (.val x) fun y hy => h y (List.mem_cons_of_mem _ hy)
    refine ⟨s', ?_, ?_⟩
    · rcases hs with rfl | h
      · exact .inr ⟨x, rfl⟩
      · exact .inr h
    · show (turn x ⟨base.set i s, c⟩).bind _ = _
      rw [h x List.mem_cons_self s, rbind_ok]
      exact e2
theorem ft_nm {Φ : Calls} {i : Nat} {b : List S} {x : PV} {env : List Slot} {c : Option (Int × Int)} : forTurn Φ (.nm i) b x ⟨env, c⟩ = exs Φ b ⟨env.set i (.val x), c⟩ := by unfold forTurn; rw [bindP_nm, rbind_ok]
theorem fm_one {α β : Type} (f : α → β) : ∀ l : List α, l.flatMap (fun y => [f y]) = l.map f
  | [] => rfl
  | a :: l => by rw [List.flatMap_cons, fm_one f l]; rfl
def isBorE : E → Bool
  | .bor _ => true
  | _ => false
/-- the inner loop of a comprehension of two clauses -/
theorem lc2_in {Φ : Calls} {vs1 : List Nat} {p1 : Pat} {c1 elt : E} {st : St} {ys : List PV} (h : PV → List PV) (turn : ∀ y ∈ ys, ∃ env', lc2In Φ vs1 p1 c1 elt y st = .ok (h y, ⟨env', st.cup⟩) ∧ wipeE env' vs1 = wipeE st.env vs1) :
    ∃ env', lcLoop (lc2In Φ vs1 p1 c1 elt) ys st = .ok (ys.flatMap h, ⟨env', st.cup⟩) ∧ wipeE env' vs1 = wipeE st.env vs1 := by
  obtain ⟨s', e, h1, h2⟩ := lc_inv (turn := lc2In Φ vs1 p1 c1 elt) (xs := ys) (fun s => wipeE s.env vs1 = wipeE st.env vs1 ∧ s.cup = st.cup) h (st := st) ⟨rfl, rfl⟩ fun x hx s ⟨i1, i2⟩ => by
    obtain ⟨env', e, w⟩ := turn x hx
    refine ⟨⟨env', st.cup⟩, ?_, w, rfl⟩
    rw [← e]
    unfold lc2In
    rw [i1, i2]
  obtain ⟨env', cu⟩ := s'
  cases (show cu = st.cup from h2)
  exact ⟨env', e, h1⟩
theorem lc2_fm {Φ : Calls} {own vs1 : List Nat} {p p1 : Pat} {it c it1 c1 elt : E} {st st1 : St} {v : PV} {xs : List PV} (g : PV → List PV) (hit : ev Φ it st = .ok (v, st1)) (hl : ltOf v = some xs) (hc : cleanE st1.env own) (hlen : (xs.flatMap g).length ≤ LIM)
    (turn : ∀ x ∈ xs, ∃ env', lc2Turn Φ own p c vs1 p1 it1 c1 elt x st1 = .ok (g x, ⟨env', st1.cup⟩) ∧ wipeE env' own = wipeE st1.env own) : ev Φ (.lc2 own p it c vs1 p1 it1 c1 elt) st = .ok (.lst (xs.flatMap g), st1) := by
  rw [r_lc2, hit, rbind_ok, hl, rofOpt_s, rbind_ok]
  obtain ⟨s', e, h1, h2⟩ := lc_inv (turn := lc2Turn Φ own p c vs1 p1 it1 c1 elt) (xs := xs) (fun s => wipeE s.env own = wipeE st1.env own ∧ s.cup = st1.cup) g (st := st1) ⟨rfl, rfl⟩ fun x hx s ⟨i1, i2⟩ => by
    obtain ⟨env', e, w⟩ := turn x hx
    refine ⟨⟨env', st1.cup⟩, ?_, w, rfl⟩
    rw [← e]
    unfold lc2Turn
    rw [i1, i2]
  rw [e, rbind_ok, fits_of hlen, rof_t]
  show Res.ok (PV.lst _, ({ s' with env := backE st1.env s'.env own } : St)) = _
  rw [back_same h1 hc, h2]
/-- all, any of a list's value -/
theorem al_ok {Φ : Calls} {e : E} {st st1 : St} {bs : List Bool} (hb : isBorE e = false) (h : ev Φ e st = .ok (.lst (bs.map PV.bl), st1)) : ev Φ (.op (.bif .all) [e]) st = .ok (.bl (bs.all id), st1) := by
  have hr : reread [e] [.lst (bs.map PV.bl)] st1 = .ok [.lst (bs.map PV.bl)] := by cases e <;> first | rfl | exact nomatch hb
  rw [r_op, r_evs, h, rbind_ok, r_evs0, rbind_ok, rbind_ok, hr, rbind_ok, o_bif, b_all, rbind_ok]
/-- a loop as a fold -/
theorem for_fold {α β : Type} {turn : PV → St → Res (Flow × St)} (enc : β → PV) (S : α → St → Prop) (f : α → β → α) : ∀ {xs : List β} {a : α} {st : St}, S a st →
    (∀ ys x zs, xs = ys ++ x :: zs → ∀ s, S (ys.foldl f a) s → ∃ s', turn (enc x) s = .ok (.nx, s') ∧ S (f (ys.foldl f a) x) s') → ∃ s', forL turn (xs.map enc) st = .ok (.nx, s') ∧ S (xs.foldl f a) s'
  | [], a, st, h0, _ => ⟨st, rfl, h0⟩
  | x :: xs, a, st, h0, h => by
    obtain ⟨s1, e1, i1⟩ := h [] x xs rfl st h0
    obtain ⟨s2, e2, i2⟩ := for_fold (turn := turn) enc S f (xs := xs) (a := f a x) i1 fun ys y zs e s hs => h (x :: ys) y zs (by rw [e]; rfl) s hs
    refine ⟨s2, ?_, i2⟩
    show (turn (enc x) st).bind _ = _
    rw [e1, rbind_ok]
    exact e2
theorem get2_ok {Φ : Calls} {st : St} {i j : Nat} {D : List (PV × PV)} {k : PV} {z : Int} (h1 : slotV st.env i = .ok (.dct D)) (h5 : st.env[j]? = some (.val k)) (hk : kOk D k = true) : ev Φ (.meth .get2 (.bor i) [(.var j), (.lit (.int z))]) st = .ok ((dget D k).getD (.int z), st) := by
  rw [ev]
  have e1 : ev Φ (.bor i) st = .ok (.dct D, st) := by rw [r_bor, h1, rbind_ok]
  have e2 : evs Φ [(.var j), (.lit (.int z))] st = .ok ([k, .int z], st) := by
    rw [r_evs, va_ok h5, rbind_ok, r_evs, r_lit, rbind_ok, r_evs0]; rfl
  have e3 : reread [.bor i, .var j, .lit (.int z)] [.dct D, k, .int z] st = .ok [.dct D, k, .int z] := by
    show ((slotV st.env i).bind _) = _
    rw [h1]; rfl
  rw [e1, rbind_ok, e2, rbind_ok, e3, rbind_ok]
  show (Res.of (decide (kname (.dct D) = kname (.dct D))) ((Res.of (kOk D k && (kname (.int z)).isNone) (.ok ((dget D k).getD (.int z)))).bind _)) = _
  rw [hk]; rfl
theorem fm_filter {β : Type} (f h : β → PV) (g : PV → List PV) (q : β → Bool) : ∀ {l : List β}, (∀ b ∈ l, g (f b) = if q b = true then [h b] else []) → (l.map f).flatMap g = (l.filter q).map h
  | [], _ => rfl
  | b :: l, hg => by
    have e := hg b List.mem_cons_self
    rw [List.map_cons, List.flatMap_cons, e, fm_filter f h g q (l := l) fun c hc => hg c (List.mem_cons_of_mem _ hc), List.filter_cons]
    cases q b <;> rfl
theorem va_own {Φ : Calls} {st : St} {i : Nat} {v : PV} (h : st.env[i]? = some (.own v)) : ev Φ (.var i) st = .ok (v, { st with env := st.env.set i (.val v) }) := by
  rw [r_var, show slotV st.env i = .ok v from by unfold slotV; rw [h], rbind_ok, show frz st.env i = st.env.set i (.val v) from by unfold frz; rw [h]]
end Py
end

section
set_option Elab.async false
set_option linter.all false
set_option autoImplicit false
set_option maxRecDepth 100000
/-! What places, squares and figures are: the package's first functions. -/
namespace Py
open PySem (Str CmpOp)
def g_is_whole : Fn := { name := "is_whole", nargs := 1, nslots := 1, fresh := false, body := [(.ret (.and (.op (.isi .int) [(.bor 0)]) (.not (.op (.isi .bool) [(.bor 0)]))))] }
def g_fits_whole : Fn := { name := "fits_whole", nargs := 3, nslots := 3, fresh := false, body := [(.ret (.and (.call 0 [(.var 0)]) (.chain .LtE .LtE (.var 1) (.var 0) (.var 2))))] }
def g_is_tuple_of : Fn := { name := "is_tuple_of", nargs := 3, nslots := 3, fresh := false, body := [(.ret (.and (.op (.isi .tuple) [(.bor 0)]) (.chain .LtE .LtE (.var 1) (.op (.bif .len) [(.bor 0)]) (.var 2))))] }
def g_is_rising : Fn := { name := "is_rising", nargs := 1, nslots := 3, fresh := false, body := [(.ret (.op (.bif .all) [(.lc [1, 2] (.tup [(.nm 1), (.nm 2)]) (.itr .zip [(.var 0), (.op (.slc true false) [(.bor 0), (.lit (.int 1))])]) (.lit (.bl true)) (.op (.cmp .Lt) [(.bor 1), (.bor 2)]))]))] }
def g_fits_place : Fn := { name := "fits_place", nargs := 1, nslots := 2, fresh := false, body := [(.ret (.and (.call 2 [(.var 0), (.lit (.int 2)), (.lit (.int 2))]) (.op (.bif .all) [(.lc [1] (.nm 1) (.var 0) (.lit (.bl true)) (.call 1 [(.var 1), (.op .neg [(.con "FAR" (.int 50))]), (.con "FAR" (.int 50))]))])))] }
def g_fits_square : Fn := { name := "fits_square", nargs := 1, nslots := 1, fresh := false, body := [(.ite (.or (.not (.call 2 [(.var 0), (.lit (.int 3)), (.lit (.int 3))])) (.not (.call 4 [(.op (.slc false true) [(.bor 0), (.lit (.int 2))])]))) [(.ret (.lit (.bl false)))] []),
  (.ret (.call 1 [(.op .idx [(.bor 0), (.lit (.int 2))]), (.lit (.int 1)), (.con "WHOLE" (.int 5))]))] }
def g_fits_figure : Fn := { name := "fits_figure", nargs := 1, nslots := 2, fresh := false, body := [(.ite (.or (.not (.call 2 [(.var 0), (.lit (.int 0)), (.con "MANY" (.int 60))])) (.not (.op (.bif .all) [(.lc [1] (.nm 1) (.var 0) (.lit (.bl true)) (.call 5 [(.var 1)]))]))) [(.ret (.lit (.bl false)))] []),
  (.ret (.call 3 [(.lc [1] (.nm 1) (.var 0) (.lit (.bl true)) (.op (.slc false true) [(.bor 1), (.lit (.int 2))]))]))] }
structure FigF (F : List Fn) : Prop where
  h0 : F[0]? = some g_is_whole
  h1 : F[1]? = some g_fits_whole
  h2 : F[2]? = some g_is_tuple_of
  h3 : F[3]? = some g_is_rising
  h4 : F[4]? = some g_fits_place
  h5 : F[5]? = some g_fits_square
  h6 : F[6]? = some g_fits_figure
section
variable {F : List Fn} {d : Nat} {cup : Option (Int × Int)}
def isW : PV → Bool
  | .int _ => true
  | _ => false
def okV : PV → Bool
  | .cup => false
  | .fn _ => false
  | .scr _ => false
  | _ => true
theorem t_is_whole (hF : FigF F) {v : PV} (h : okV v = true) : callN F (d + 1) 0 [v] cup = .ok (.bl (isW v), cup) := by
  rw [callN_succ (f := g_is_whole) hF.h0, runFn_eq rfl]
  cases v <;> first | rfl | exact absurd h (by simp [okV])
def inR (a b : Int) : PV → Bool
  | .int i => decide (a ≤ i) && decide (i ≤ b)
  | _ => false
theorem t_fits_whole (hF : FigF F) {v : PV} {a b : Int} (h : okV v = true) : callN F (d + 2) 1 [v, .int a, .int b] cup = .ok (.bl (inR a b v), cup) := by
  rw [callN_succ (f := g_fits_whole) hF.h1, runFn_eq rfl]
  simp [g_fits_whole, startE, t_is_whole hF h]
  cases v <;> simp [isW, inR]
  rename_i i
  by_cases h1 : a ≤ i <;> simp [h1]
def tupN (a b : Int) : PV → Bool
  | .tup xs => decide (a ≤ xs.length) && decide ((xs.length : Int) ≤ b)
  | _ => false
theorem t_tuple_of (hF : FigF F) {v : PV} {a b : Int} (h : okV v = true) : callN F (d + 1) 2 [v, .int a, .int b] cup = .ok (.bl (tupN a b v), cup) := by
  rw [callN_succ (f := g_is_tuple_of) hF.h2, runFn_eq rfl]
  simp [g_is_tuple_of, startE]
  cases v with
  | tup xs => simp [isiV, tupN]; by_cases h1 : a ≤ (xs.length : Int) <;> simp [h1]
  | cup => cases h
  | fn => cases h
  | scr => cases h
  | _ => simp [isiV, tupN]
/-- a value that may be asked: nothing of the machine's within a tuple -/
def okVs (xs : List PV) : Bool := xs.all okV
theorem okVs_mem {xs : List PV} (h : okVs xs = true) {x : PV} (hx : x ∈ xs) : okV x = true := List.all_eq_true.mp h x hx
theorem all_map (g : PV → Bool) (xs : List PV) : ((xs.map g).all id) = xs.all g := by rw [List.all_map]; rfl
theorem t_place (hF : FigF F) {xs : List PV} (h : okVs xs = true) (hl : xs.length ≤ 1000) : callN F (d + 3) 4 [.tup xs] cup = .ok (.bl (decide (xs.length = 2) && xs.all (inR (-50) 50)), cup) := by
  rw [callN_succ (f := g_fits_place) hF.h4, runFn_eq rfl]
  have key : ev (callN F (d + 2)) (.lc [1] (.nm 1) (.var 0) (.lit (.bl true)) (.call 1 [(.var 1), (.op .neg [(.con "FAR" (.int 50))]), (.con "FAR" (.int 50))])) ⟨[.val (.tup xs), .unk], cup⟩ = .ok (.lst ((xs.map (inR (-50) 50)).map PV.bl), ⟨[.val (.tup xs), .unk], cup⟩) := by
    rw [List.map_map]
    refine lc_mp _ (v := .tup xs) (by simp) rfl (by simp [cleanE]) (by unfold LIM; omega) fun x hx => ?_
    refine ⟨[.val (.tup xs), .val x], ?_, by simp [wipeE]⟩
    simp [lcTurn, wipeE, t_fits_whole hF (okVs_mem h hx)]
  have e2 : (decide ((2 : Int) ≤ (xs.length : Int)) && decide ((xs.length : Int) ≤ 2)) = decide (xs.length = 2) := by
    by_cases z : xs.length = 2
    · simp [z]
    · rw [decide_eq_false z, Bool.and_eq_false_iff]
      by_cases z1 : (2 : Int) ≤ (xs.length : Int)
      · exact .inr (decide_eq_false (by omega))
      · exact .inl (decide_eq_false z1)
  simp only [g_fits_place, startE, List.map_cons, List.map_nil, List.length_singleton, List.replicate, List.cons_append, List.nil_append, r_exs, r_ret, r_and, r_call, r_evs, r_evs0, r_var, r_lit, slotV_v, frz_v, rbind_ok, t_tuple_of hF (v := .tup xs) rfl, tupN, e2, ifB_bl, r_op, key, rr_lc, rr_nil, o_bif, b_all, all_map]
  by_cases z : xs.length = 2 <;> simp [z]
def isSq : PV → Bool
  | .tup [a, b, c] => inR (-50) 50 a && inR (-50) 50 b && inR 1 5 c
  | _ => false
/-- what is_square and the law's own question may be asked -/
def askV : PV → Bool
  | .tup xs => okVs xs && decide (xs.length ≤ 1000)
  | v => okV v
theorem askV_ok {v : PV} (h : askV v = true) : okV v = true := by
  cases v <;> first | rfl | exact h
theorem t_square (hF : FigF F) {v : PV} (h : askV v = true) : callN F (d + 4) 5 [v] cup = .ok (.bl (isSq v), cup) := by
  rw [callN_succ (f := g_fits_square) hF.h5, runFn_eq rfl]
  have hv := askV_ok h
  by_cases ht : ∃ a b c, v = .tup [a, b, c]
  · obtain ⟨a, b, c, rfl⟩ := ht
    have h' : okVs [a, b, c] = true := by
      have h2 : (okVs [a, b, c] && decide ([a, b, c].length ≤ 1000)) = true := h
      rw [Bool.and_eq_true] at h2
      exact h2.1
    simp only [okVs, List.all_cons, List.all_nil, Bool.and_true, Bool.and_eq_true] at h'
    have hp := t_place hF (d := d) (cup := cup) (xs := [a, b]) (by simp [okVs, h'.1, h'.2.1]) (by simp)
    simp [g_fits_square, startE, t_tuple_of hF hv, tupN, cut, cutAt, hp, atI, ixN, t_fits_whole hF h'.2.2, isSq]
    cases inR (-50) 50 a <;> cases inR (-50) 50 b <;> simp
  · have e : tupN 3 3 v = false := by
      cases v with
      | tup xs =>
        unfold tupN
        match xs, ht with
        | [], _ => rfl
        | [_], _ => rfl
        | [_, _], _ => rfl
        | [a, b, c], ht => exact absurd ⟨a, b, c, rfl⟩ ht
        | _ :: _ :: _ :: _ :: r, _ => simp; omega
      | _ => rfl
    have e2 : isSq v = false := by
      unfold isSq
      split
      · exact absurd ⟨_, _, _, rfl⟩ ht
      · rfl
    simp [g_fits_square, startE, t_tuple_of hF hv, e, e2]
theorem len_ne {xs : List PV} (h : ¬ ∃ a b c, xs = [a, b, c]) : xs.length ≠ 3 := by
  match xs, h with
  | [], _ => simp
  | [_], _ => simp
  | [_, _], _ => simp
  | [a, b, c], h => exact absurd ⟨a, b, c, rfl⟩ h
  | _ :: _ :: _ :: _ :: r, _ => simp
/-! figures -/
theorem inR_int {a b : Int} {v : PV} (h : inR a b v = true) : ∃ i, v = .int i ∧ a ≤ i ∧ i ≤ b := by
  cases v with
  | int i =>
    simp only [inR, Bool.and_eq_true, decide_eq_true_eq] at h
    exact ⟨i, rfl, h⟩
  | _ => cases h
theorem isSq_sq {v : PV} (h : isSq v = true) : ∃ t, v = sq t := by
  unfold isSq at h
  split at h
  · rw [Bool.and_eq_true, Bool.and_eq_true] at h
    obtain ⟨x, rfl, _⟩ := inR_int h.1.1
    obtain ⟨y, rfl, _⟩ := inR_int h.1.2
    obtain ⟨z, rfl, _⟩ := inR_int h.2
    exact ⟨(x, y, z), rfl⟩
  · cases h
theorem all_sq : ∀ {xs : List PV}, xs.all isSq = true → ∃ ts : List (Int × Int × Int), xs = ts.map sq
  | [], _ => ⟨[], rfl⟩
  | x :: xs, h => by
    rw [List.all_cons, Bool.and_eq_true] at h
    obtain ⟨t, rfl⟩ := isSq_sq h.1
    obtain ⟨ts, rfl⟩ := all_sq h.2
    exact ⟨t :: ts, rfl⟩
def isFig : PV → Bool
  | .tup xs => decide (xs.length ≤ 60) && xs.all isSq && riseB (xs.filterMap fun x => match x with | .tup [.int a, .int b, .int _] => some (a, b) | _ => none)
  | _ => false
theorem isFig_sq (ts : List (Int × Int × Int)) : isFig (.tup (ts.map sq)) = (decide (ts.length ≤ 60) && (ts.map sq).all isSq && riseB (plc ts)) := by
  have e : (ts.map sq).filterMap (fun x => match x with | PV.tup [.int a, .int b, .int _] => some (a, b) | _ => none) = plc ts := by
    unfold plc
    induction ts with
    | nil => rfl
    | cons t ts ih => rw [List.map_cons, List.filterMap_cons, List.map_cons, ← ih]; rfl
  show (decide ((ts.map sq).length ≤ 60) && (ts.map sq).all isSq && riseB _) = _
  rw [e, List.length_map]
/-- what is_figure may be asked -/
def itemV (x : PV) : Bool := askV x && (x.plain && decide (x.depth ≤ 10))
def askF : PV → Bool
  | .tup xs => xs.all itemV && decide (xs.length ≤ 1000)
  | v => okV v
theorem t_rising (hF : FigF F) (l : List (Int × Int)) (hl : l.length ≤ 1000) : callN F (d + 1) 3 [.lst (l.map pr)] cup = .ok (.bl (riseB l), cup) := by
  rw [callN_succ (f := g_is_rising) hF.h3, runFn_eq rfl]
  have hz : List.zipWith (fun a b => PV.tup [a, b]) (l.map pr) ((l.map pr).drop 1) = (List.zip l (l.drop 1)).map fun p => .tup [pr p.1, pr p.2] := by
    rw [← List.map_drop, List.zipWith_map, List.zip, List.map_zipWith]
  have hcut : cut (l.map pr) (some 1) none = (l.map pr).drop 1 := by
    unfold cut cutAt
    cases l with
    | nil => rfl
    | cons a l =>
      simp only [List.length_map, List.length_cons]
      rw [if_neg (by omega)]
      have : min (1 : Int).toNat (l.length + 1) = 1 := by
        rw [show (1 : Int).toNat = 1 from rfl]; omega
      rw [this, List.take_of_length_le (by simp)]
  have key : ev (callN F d) (.op (.bif .all) [.lc [1, 2] (.tup [(.nm 1), (.nm 2)]) (.itr .zip [(.var 0), (.op (.slc true false) [(.bor 0), (.lit (.int 1))])]) (.lit (.bl true)) (.op (.cmp .Lt) [(.bor 1), (.bor 2)])]) ⟨[.val (.lst (l.map pr)), .unk, .unk], cup⟩ = .ok (.bl (riseB l), ⟨[.val (.lst (l.map pr)), .unk, .unk], cup⟩) := by
    have e : riseB l = ((List.zip l (l.drop 1)).map fun p => PV.tup [pr p.1, pr p.2]).all (fun x => match x with | .tup [a, b] => PV.lt a b | _ => false) := by
      rw [← zip_rise, List.all_map]
      congr 1
      funext p
      show ltP p.1 p.2 = PV.lt (pr p.1) (pr p.2)
      rw [pr_lt]
    rw [e]
    refine all_lc _ (v := .lst ((List.zip l (l.drop 1)).map fun p => .tup [pr p.1, pr p.2])) ?_ rfl (by intro i hi p; simp at hi; rcases hi with rfl | rfl <;> simp) (by rw [List.length_map, List.length_zip]; omega) fun x hx => ?_
    · simp [hcut]
      simpa using hz
    · obtain ⟨p, _, rfl⟩ := List.mem_map.mp hx
      refine ⟨[.val (.lst (l.map pr)), .val (pr p.1), .val (pr p.2)], ?_, by simp [wipeE]⟩
      simp [lcTurn, wipeE, c_lt_pr, pr_lt]
  rw [show g_is_rising.body = [.ret (.op (.bif .all) [.lc [1, 2] (.tup [(.nm 1), (.nm 2)]) (.itr .zip [(.var 0), (.op (.slc true false) [(.bor 0), (.lit (.int 1))])]) (.lit (.bl true)) (.op (.cmp .Lt) [(.bor 1), (.bor 2)])])] from rfl, show startE g_is_rising [.lst (l.map pr)] = [.val (.lst (l.map pr)), .unk, .unk] from rfl, r_exs, r_ret, key]
  simp
theorem cut2 (t : Int × Int × Int) : slcV (sq t) none (some 2) = .ok (pr (t.1, t.2.1)) := rfl
theorem askF_all {xs : List PV} (h : askF (.tup xs) = true) : (∀ x ∈ xs, askV x = true ∧ x.plain = true ∧ x.depth ≤ 10) ∧ xs.length ≤ 1000 := by
  have h : (xs.all itemV && decide (xs.length ≤ 1000)) = true := h
  rw [Bool.and_eq_true, List.all_eq_true] at h
  refine ⟨fun x hx => ?_, of_decide_eq_true h.2⟩
  have := h.1 x hx
  unfold itemV at this
  rw [Bool.and_eq_true, Bool.and_eq_true] at this
  exact ⟨this.1, this.2.1, of_decide_eq_true this.2.2⟩
theorem places_lcI {Φ : Calls} {env : List Slot} {it : E} {j : Nat} {ts : List (Int × Int × Int)} (hit : ev Φ it ⟨env, cup⟩ = .ok (.tup (ts.map sq), ⟨env, cup⟩)) (hj : j < env.length) (hc : cleanE env [j]) (hl : ts.length ≤ 1000) :
    ev Φ (.lc [j] (.nm j) it (.lit (.bl true)) (.op (.slc false true) [(.bor j), (.lit (.int 2))])) ⟨env, cup⟩ = .ok (.lst ((plc ts).map pr), ⟨env, cup⟩) := by
  have e : (plc ts).map pr = (ts.map sq).map fun x => match x with | .tup [.int a, .int b, .int _] => pr (a, b) | _ => .non := by
    unfold plc
    rw [List.map_map, List.map_map]; rfl
  rw [e]
  refine lc_mp _ hit rfl hc (by rw [List.length_map]; unfold LIM; omega) fun x hx => ?_
  obtain ⟨t, _, rfl⟩ := List.mem_map.mp hx
  refine ⟨(wipeE env [j]).set j (.val (sq t)), ?_, ?_⟩
  · have hj' : ((wipeE env [j]).set j (.val (sq t)))[j]? = some (.val (sq t)) := List.getElem?_set_self (by rw [wE_len]; exact hj)
    have hs' : slotV ((wipeE env [j]).set j (.val (sq t))) j = .ok (sq t) := by unfold slotV; rw [hj']
    simp [lcTurn, hs', cut2]
    rfl
  · show ((env.set j .unk).set j (.val (sq t))).set j .unk = env.set j .unk
    rw [List.set_set, List.set_set]
theorem places_lc {Φ : Calls} {env : List Slot} {i j : Nat} {ts : List (Int × Int × Int)} (h0 : env[i]? = some (.val (.tup (ts.map sq)))) (hj : j < env.length) (hc : cleanE env [j]) (hl : ts.length ≤ 1000) :
    ev Φ (.lc [j] (.nm j) (.var i) (.lit (.bl true)) (.op (.slc false true) [(.bor j), (.lit (.int 2))])) ⟨env, cup⟩ = .ok (.lst ((plc ts).map pr), ⟨env, cup⟩) := places_lcI (va_ok h0) hj hc hl
theorem t_figure (hF : FigF F) {v : PV} (h : askF v = true) : callN F (d + 5) 6 [v] cup = .ok (.bl (isFig v), cup) := by
  rw [callN_succ (f := g_fits_figure) hF.h6, runFn_eq rfl]
  by_cases ht : ∃ xs, v = .tup xs
  · obtain ⟨xs, rfl⟩ := ht
    obtain ⟨ha, hl⟩ := askF_all h
    have key : ev (callN F (d + 4)) (.op (.bif .all) [(.lc [1] (.nm 1) (.var 0) (.lit (.bl true)) (.call 5 [(.var 1)]))]) ⟨[.val (.tup xs), .unk], cup⟩ = .ok (.bl (xs.all isSq), ⟨[.val (.tup xs), .unk], cup⟩) := by
      refine all_lc isSq (v := .tup xs) (by simp) rfl (by intro i hi p; simp at hi; subst hi; simp) (by omega) fun x hx => ?_
      refine ⟨[.val (.tup xs), .val x], ?_, by simp [wipeE]⟩
      simp [lcTurn, wipeE, t_square hF (ha x hx).1]
    have hb : g_fits_figure.body = [(.ite (.or (.not (.call 2 [(.var 0), (.lit (.int 0)), (.con "MANY" (.int 60))])) (.not (.op (.bif .all) [(.lc [1] (.nm 1) (.var 0) (.lit (.bl true)) (.call 5 [(.var 1)]))]))) [(.ret (.lit (.bl false)))] []),
        (.ret (.call 3 [(.lc [1] (.nm 1) (.var 0) (.lit (.bl true)) (.op (.slc false true) [(.bor 1), (.lit (.int 2))]))]))] := rfl
    have hst : startE g_fits_figure [.tup xs] = [.val (.tup xs), .unk] := rfl
    have e0 : tupN 0 60 (.tup xs) = decide (xs.length ≤ 60) := by
      show (decide ((0 : Int) ≤ (xs.length : Int)) && decide ((xs.length : Int) ≤ 60)) = _
      rw [decide_eq_true (show (0 : Int) ≤ (xs.length : Int) by omega), Bool.true_and]
      by_cases z : xs.length ≤ 60
      · rw [decide_eq_true z, decide_eq_true (by omega)]
      · rw [decide_eq_false z, decide_eq_false (by omega)]
    rw [hb, hst]
    cases hsq : xs.all isSq with
    | false =>
      have e1 : isFig (.tup xs) = false := by
        show (decide (xs.length ≤ 60) && xs.all isSq && _) = false
        rw [hsq, Bool.and_false, Bool.false_and]
      simp [-r_op, e1, key, hsq, t_tuple_of hF (v := .tup xs) rfl, e0]
    | true =>
      obtain ⟨ts, rfl⟩ := all_sq hsq
      rw [List.length_map] at hl
      have kp := places_lc (Φ := callN F (d + 4)) (cup := cup) (env := [.val (.tup (ts.map sq)), .unk]) (i := 0) (j := 1) (ts := ts) rfl (by simp) (by intro i hi p; simp at hi; subst hi; simp) hl
      rw [isFig_sq, hsq]
      rw [hsq] at key
      rw [List.length_map] at e0
      have hr := t_rising hF (d := d + 3) (cup := cup) (plc ts) (by unfold plc; rw [List.length_map]; exact hl)
      by_cases z : ts.length ≤ 60
      · simp [-r_op, key, t_tuple_of hF (v := .tup (ts.map sq)) rfl, e0, z, kp, hr]
      · simp [-r_op, key, t_tuple_of hF (v := .tup (ts.map sq)) rfl, e0, z]
  · have hv : okV v = true := by
      cases v with
      | tup xs => exact absurd ⟨xs, rfl⟩ ht
      | _ => exact h
    have e : tupN 0 60 v = false := by
      cases v with
      | tup xs => exact absurd ⟨xs, rfl⟩ ht
      | _ => rfl
    have e2 : isFig v = false := by
      cases v with
      | tup xs => exact absurd ⟨xs, rfl⟩ ht
      | _ => rfl
    simp [-r_op, g_fits_figure, startE, t_tuple_of hF hv, e, e2]
theorem lst_ne (ys : List PV) (h : ∀ y ∈ ys, y.plain = true ∧ y.depth ≤ 10) : cmpV .NotEq (.lst ys) (.lst []) = .ok (.bl (!ys.isEmpty)) := by
  have hf : (PV.lst ys).fine = true := by
    have key : PV.plains ys = true ∧ PV.depths ys ≤ 10 := by
      induction ys with
      | nil => exact ⟨rfl, Nat.zero_le _⟩
      | cons y ys ih =>
        obtain ⟨h1, h2⟩ := ih fun z hz => h z (List.mem_cons_of_mem _ hz)
        obtain ⟨g1, g2⟩ := h y List.mem_cons_self
        rw [PV.plains, PV.depths, g1, h1]
        exact ⟨rfl, by omega⟩
    unfold PV.fine
    rw [PV.plain, PV.depth, key.1, Bool.true_and]
    exact decide_eq_true (by omega)
  show (Res.of ((PV.lst ys).fine && (PV.lst []).fine) (Res.ok (!PV.eqv (.lst ys) (.lst [])))).bind _ = _
  rw [hf, show (PV.lst []).fine = true from rfl, Bool.and_self, rof_t]
  cases ys <;> simp [PV.eqv, PV.eqvs]
theorem fm_len (g : PV → List PV) (hg : ∀ x, (g x).length ≤ 1) : ∀ l : List PV, (l.flatMap g).length ≤ l.length
  | [] => Nat.le_refl _
  | a :: l => by
    have h1 := fm_len g hg l
    have h2 := hg a
    rw [List.flatMap_cons, List.length_append, List.length_cons]
    omega
theorem fm_empty : ∀ l : List PV, (l.flatMap fun x => if isSq x = true then [] else [x]).isEmpty = l.all isSq
  | [] => rfl
  | a :: l => by
    rw [List.flatMap_cons, List.all_cons, ← fm_empty l]
    cases hs : isSq a <;> simp
end
end Py
end

section
set_option Elab.async false
set_option linter.all false
set_option autoImplicit false
set_option maxRecDepth 100000
/-! What the laws' own texts have in common. -/
namespace Py
open PySem (Str CmpOp)

def wholeBody : List S := [(.ret (.and (.op (.isi .int) [(.bor 0)]) (.and (.not (.op (.isi .bool) [(.bor 0)])) (.chain .LtE .LtE (.var 1) (.var 0) (.var 2)))))]
theorem whole_run {F : List Fn} {k d : Nat} {cup : Option (Int × Int)} {f : Fn} (hk : F[k]? = some f) (hn : f.nargs = 3) (hs : f.nslots = 3) (hb : f.body = wholeBody) {v : PV} {a b : Int} (h : okV v = true) : callN F (d + 1) k [v, .int a, .int b] cup = .ok (.bl (inR a b v), cup) := by
  rw [callN_succ hk, runFn_eq (by rw [hn]; rfl), hb]
  simp [wholeBody, startE, hs]
  cases v with
  | int i => simp [isiV, inR]; by_cases h1 : a ≤ i <;> simp [h1]
  | cup => cases h
  | fn => cases h
  | scr => cases h
  | _ => simp [isiV, inR]
def sameBody (k : Nat) : List S := [(.ite (.op (.isi .tuple) [(.bor 1)]) [(.ite (.or (.not (.op (.isi .tuple) [(.bor 0)])) (.op (.cmp .NotEq) [(.op (.bif .len) [(.bor 0)]), (.op (.bif .len) [(.bor 1)])])) [(.ret (.lit (.bl false)))] []),
  (.ret (.op (.bif .all) [(.lc [2] (.nm 2) (.itr .range1 [(.op (.bif .len) [(.bor 1)])]) (.lit (.bl true)) (.call k [(.op .idx [(.bor 0), (.bor 2)]), (.op .idx [(.bor 1), (.bor 2)])]))]))] []),
  (.ite (.op (.cmp .Is) [(.bor 1), (.lit (.non))]) [(.ret (.op (.cmp .Is) [(.bor 0), (.lit (.non))]))] []),
  (.ite (.op (.isi .bool) [(.bor 1)]) [(.ret (.ite (.var 1) (.op (.cmp .Is) [(.bor 0), (.lit (.bl true))]) (.op (.cmp .Is) [(.bor 0), (.lit (.bl false))])))] []),
  (.ite (.op (.isi .int) [(.bor 1)]) [(.ret (.and (.op (.isi .int) [(.bor 0)]) (.and (.not (.op (.isi .bool) [(.bor 0)])) (.op (.cmp .Eq) [(.op (.bif .int) [(.bor 0)]), (.bor 1)]))))] []),
  (.ret (.and (.op (.isi .str) [(.bor 0)]) (.op (.cmp .Eq) [(.op .sub []), (.bor 1)])))]
structure SameF (F : List Fn) (k : Nat) : Prop where
  f : ∃ f, F[k]? = some f ∧ f.nargs = 2 ∧ f.nslots = 3 ∧ f.body = sameBody k
theorem same_bool {F : List Fn} {k d : Nat} {cup : Option (Int × Int)} (S : SameF F k) (x y : Bool) : callN F (d + 1) k [.bl x, .bl y] cup = .ok (.bl (x == y), cup) := by
  obtain ⟨f, hk, hn, hs, hb⟩ := S.f
  rw [callN_succ hk, runFn_eq (by rw [hn]; rfl), hb]
  simp [sameBody, startE, hs, PV.isNon]
  cases y <;> simp
/-- values that are alike themselves -/
def sameV : Nat → PV → Bool
  | _, .int _ => true
  | _, .bl _ => true
  | _, .non => true
  | n + 1, .tup xs => decide (xs.length ≤ 1000000) && xs.all (sameV n)
  | _, _ => false
theorem atI_nat {α : Type} {xs : List α} {i : Nat} (h : i < xs.length) : atI xs (i : Int) = some xs[i] := by
  unfold atI ixN
  rw [if_pos (by omega), if_pos (by omega)]
  show xs[(i : Int).toNat]? = _
  rw [Int.toNat_natCast]
  exact List.getElem?_eq_getElem h
theorem same_key {Φ : Calls} {k : Nat} {cup : Option (Int × Int)} {xs R : List PV} {L : Int} (hr : itrV .range1 [.int L] = .ok R) (hL : bifV .len [.tup xs] = .ok (.int L)) (hlen : R.length ≤ 1000000)
    (hR : ∀ x ∈ R, ∃ j y, x = .int j ∧ atI xs j = some y ∧ Φ k [y, y] cup = .ok (.bl true, cup)) :
    ev Φ (.op (.bif .all) [(.lc [2] (.nm 2) (.itr .range1 [(.op (.bif .len) [(.bor 1)])]) (.lit (.bl true)) (.call k [(.op .idx [(.bor 0), (.bor 2)]), (.op .idx [(.bor 1), (.bor 2)])]))]) ⟨[.val (.tup xs), .val (.tup xs), .unk], cup⟩ = .ok (.bl true, ⟨[.val (.tup xs), .val (.tup xs), .unk], cup⟩) := by
  have hit : ev Φ (.itr .range1 [(.op (.bif .len) [(.bor 1)])]) ⟨[.val (.tup xs), .val (.tup xs), .unk], cup⟩ = .ok (.lst R, ⟨[.val (.tup xs), .val (.tup xs), .unk], cup⟩) := by
    simp [-b_len_t, hL, hr]
  have e := all_lc (p := .nm 2) (c := .lit (.bl true)) (elt := .call k [(.op .idx [(.bor 0), (.bor 2)]), (.op .idx [(.bor 1), (.bor 2)])]) (own := [2]) (fun _ => true) hit rfl (by intro i hi p; simp at hi; subst hi; simp) hlen fun x hx => by
    obtain ⟨j, y, rfl, e1, e2⟩ := hR x hx
    refine ⟨[.val (.tup xs), .val (.tup xs), .val (.int j)], ?_, by simp [wipeE]⟩
    simp [lcTurn, wipeE, idxV, e1, e2]
  have hall : (R.all fun _ => true) = true := by rw [List.all_eq_true]; exact fun _ _ => rfl
  rw [hall] at e
  exact e
theorem z_rI {L : Int} (h0 : 0 ≤ L) (h : L ≤ 1000000) : itrV .range1 [.int L] = .ok (rng 0 L) := z_r1 (by omega) h0
theorem cast_le {n m : Nat} {M : Int} (h : n ≤ m) (e : (m : Int) = M) : (n : Int) ≤ M := e ▸ Int.ofNat_le.mpr h
theorem len_rng {n : Nat} (h : n ≤ 1000000) : itrV .range1 [.int (n : Int)] = .ok (rng 0 (n : Int)) ∧ (rng 0 (n : Int)).length ≤ 1000000 := by
  refine ⟨z_rI (Int.natCast_nonneg n) (cast_le h rfl), ?_⟩
  rw [rng_length, Int.sub_zero, Int.toNat_natCast]
  exact h
theorem rng_mem {n : Nat} {x : PV} (h : x ∈ rng 0 (n : Int)) : ∃ i : Nat, i < n ∧ x = .int (i : Int) := by
  obtain ⟨i, hi, rfl⟩ := List.mem_map.mp h
  refine ⟨i, by have := List.mem_range.mp hi; omega, ?_⟩
  rw [show (0 : Int) + (i : Int) = (i : Int) by omega]
theorem same_leaf {F : List Fn} {k : Nat} (S : SameF F k) (d : Nat) (cup : Option (Int × Int)) (v : PV) (h : sameV 0 v = true) : callN F (d + 1) k [v, v] cup = .ok (.bl true, cup) := by
  obtain ⟨f, hk, hn, hs, hb⟩ := S.f
  rw [callN_succ hk, runFn_eq (by rw [hn]; rfl), hb]
  cases v with
  | int i => simp [sameBody, startE, hs, PV.isNon]
  | bl b => simp [sameBody, startE, hs, PV.isNon]; cases b <;> simp
  | non => simp [sameBody, startE, hs, PV.isNon]
  | _ => exact nomatch h
theorem same_tup {F : List Fn} {k : Nat} (S : SameF F k) (d : Nat) (cup : Option (Int × Int)) (xs : List PV) (hl : xs.length ≤ 1000000) (h : ∀ x ∈ xs, callN F d k [x, x] cup = .ok (.bl true, cup)) : callN F (d + 1) k [.tup xs, .tup xs] cup = .ok (.bl true, cup) := by
  obtain ⟨f, hk, hn, hs, hb⟩ := S.f
  obtain ⟨hr, hrl⟩ := len_rng hl
  have key := same_key (Φ := callN F d) (k := k) (cup := cup) (xs := xs) hr rfl hrl fun x hx => by
    obtain ⟨i, hi, rfl⟩ := rng_mem hx
    exact ⟨i, xs[i], rfl, atI_nat hi, h _ (List.getElem_mem hi)⟩
  have hst : startE f [.tup xs, .tup xs] = [.val (.tup xs), .val (.tup xs), .unk] := by simp [startE, hs]
  clear hr hrl hl h
  have e1 : ev (callN F d) (.op (.isi .tuple) [(.bor 1)]) ⟨[.val (.tup xs), .val (.tup xs), .unk], cup⟩ = .ok (.bl true, ⟨[.val (.tup xs), .val (.tup xs), .unk], cup⟩) := by simp
  have e2 : ev (callN F d) (.or (.not (.op (.isi .tuple) [(.bor 0)])) (.op (.cmp .NotEq) [(.op (.bif .len) [(.bor 0)]), (.op (.bif .len) [(.bor 1)])])) ⟨[.val (.tup xs), .val (.tup xs), .unk], cup⟩ = .ok (.bl false, ⟨[.val (.tup xs), .val (.tup xs), .unk], cup⟩) := by simp
  exact fn_rt (st1 := ⟨[.val (.tup xs), .val (.tup xs), .unk], cup⟩) hk (by rw [hn]; rfl) (by
    rw [hb, hst]
    exact sq_rt ((if_t e1).trans ((sq_nx (if_n e2)).trans (sq_rt (rt_ok key)))))
theorem same_refl {F : List Fn} {k : Nat} (S : SameF F k) : ∀ (n d : Nat) (cup : Option (Int × Int)) (v : PV), sameV n v = true → callN F (d + n + 1) k [v, v] cup = .ok (.bl true, cup)
  | 0, d, cup, v, h => same_leaf S d cup v h
  | n + 1, d, cup, v, h => by
    cases v with
    | tup xs =>
      have h : (decide (xs.length ≤ 1000000) && xs.all (sameV n)) = true := h
      rw [Bool.and_eq_true, List.all_eq_true] at h
      exact same_tup S (d + (n + 1)) cup xs (of_decide_eq_true h.1) fun x hx => same_refl S n d cup x (h.2 x hx)
    | int i => exact same_leaf S (d + (n + 1)) cup _ rfl
    | bl i => exact same_leaf S (d + (n + 1)) cup _ rfl
    | non => exact same_leaf S (d + (n + 1)) cup _ rfl
    | _ => exact nomatch h
/-- the squares of a drawn dict, in order -/
theorem sqs_lc {Φ : Calls} {env : List Slot} {cu : Option (Int × Int)} {i j : Nat} {l : List ((Int × Int) × Int)} (h0 : env[i]? = some (.own (.dct (encD prK PV.int l)))) (hij : i ≠ j) (hj : j < env.length) (hc : cleanE env [j]) (hlen : l.length ≤ 1000) :
    ev Φ (.lc [j] (.nm j) (.op (.bif .sorted) [(.bor i)]) (.lit (.bl true)) (.op .add [(.bor j), (.op .tup [(.op .idx [(.bor i), (.bor j)])])])) ⟨env, cu⟩ = .ok (.lst ((sqs l).map sq), ⟨env, cu⟩) := by
  have hs : slotV env i = .ok (.dct (encD prK PV.int l)) := by unfold slotV; rw [h0]
  have hsort : ev Φ (.op (.bif .sorted) [(.bor i)]) ⟨env, cu⟩ = .ok (.lst ((srtP (l.map (·.1))).map pr), ⟨env, cu⟩) := by
    simp [hs, b_sorted_d]
  have e : (sqs l).map sq = ((srtP (l.map (·.1))).map pr).map fun x => match x with | .tup [.int a, .int b] => sq (a, b, (aget l (a, b)).getD 0) | _ => .non := by
    unfold sqs
    rw [List.map_map, List.map_map]; rfl
  rw [e]
  have hlen' : ((srtP (l.map (·.1))).map pr).length ≤ 1000 := by
    rw [List.length_map, (srtP_perm _).length_eq, List.length_map]; exact hlen
  refine lc_mp _ hsort rfl hc (by unfold LIM; omega) fun x hx => ?_
  obtain ⟨p, hp, rfl⟩ := List.mem_map.mp hx
  obtain ⟨v, hv⟩ := aget_of_key ((srtP_perm _).mem_iff.mp hp)
  refine ⟨(wipeE env [j]).set j (.val (pr p)), ?_, ?_⟩
  · have hidx : idxV cu (.dct (encD prK PV.int l)) (pr p) = .ok (.int v) := by
      show Res.of (kOk (encD prK PV.int l) (prK.enc p)) (Res.ofOpt (dget (encD prK PV.int l) (prK.enc p))) = _
      rw [kOk_enc, rof_t, dget_enc, hv]; rfl
    have hadd : addV (pr p) (.tup [.int v]) = .ok (sq (p.1, p.2, v)) := rfl
    have hj' : ((wipeE env [j]).set j (.val (pr p)))[j]? = some (.val (pr p)) := List.getElem?_set_self (by rw [wE_len]; exact hj)
    have hi' : ((wipeE env [j]).set j (.val (pr p)))[i]? = some (.own (.dct (encD prK PV.int l))) := by
      show ((env.set j .unk).set j (.val (pr p)))[i]? = _
      rw [List.set_set, List.getElem?_set_ne (Ne.symm hij), h0]
    have s1 : slotV ((wipeE env [j]).set j (.val (pr p))) j = .ok (pr p) := by unfold slotV; rw [hj']
    have s2 : slotV ((wipeE env [j]).set j (.val (pr p))) i = .ok (.dct (encD prK PV.int l)) := by unfold slotV; rw [hi']
    simp [lcTurn, s1, s2, hidx, hadd]
    show sq (p.1, p.2, v) = sq (p.1, p.2, (aget l (p.1, p.2)).getD 0)
    rw [show (p.1, p.2) = p from rfl, hv]; rfl
  · show ((env.set j .unk).set j (.val (pr p))).set j .unk = env.set j .unk
    rw [List.set_set, List.set_set]
theorem r_updD {Φ : Calls} {st st1 : St} {i : Nat} {e : E} {k0 kvs ps : List (PV × PV)} (h0 : st.env[i]? = some (.own (.dct k0))) (he : ev Φ e st = .ok (.dct ps, st1)) (hi : st1.env[i]? = some (.own (.dct kvs))) (ho : updOk kvs ps = true) (hl : fits (kvs.length + ps.length) = true) :
    ex Φ (.upd i e) st = .ok (.nx, { st1 with env := st1.env.set i (.own (.dct (dmerge kvs ps))) }) := by
  rw [ex]
  simp only [h0, he, rbind_ok, hi, ho, hl]
  rfl
theorem updOk_1 {kvs ps : List (PV × PV)} (h : ps.length ≤ 1) (hk : ∀ p ∈ ps, kOk kvs p.1 = true) : updOk kvs ps = true := by
  cases kvs with
  | nil =>
    match ps, h with
    | [], _ => rfl
    | [_], _ => rfl
  | cons q r =>
    have e : updOk (q :: r) ps = ps.all fun p => kOk (q :: r) p.1 := by
      cases ps with
      | nil => rfl
      | cons a b => rfl
    rw [e, List.all_eq_true]
    exact hk
theorem r_appL {Φ : Calls} {st st1 : St} {i : Nat} {e : E} {x : PV} {ys xs : List PV} (h0 : st.env[i]? = some (.own (.lst ys))) (he : ev Φ e st = .ok (x, st1)) (hi : st1.env[i]? = some (.own (.lst xs))) (hl : fitsL xs.length = true) :
    ex Φ (.app i e) st = .ok (.nx, { st1 with env := st1.env.set i (.own (.lst (xs ++ [x]))) }) := by
  rw [ex]
  simp only [h0, he, rbind_ok, hi, hl]
  rfl
theorem map_ints : ∀ {ys : List PV} {m : Int}, (∀ y ∈ ys, ∃ k : Int, y = .int k ∧ 0 ≤ k ∧ k < m) → ∃ ks : List Int, ys = ks.map PV.int ∧ ∀ k ∈ ks, 0 ≤ k ∧ k < m
  | [], m, _ => ⟨[], rfl, fun _ h => nomatch h⟩
  | y :: ys, m, h => by
    obtain ⟨k, rfl, hk⟩ := h y List.mem_cons_self
    obtain ⟨ks, rfl, hks⟩ := map_ints (m := m) fun z hz => h z (List.mem_cons_of_mem _ hz)
    exact ⟨k :: ks, rfl, fun q hq => by
      rcases List.mem_cons.mp hq with rfl | hq
      · exact hk
      · exact hks q hq⟩
/-- numbers drawn in a row -/
theorem lc_roll {F : List Fn} {kr d : Nat} (R : RollOk F kr) {it : E} {env : List Slot} {c : Option (Int × Int)} {v : PV} {xs : List PV} {j : Nat} {m : Int} (hm : small m = true) (hit : ev (callN F (d + 1)) it ⟨env, c⟩ = .ok (v, ⟨env, c⟩)) (hl : ltOf v = some xs) (h0 : env[0]? = some (.val .cup)) (hj : j ≠ 0) (hc : cleanE env [j]) (hlen : xs.length ≤ 1000) (hcu : CupO c) :
    ∃ (ks : List Int) (c' : Option (Int × Int)), CupO c' ∧ ks.length = xs.length ∧ (∀ k ∈ ks, 0 ≤ k ∧ k < m) ∧ ev (callN F (d + 1)) (.lc [j] (.nm j) it (.lit (.bl true)) (.call kr [(.var 0), (.lit (.int m))])) ⟨env, c⟩ = .ok (.lst (ks.map PV.int), ⟨env, c'⟩) := by
  obtain ⟨ys, s', e, hl2, hP, i1, i2⟩ := lc_rel (turn := lcTurn (callN F (d + 1)) [j] (.nm j) (.lit (.bl true)) (.call kr [(.var 0), (.lit (.int m))])) (xs := xs) (fun s => wipeE s.env [j] = wipeE env [j] ∧ CupO s.cup) (fun _ y => ∃ k : Int, y = .int k ∧ 0 ≤ k ∧ k < m) (st := ⟨env, c⟩) ⟨rfl, hcu⟩ fun x hx s ⟨i1, i2⟩ => by
    obtain ⟨r, c', hc', r0, r1, e1⟩ := R d m s.cup hm i2
    refine ⟨.int r, ⟨(wipeE env [j]).set j (.val x), c'⟩, ?_, ⟨r, rfl, r0, r1⟩, ?_, hc'⟩
    · have hv : ((wipeE env [j]).set j (.val x))[0]? = some (.val .cup) := by
        show ((env.set j .unk).set j (.val x))[0]? = _
        rw [List.set_set, List.getElem?_set_ne hj, h0]
      unfold lcTurn
      rw [i1, bindP_nm, rbind_ok, r_lit, rbind_ok, ifB_bl, if_pos rfl]
      rw [ca_2 (st := ⟨(wipeE env [j]).set j (.val x), s.cup⟩) (va_ok hv) (r_lit _) e1]
      rfl
    · show ((env.set j .unk).set j (.val x)).set j .unk = env.set j .unk
      rw [List.set_set, List.set_set]
  obtain ⟨ks, rfl, hk⟩ := map_ints fun y hy => let ⟨_, _, z⟩ := hP y hy; z
  refine ⟨ks, s'.cup, i2, by rw [← hl2, List.length_map], hk, ?_⟩
  rw [r_lc, hit, rbind_ok, hl, rofOpt_s, rbind_ok, e, rbind_ok, fits_k (by rw [hl2]; omega), rof_t]
  show Res.ok (PV.lst _, ({ s' with env := backE env s'.env [j] } : St)) = _
  rw [back_same i1 hc]
end Py
end

section
set_option Elab.async false
set_option linter.all false
set_option autoImplicit false
set_option maxRecDepth 100000
/-! The laws' grown figures. -/
namespace Py
open PySem (Str CmpOp)

def sidesOf (k : Int) : List Int := if k = 1 then [0, 3] else if k = 2 then [0, 1] else if k = 3 then [1, 2] else if k = 4 then [2, 3] else if k = 5 then [0, 1, 2, 3] else []
theorem kinds5 {k : Int} (h : 1 ≤ k ∧ k ≤ 5) : k = 1 ∨ k = 2 ∨ k = 3 ∨ k = 4 ∨ k = 5 := by omega
theorem sides4 {s : Int} (h : 0 ≤ s ∧ s ≤ 3) : s = 0 ∨ s = 1 ∨ s = 2 ∨ s = 3 := by omega
theorem sidesOf_rng {k : Int} (hk : 1 ≤ k ∧ k ≤ 5) : ∀ s ∈ sidesOf k, 0 ≤ s ∧ s ≤ 3 := by
  rcases kinds5 hk with rfl | rfl | rfl | rfl | rfl <;> decide
theorem sidesOf_len {k : Int} (hk : 1 ≤ k ∧ k ≤ 5) : (sidesOf k).length ≤ 4 := by
  rcases kinds5 hk with rfl | rfl | rfl | rfl | rfl <;> decide
def sidesE : E := (.op .idx [(.op .lst [(.op .lst []), (.op .lst [(.lit (.int 0)), (.lit (.int 3))]), (.op .lst [(.lit (.int 0)), (.lit (.int 1))]), (.op .lst [(.lit (.int 1)), (.lit (.int 2))]), (.op .lst [(.lit (.int 2)), (.lit (.int 3))]), (.op .lst [(.lit (.int 0)), (.lit (.int 1)), (.lit (.int 2)), (.lit (.int 3))])]), (.bor 0)])
def SidesOk (F : List Fn) (k : Nat) : Prop := ∃ f, F[k]? = some f ∧ f.nargs = 1 ∧ f.nslots = 1 ∧ f.body = [.ret sidesE]
theorem sides_run {F : List Fn} {k : Nat} (S : SidesOk F k) (d : Nat) (c : Option (Int × Int)) {n : Int} (hn : 1 ≤ n ∧ n ≤ 5) : callN F (d + 1) k [.int n] c = .ok (.lst ((sidesOf n).map .int), c) := by
  obtain ⟨f, hk, ha, hs, hb⟩ := S
  have hst : startE f [.int n] = [.val (.int n)] := by simp [startE, hs]
  have kr : ev (callN F d) sidesE ⟨[.val (.int n)], c⟩ = .ok (.lst ((sidesOf n).map .int), ⟨[.val (.int n)], c⟩) := by
    rcases kinds5 hn with rfl | rfl | rfl | rfl | rfl <;> simp [sidesE, idxV, atI, ixN, sidesOf]
  exact fn_rt (st1 := ⟨[.val (.int n)], c⟩) hk (by rw [ha]; rfl) (by rw [hb, hst]; exact sq_rt (rt_ok kr))
/-- the place beyond a side -/
def bey (p : Int × Int) (s : Int) : Int × Int := if s = 0 then (p.1, p.2 - 1) else if s = 1 then (p.1 + 1, p.2) else if s = 2 then (p.1, p.2 + 1) else (p.1 - 1, p.2)
def beyE1 : E := (.op .idx [(.op .lst [(.op .tup [(.lit (.int 0)), (.op .neg [(.lit (.int 1))])]), (.op .tup [(.lit (.int 1)), (.lit (.int 0))]), (.op .tup [(.lit (.int 0)), (.lit (.int 1))]), (.op .tup [(.op .neg [(.lit (.int 1))]), (.lit (.int 0))])]), (.bor 1)])
def beyE2 : E := (.op .tup [(.op .add [(.op .idx [(.bor 0), (.lit (.int 0))]), (.bor 2)]), (.op .add [(.op .idx [(.bor 0), (.lit (.int 1))]), (.bor 3)])])
def BeyOk (F : List Fn) (k : Nat) : Prop := ∃ f, F[k]? = some f ∧ f.nargs = 2 ∧ f.nslots = 4 ∧ f.body = [.asg (.tup [.nm 2, .nm 3]) beyE1, .ret beyE2]
theorem bey_run {F : List Fn} {k : Nat} (S : BeyOk F k) (d : Nat) (c : Option (Int × Int)) (p : Int × Int) {s : Int} (hs : 0 ≤ s ∧ s ≤ 3) : callN F (d + 1) k [pr p, .int s] c = .ok (pr (bey p s), c) := by
  obtain ⟨f, hk, ha, hn, hb⟩ := S
  have hst : startE f [pr p, .int s] = [.val (pr p), .val (.int s), .unk, .unk] := by simp [startE, hn]
  obtain ⟨dx, dy, e1, e2⟩ : ∃ dx dy : Int, ev (callN F d) beyE1 ⟨[.val (pr p), .val (.int s), .unk, .unk], c⟩ = .ok (.tup [.int dx, .int dy], ⟨[.val (pr p), .val (.int s), .unk, .unk], c⟩) ∧ bey p s = (p.1 + dx, p.2 + dy) := by
    rcases sides4 hs with rfl | rfl | rfl | rfl
    · exact ⟨0, -1, by simp [beyE1, idxV, atI, ixN], by simp [bey]; omega⟩
    · exact ⟨1, 0, by simp [beyE1, idxV, atI, ixN], by simp [bey]⟩
    · exact ⟨0, 1, by simp [beyE1, idxV, atI, ixN], by simp [bey]⟩
    · exact ⟨-1, 0, by simp [beyE1, idxV, atI, ixN], by simp [bey]; omega⟩
  rw [e2]
  have kP : bindP (.tup [.nm 2, .nm 3]) (.tup [.int dx, .int dy]) [.val (pr p), .val (.int s), .unk, .unk] = .ok [.val (pr p), .val (.int s), .val (.int dx), .val (.int dy)] := by simp
  have kr : ev (callN F d) beyE2 ⟨[.val (pr p), .val (.int s), .val (.int dx), .val (.int dy)], c⟩ = .ok (pr (p.1 + dx, p.2 + dy), ⟨[.val (pr p), .val (.int s), .val (.int dx), .val (.int dy)], c⟩) := by
    simp [beyE2, pr, idxV, atI, ixN, addV]
  exact fn_rt (st1 := ⟨[.val (pr p), .val (.int s), .val (.int dx), .val (.int dy)], c⟩) hk (by rw [ha]; rfl) (by rw [hb, hst]; exact (sq_nx (as_p e1 kP)).trans (sq_rt (rt_ok kr)))
/-! ### growing -/
def grE0 (ks : Nat) : E := (.op .dct [(.op .tup [(.lit (.int 0)), (.lit (.int 0))]), (.call ks [(.var 0), (.op .lst [(.lit (.int 1)), (.lit (.int 2)), (.lit (.int 3)), (.lit (.int 4)), (.lit (.int 5)), (.lit (.int 5))])])])
def grIn (kb : Nat) : List S := [(.asg (.nm 7) (.call kb [(.var 5), (.var 6)])),
  (.asg (.nm 4) (.op .add [(.bor 4), (.ite (.op (.cmp .NotIn) [(.bor 7), (.bor 2)]) (.op .lst [(.op .tup [(.var 7), (.var 6)])]) (.op .lst []))]))]
def grMid (kd kb : Nat) : List S := [.for (.nm 6) (.call kd [(.op .idx [(.bor 2), (.bor 5)])]) (grIn kb)]
def grK (kd : Nat) : E := (.lc [8] (.nm 8) (.op .tup [(.lit (.int 1)), (.lit (.int 2)), (.lit (.int 3)), (.lit (.int 4)), (.lit (.int 5))]) (.op (.cmp .In) [(.op .mod [(.op .add [(.bor 6), (.lit (.int 2))]), (.lit (.int 4))]), (.call kd [(.var 8)])]) (.var 8))
def grPut (ks kd : Nat) : List S := [(.asg (.tup [(.nm 7), (.nm 6)]) (.call ks [(.var 0), (.var 4)])), (.setx 2 (.var 7) (.call ks [(.var 0), grK kd]))]
def grTurn (ks kd kb : Nat) : List S := [(.asg (.nm 4) (.op .lst [])), (.for (.nm 5) (.op (.bif .sorted) [(.bor 2)]) (grMid kd kb)), (.ite (.op (.cmp .NotEq) [(.bor 4), (.op .lst [])]) (grPut ks kd) [])]
def grBody (kr ks kd kb : Nat) : List S := [.asgo 2 (grE0 ks), .for (.nm 3) (.itr .range1 [(.call kr [(.var 0), (.var 1)])]) (grTurn ks kd kb),
  .ret (.op (.bif .tuple) [(.lc [5] (.nm 5) (.op (.bif .sorted) [(.bor 2)]) (.lit (.bl true)) (.op .add [(.bor 5), (.op .tup [(.op .idx [(.bor 2), (.bor 5)])])]))])]
/-- a figure's dict: places not far off, kinds -/
structure GrD (n : Nat) (l : List ((Int × Int) × Int)) : Prop where
  nd : (l.map (·.1)).Nodup
  all : ∀ e ∈ l, ((-(n : Int) ≤ e.1.1 ∧ e.1.1 ≤ n) ∧ (-(n : Int) ≤ e.1.2 ∧ e.1.2 ≤ n)) ∧ (1 ≤ e.2 ∧ e.2 ≤ 5)
  len : l.length ≤ n + 1
/-- a grown figure -/
structure GrR (n : Nat) (ts : List (Int × Int × Int)) : Prop where
  rise : riseB (plc ts) = true
  rng : ∀ t ∈ ts, (-(n : Int) ≤ t.1 ∧ t.1 ≤ n) ∧ (-(n : Int) ≤ t.2.1 ∧ t.2.1 ≤ n) ∧ (1 ≤ t.2.2 ∧ t.2.2 ≤ 5)
  len : ts.length ≤ n + 1
theorem grR_of {n : Nat} {l : List ((Int × Int) × Int)} (h : GrD n l) : GrR n (sqs l) := by
  refine ⟨?_, fun t ht => ?_, ?_⟩
  · rw [sqs_plc, riseB_iff]; exact srtP_strict h.nd
  · obtain ⟨p, hp, rfl⟩ := List.mem_map.mp ht
    obtain ⟨x, hx⟩ := aget_of_key ((srtP_perm _).mem_iff.mp hp)
    have := h.all _ (aget_mem hx)
    rw [hx]
    exact ⟨this.1.1, this.1.2, this.2⟩
  · unfold sqs
    rw [List.length_map, (srtP_perm _).length_eq, List.length_map]; exact h.len
/-- a place beside, with the side that leads there -/
def encR (r : (Int × Int) × Int) : PV := .tup [pr r.1, .int r.2]
/-- figures that grow square by square over sides -/
inductive Grw : List ((Int × Int) × Int) → Prop
  | one (k : Int) : 1 ≤ k ∧ k ≤ 5 → Grw [((0, 0), k)]
  | step (l : List ((Int × Int) × Int)) (p : Int × Int) (k s j : Int) : Grw l → aget l p = some k → s ∈ sidesOf k → ahas l (bey p s) = false → (s + 2) % 4 ∈ sidesOf j → Grw (aset l (bey p s) j)
/-- a row's place is beyond a side of a square, and free -/
def RowL (l : List ((Int × Int) × Int)) (r : (Int × Int) × Int) : Prop := ∃ p k, aget l p = some k ∧ r.2 ∈ sidesOf k ∧ r.1 = bey p r.2 ∧ ahas l r.1 = false
def RowsOk (l : List ((Int × Int) × Int)) (n : Nat) (R : List ((Int × Int) × Int)) : Prop := ∀ r ∈ R, ((((-(n : Int) ≤ r.1.1 ∧ r.1.1 ≤ n) ∧ (-(n : Int) ≤ r.1.2 ∧ r.1.2 ≤ n)) ∧ (0 ≤ r.2 ∧ r.2 ≤ 3)) ∧ RowL l r)
theorem bey_rng {n : Nat} {p : Int × Int} {s : Int} (h : (-(n : Int) ≤ p.1 ∧ p.1 ≤ n) ∧ (-(n : Int) ≤ p.2 ∧ p.2 ≤ n)) : (-((n + 1 : Nat) : Int) ≤ (bey p s).1 ∧ (bey p s).1 ≤ ((n + 1 : Nat) : Int)) ∧ (-((n + 1 : Nat) : Int) ≤ (bey p s).2 ∧ (bey p s).2 ≤ ((n + 1 : Nat) : Int)) := by
  unfold bey
  split
  · simp only; omega
  split
  · simp only; omega
  split <;> (simp only; omega)
theorem c_nin_d (l : List ((Int × Int) × Int)) (p : Int × Int) : cmpV .NotIn (pr p) (.dct (encD prK PV.int l)) = .ok (.bl (!ahas l p)) := by
  show ((Res.of (kOk (encD prK PV.int l) (prK.enc p)) (Res.ok (dhas (encD prK PV.int l) (prK.enc p)))).bind fun b => Res.ok (!b)).bind _ = _
  rw [kOk_enc, dhas_enc]; rfl
theorem encR_fine (R : List ((Int × Int) × Int)) : ∀ y ∈ R.map encR, y.plain = true ∧ y.depth ≤ 10 := fun y hy => by
  obtain ⟨r, _, rfl⟩ := List.mem_map.mp hy
  exact ⟨by simp [encR, pr, PV.plain, PV.plains], by simp [encR, pr, PV.depth, PV.depths]⟩
section
variable {F : List Fn} {kr ks kd kb d : Nat}
/-- kinds that have the side over there -/
theorem grK_run (S : SidesOk F kd) {env : List Slot} {c : Option (Int × Int)} {s : Int} (hs : 0 ≤ s ∧ s ≤ 3) (h6 : env[6]? = some (.val (.int s))) (h8 : 8 < env.length) (hc : cleanE env [8]) :
    ∃ K : List Int, K ≠ [] ∧ K.length ≤ 5 ∧ (∀ k ∈ K, (1 ≤ k ∧ k ≤ 5) ∧ (s + 2) % 4 ∈ sidesOf k) ∧ ev (callN F (d + 1)) (grK kd) ⟨env, c⟩ = .ok (.lst (K.map .int), ⟨env, c⟩) := by
  let G : PV → List PV := fun x => match x with
    | .int k => if ((sidesOf k).any fun y => decide (y = (s + 2) % 4)) = true then [.int k] else []
    | _ => []
  have hr := fun (k : Int) (hk : 1 ≤ k ∧ k ≤ 5) => sides_run S d c hk
  have hin : ∀ k : Int, cmpV .In (.int ((s + 2) % 4)) (.lst ((sidesOf k).map .int)) = .ok (.bl ((sidesOf k).any fun y => decide (y = (s + 2) % 4))) := fun k => by
    show ((Res.of (((sidesOf k).map PV.int).all PV.fine && (PV.int ((s + 2) % 4)).fine) (Res.ok (((sidesOf k).map PV.int).any fun z => z.eqv (.int ((s + 2) % 4)))))).bind _ = _
    rw [show ((sidesOf k).map PV.int).all PV.fine = true from by rw [List.all_map, List.all_eq_true]; exact fun _ _ => rfl, fine_int, List.any_map]
    rfl
  have e : ev (callN F (d + 1)) (grK kd) ⟨env, c⟩ = .ok (.lst ([PV.int 1, .int 2, .int 3, .int 4, .int 5].flatMap G), ⟨env, c⟩) := by
    refine lc_fm G (v := .tup [PV.int 1, .int 2, .int 3, .int 4, .int 5]) (by simp) rfl hc (Nat.le_trans (fm_len G (fun x => by
      show (match x with | .int k => if ((sidesOf k).any fun y => decide (y = (s + 2) % 4)) = true then [PV.int k] else [] | _ => []).length ≤ 1
      split
      · split <;> simp
      · simp) _) (by unfold LIM; simp)) fun x hx => ?_
    have hx' : ∃ k : Int, x = .int k ∧ 1 ≤ k ∧ k ≤ 5 := by
      simp only [List.mem_cons, List.not_mem_nil, or_false] at hx
      rcases hx with rfl | rfl | rfl | rfl | rfl <;> exact ⟨_, rfl, by omega, by omega⟩
    obtain ⟨k, rfl, hk⟩ := hx'
    have g8 : ((wipeE env [8]).set 8 (.val (.int k)))[8]? = some (.val (.int k)) := List.getElem?_set_self (by rw [wE_len]; exact h8)
    have g6 : ((wipeE env [8]).set 8 (.val (.int k)))[6]? = some (.val (.int s)) := by
      show ((env.set 8 .unk).set 8 (.val (.int k)))[6]? = _
      rw [List.set_set, List.getElem?_set_ne (by decide), h6]
    have hcall := hr k hk
    refine ⟨(wipeE env [8]).set 8 (.val (.int k)), ?_, by show ((env.set 8 .unk).set 8 (.val (.int k))).set 8 .unk = env.set 8 .unk; rw [List.set_set, List.set_set]⟩
    have k1 := ca_1 (st := ⟨(wipeE env [8]).set 8 (.val (.int k)), c⟩) (va_ok g8) hcall
    have s6 : slotV ((wipeE env [8]).set 8 (.val (.int k))) 6 = .ok (.int s) := by unfold slotV; rw [g6]
    have k2 : ev (callN F (d + 1)) (.op .mod [(.op .add [(.bor 6), (.lit (.int 2))]), (.lit (.int 4))]) ⟨(wipeE env [8]).set 8 (.val (.int k)), c⟩ = .ok (.int ((s + 2) % 4), ⟨(wipeE env [8]).set 8 (.val (.int k)), c⟩) := by
      simp [s6]
    have k3 : ev (callN F (d + 1)) (.op (.cmp .In) [(.op .mod [(.op .add [(.bor 6), (.lit (.int 2))]), (.lit (.int 4))]), (.call kd [(.var 8)])]) ⟨(wipeE env [8]).set 8 (.val (.int k)), c⟩ = .ok (.bl ((sidesOf k).any fun y => decide (y = (s + 2) % 4)), ⟨(wipeE env [8]).set 8 (.val (.int k)), c⟩) := by
      rw [r_op, r_evs, k2, rbind_ok, r_evs, k1, rbind_ok, r_evs0, rbind_ok, rbind_ok, rbind_ok]
      show (Res.ok _).bind _ = _
      rw [rbind_ok, o_cmp, hin]; rfl
    unfold lcTurn
    rw [bindP_nm, rbind_ok, k3, rbind_ok]
    show ifB _ _ _ = Res.ok (G (.int k), _)
    rw [ifB_bl]
    show _ = Res.ok (if ((sidesOf k).any fun y => decide (y = (s + 2) % 4)) = true then [PV.int k] else [], _)
    split
    · rw [va_ok g8]; rfl
    · rfl
  have hK : ∃ K : List Int, K ≠ [] ∧ K.length ≤ 5 ∧ (∀ k ∈ K, (1 ≤ k ∧ k ≤ 5) ∧ (s + 2) % 4 ∈ sidesOf k) ∧ [PV.int 1, .int 2, .int 3, .int 4, .int 5].flatMap G = K.map .int := by
    rcases sides4 hs with rfl | rfl | rfl | rfl
    · exact ⟨[3, 4, 5], by decide, by decide, by decide, by simp [G, sidesOf]⟩
    · exact ⟨[1, 4, 5], by decide, by decide, by decide, by simp [G, sidesOf]⟩
    · exact ⟨[1, 2, 5], by decide, by decide, by decide, by simp [G, sidesOf]⟩
    · exact ⟨[2, 3, 5], by decide, by decide, by decide, by simp [G, sidesOf]⟩
  obtain ⟨K, h1, h2, h3, h4⟩ := hK
  rw [h4] at e
  exact ⟨K, h1, h2, h3, e⟩
/-- the state within a turn: the dict, the rows so far -/
def StG (n m : Nat) (l : List ((Int × Int) × Int)) (s3 s5 : Slot) (st : St) : Prop := ∃ R s6 s7 c, st = ⟨[.val .cup, .val (.int (m : Int)), .own (.dct (encD prK PV.int l)), s3, .val (.lst (R.map encR)), s5, s6, s7, .unk], c⟩ ∧ RowsOk l (n + 1) R ∧ CupO c
theorem grIn_run (B : BeyOk F kb) {n m : Nat} {l : List ((Int × Int) × Int)} {s3 : Slot} {p : Int × Int} (hp : (-(n : Int) ≤ p.1 ∧ p.1 ≤ n) ∧ (-(n : Int) ≤ p.2 ∧ p.2 ≤ n)) {s : Int} (hs : 0 ≤ s ∧ s ≤ 3) (hks : ∃ k, aget l p = some k ∧ s ∈ sidesOf k) {R : List ((Int × Int) × Int)} (hR : RowsOk l (n + 1) R) (hRl : R.length ≤ 1000) {s6 s7 : Slot} {c : Option (Int × Int)} :
    ∃ R', RowsOk l (n + 1) R' ∧ R'.length ≤ R.length + 1 ∧ forTurn (callN F (d + 1)) (.nm 6) (grIn kb) (.int s) ⟨[.val .cup, .val (.int (m : Int)), .own (.dct (encD prK PV.int l)), s3, .val (.lst (R.map encR)), .val (pr p), s6, s7, .unk], c⟩ =
      .ok (.nx, ⟨[.val .cup, .val (.int (m : Int)), .own (.dct (encD prK PV.int l)), s3, .val (.lst (R'.map encR)), .val (pr p), .val (.int s), .val (pr (bey p s)), .unk], c⟩) := by
  have k1 : ev (callN F (d + 1)) (.call kb [(.var 5), (.var 6)]) ⟨[.val .cup, .val (.int (m : Int)), .own (.dct (encD prK PV.int l)), s3, .val (.lst (R.map encR)), .val (pr p), .val (.int s), s7, .unk], c⟩ = .ok (pr (bey p s), ⟨[.val .cup, .val (.int (m : Int)), .own (.dct (encD prK PV.int l)), s3, .val (.lst (R.map encR)), .val (pr p), .val (.int s), s7, .unk], c⟩) := ca_2 (va_ok rfl) (va_ok rfl) (bey_run B d c p hs)
  have kc : ev (callN F (d + 1)) (.op (.cmp .NotIn) [(.bor 7), (.bor 2)]) ⟨[.val .cup, .val (.int (m : Int)), .own (.dct (encD prK PV.int l)), s3, .val (.lst (R.map encR)), .val (pr p), .val (.int s), .val (pr (bey p s)), .unk], c⟩ = .ok (.bl (!ahas l (bey p s)), ⟨[.val .cup, .val (.int (m : Int)), .own (.dct (encD prK PV.int l)), s3, .val (.lst (R.map encR)), .val (pr p), .val (.int s), .val (pr (bey p s)), .unk], c⟩) := by
    have e := c_nin_d l (bey p s)
    generalize encD prK PV.int l = D at *
    simp [e]
  have hlen : (R.map encR).length = R.length := List.length_map ..
  have go : ∀ Q : List PV, (R.map encR).length + Q.length ≤ 100000 → ev (callN F (d + 1)) (.ite (.op (.cmp .NotIn) [(.bor 7), (.bor 2)]) (.op .lst [(.op .tup [(.var 7), (.var 6)])]) (.op .lst [])) ⟨[.val .cup, .val (.int (m : Int)), .own (.dct (encD prK PV.int l)), s3, .val (.lst (R.map encR)), .val (pr p), .val (.int s), .val (pr (bey p s)), .unk], c⟩ = .ok (.lst Q, ⟨[.val .cup, .val (.int (m : Int)), .own (.dct (encD prK PV.int l)), s3, .val (.lst (R.map encR)), .val (pr p), .val (.int s), .val (pr (bey p s)), .unk], c⟩) →
      forTurn (callN F (d + 1)) (.nm 6) (grIn kb) (.int s) ⟨[.val .cup, .val (.int (m : Int)), .own (.dct (encD prK PV.int l)), s3, .val (.lst (R.map encR)), .val (pr p), s6, s7, .unk], c⟩ = .ok (.nx, ⟨[.val .cup, .val (.int (m : Int)), .own (.dct (encD prK PV.int l)), s3, .val (.lst (R.map encR ++ Q)), .val (pr p), .val (.int s), .val (pr (bey p s)), .unk], c⟩) := fun Q hQ hq => by
    have k2 : ev (callN F (d + 1)) (.op .add [(.bor 4), (.ite (.op (.cmp .NotIn) [(.bor 7), (.bor 2)]) (.op .lst [(.op .tup [(.var 7), (.var 6)])]) (.op .lst []))]) ⟨[.val .cup, .val (.int (m : Int)), .own (.dct (encD prK PV.int l)), s3, .val (.lst (R.map encR)), .val (pr p), .val (.int s), .val (pr (bey p s)), .unk], c⟩ = .ok (.lst (R.map encR ++ Q), ⟨[.val .cup, .val (.int (m : Int)), .own (.dct (encD prK PV.int l)), s3, .val (.lst (R.map encR)), .val (pr p), .val (.int s), .val (pr (bey p s)), .unk], c⟩) := by
      rw [r_op, r_evs, bo_ok rfl, rbind_ok, r_evs, hq, rbind_ok, r_evs0, rbind_ok, rbind_ok, rbind_ok]
      show (Res.ok _).bind _ = _
      rw [rbind_ok, o_add]
      show (Res.of (fits ((R.map encR).length + Q.length)) _).bind _ = _
      rw [fits_k (by omega)]; rfl
    rw [ft_nm]
    exact (sq_nx (as_nm k1)).trans ((sq_nx (as_nm k2)).trans r_exs0)
  by_cases hh : ahas l (bey p s) = true
  · rw [hh] at kc
    have e := go [] (by rw [hlen]; simp; omega) (ie_f kc (by simp))
    rw [List.append_nil] at e
    exact ⟨R, hR, Nat.le_succ _, e⟩
  · have hf : ahas l (bey p s) = false := by simpa using hh
    rw [hf] at kc
    refine ⟨R ++ [(bey p s, s)], fun r hr => ?_, by simp, ?_⟩
    · rcases List.mem_append.mp hr with hr | hr
      · exact hR r hr
      · rw [List.mem_singleton.mp hr]; obtain ⟨k, g1, g2⟩ := hks; exact ⟨⟨bey_rng hp, hs⟩, p, k, g1, g2, rfl, hf⟩
    · rw [List.map_append]
      exact go [encR (bey p s, s)] (by rw [hlen]; simp; omega) (ie_t kc (by simp [encR]))
theorem idx_d {cu : Option (Int × Int)} {l : List ((Int × Int) × Int)} {p : Int × Int} {k : Int} (h : aget l p = some k) : idxV cu (.dct (encD prK PV.int l)) (pr p) = .ok (.int k) := by
  show Res.of (kOk (encD prK PV.int l) (prK.enc p)) (Res.ofOpt (dget (encD prK PV.int l) (prK.enc p))) = _
  rw [kOk_enc, rof_t, dget_enc, h]; rfl
theorem grMid_run (S : SidesOk F kd) (B : BeyOk F kb) {n m : Nat} {l : List ((Int × Int) × Int)} (hD : GrD n l) {s3 : Slot} {p : Int × Int} (hp : p ∈ l.map (·.1)) {R : List ((Int × Int) × Int)} (hR : RowsOk l (n + 1) R) (hRl : R.length ≤ 900) {s5 s6 s7 : Slot} {c : Option (Int × Int)} :
    ∃ R' t6 t7, RowsOk l (n + 1) R' ∧ R'.length ≤ R.length + 4 ∧ forTurn (callN F (d + 1)) (.nm 5) (grMid kd kb) (pr p) ⟨[.val .cup, .val (.int (m : Int)), .own (.dct (encD prK PV.int l)), s3, .val (.lst (R.map encR)), s5, s6, s7, .unk], c⟩ =
      .ok (.nx, ⟨[.val .cup, .val (.int (m : Int)), .own (.dct (encD prK PV.int l)), s3, .val (.lst (R'.map encR)), .val (pr p), t6, t7, .unk], c⟩) := by
  obtain ⟨k, hk⟩ := aget_of_key hp
  have hke := hD.all _ (aget_mem hk)
  have hs : (sidesOf k).length ≤ 4 := sidesOf_len hke.2
  have kc : ev (callN F (d + 1)) (.call kd [(.op .idx [(.bor 2), (.bor 5)])]) ⟨[.val .cup, .val (.int (m : Int)), .own (.dct (encD prK PV.int l)), s3, .val (.lst (R.map encR)), .val (pr p), s6, s7, .unk], c⟩ = .ok (.lst ((sidesOf k).map .int), ⟨[.val .cup, .val (.int (m : Int)), .own (.dct (encD prK PV.int l)), s3, .val (.lst (R.map encR)), .val (pr p), s6, s7, .unk], c⟩) := by
    refine ca_1 (st1 := ⟨[.val .cup, .val (.int (m : Int)), .own (.dct (encD prK PV.int l)), s3, .val (.lst (R.map encR)), .val (pr p), s6, s7, .unk], c⟩) ?_ (sides_run S d c hke.2)
    have e := idx_d (cu := c) hk
    generalize encD prK PV.int l = D at *
    simp [e]
  obtain ⟨st', loop, R', t6, t7, rfl, hR', hl'⟩ := for_ix (turn := forTurn (callN F (d + 1)) (.nm 6) (grIn kb)) (xs := (sidesOf k).map .int) 0 (fun i st => ∃ R' t6 t7, st = ⟨[.val .cup, .val (.int (m : Int)), .own (.dct (encD prK PV.int l)), s3, .val (.lst (R'.map encR)), .val (pr p), t6, t7, .unk], c⟩ ∧ RowsOk l (n + 1) R' ∧ R'.length ≤ R.length + i)
    (st := ⟨[.val .cup, .val (.int (m : Int)), .own (.dct (encD prK PV.int l)), s3, .val (.lst (R.map encR)), .val (pr p), s6, s7, .unk], c⟩) ⟨R, s6, s7, rfl, hR, Nat.le_refl _⟩ fun i x st hx ⟨R1, t6, t7, es, h1, h2⟩ => by
      subst es
      obtain ⟨y, hy, rfl⟩ := List.mem_map.mp (List.mem_of_getElem? hx)
      have hi : i < 4 := by
        have := (List.getElem?_eq_some_iff.mp hx).1
        rw [List.length_map] at this; omega
      obtain ⟨R2, g1, g2, g3⟩ := grIn_run (d := d) B (m := m) (l := l) (s3 := s3) hke.1 (sidesOf_rng hke.2 y hy) ⟨k, hk, hy⟩ h1 (by omega) (s6 := t6) (s7 := t7) (c := c)
      exact ⟨_, g3, R2, _, _, rfl, g1, by omega⟩
  rw [List.length_map] at hl'
  refine ⟨R', t6, t7, hR', by omega, ?_⟩
  rw [ft_nm]
  exact (sq_nx (fr_ok kc rfl loop)).trans r_exs0
theorem grTurn_run {ks : Nat} {fs : Fn} (hks : F[ks]? = some fs) (hsn : fs.nargs = 2) (hss : fs.nslots = 2) (hsb : fs.body = someBody kr) (Ro : RollOk F kr) (S : SidesOk F kd) (B : BeyOk F kb) {n m : Nat} (hm : n ≤ 100) {l : List ((Int × Int) × Int)} (hD : GrD n l) (hw : Grw l) {x : PV} {s3 s4 s5 s6 s7 : Slot} {c : Option (Int × Int)} (hc : CupO c) (h5 : ∀ v, s5 ≠ .own v) :
    ∃ l' t4 t5 t6 t7 c', (GrD (n + 1) l' ∧ Grw l') ∧ CupO c' ∧ (∀ v, t5 ≠ .own v) ∧ forTurn (callN F (d + 2)) (.nm 3) (grTurn ks kd kb) x ⟨[.val .cup, .val (.int (m : Int)), .own (.dct (encD prK PV.int l)), s3, s4, s5, s6, s7, .unk], c⟩ =
      .ok (.nx, ⟨[.val .cup, .val (.int (m : Int)), .own (.dct (encD prK PV.int l')), .val x, t4, t5, t6, t7, .unk], c'⟩) := by
  have hsort : ev (callN F (d + 2)) (.op (.bif .sorted) [(.bor 2)]) ⟨[.val .cup, .val (.int (m : Int)), .own (.dct (encD prK PV.int l)), .val x, .val (.lst []), s5, s6, s7, .unk], c⟩ = .ok (.lst ((srtP (l.map (·.1))).map pr), ⟨[.val .cup, .val (.int (m : Int)), .own (.dct (encD prK PV.int l)), .val x, .val (.lst []), s5, s6, s7, .unk], c⟩) := by
    simp [b_sorted_d]
  have hsl : (srtP (l.map (·.1))).length ≤ n + 1 := by rw [(srtP_perm _).length_eq, List.length_map]; exact hD.len
  obtain ⟨st', loop, R, t5, t6, t7, rfl, hR, h5', hRl⟩ := for_ix (turn := forTurn (callN F (d + 2)) (.nm 5) (grMid kd kb)) (xs := (srtP (l.map (·.1))).map pr) 0 (fun i st => ∃ R t5 t6 t7, st = ⟨[.val .cup, .val (.int (m : Int)), .own (.dct (encD prK PV.int l)), .val x, .val (.lst (R.map encR)), t5, t6, t7, .unk], c⟩ ∧ RowsOk l (n + 1) R ∧ (∀ v, t5 ≠ .own v) ∧ R.length ≤ 4 * i)
    (st := ⟨[.val .cup, .val (.int (m : Int)), .own (.dct (encD prK PV.int l)), .val x, .val (.lst []), s5, s6, s7, .unk], c⟩) ⟨[], s5, s6, s7, rfl, (fun _ h => nomatch h), h5, Nat.le_refl _⟩ fun i y st hy ⟨R1, t5, t6, t7, es, h1, _, h2⟩ => by
      subst es
      obtain ⟨p, hp, rfl⟩ := List.mem_map.mp (List.mem_of_getElem? hy)
      have hi : i < n + 1 := by
        have := (List.getElem?_eq_some_iff.mp hy).1
        rw [List.length_map] at this; omega
      obtain ⟨R2, u6, u7, g1, g2, g3⟩ := grMid_run (d := d + 1) S B (m := m) hD (s3 := .val x) ((srtP_perm _).mem_iff.mp hp) h1 (by omega) (s5 := t5) (s6 := t6) (s7 := t7) (c := c)
      exact ⟨_, g3, R2, _, u6, u7, rfl, g1, (fun _ e => nomatch e), by omega⟩
  rw [List.length_map, Nat.zero_add] at hRl
  have kn : ev (callN F (d + 2)) (.op (.cmp .NotEq) [(.bor 4), (.op .lst [])]) ⟨[.val .cup, .val (.int (m : Int)), .own (.dct (encD prK PV.int l)), .val x, .val (.lst (R.map encR)), t5, t6, t7, .unk], c⟩ = .ok (.bl (!R.isEmpty), ⟨[.val .cup, .val (.int (m : Int)), .own (.dct (encD prK PV.int l)), .val x, .val (.lst (R.map encR)), t5, t6, t7, .unk], c⟩) := by
    have e := lst_ne (R.map encR) (encR_fine R)
    rw [List.isEmpty_map] at e
    generalize R.map encR = V at *
    simp [e]
  have start : ∀ r, ex (callN F (d + 2)) (.ite (.op (.cmp .NotEq) [(.bor 4), (.op .lst [])]) (grPut ks kd) []) ⟨[.val .cup, .val (.int (m : Int)), .own (.dct (encD prK PV.int l)), .val x, .val (.lst (R.map encR)), t5, t6, t7, .unk], c⟩ = .ok (.nx, r) →
      forTurn (callN F (d + 2)) (.nm 3) (grTurn ks kd kb) x ⟨[.val .cup, .val (.int (m : Int)), .own (.dct (encD prK PV.int l)), s3, s4, s5, s6, s7, .unk], c⟩ = .ok (.nx, r) := fun r h => by
    rw [ft_nm]
    have k0 : ev (callN F (d + 2)) (.op .lst []) ⟨[.val .cup, .val (.int (m : Int)), .own (.dct (encD prK PV.int l)), .val x, s4, s5, s6, s7, .unk], c⟩ = .ok (.lst [], ⟨[.val .cup, .val (.int (m : Int)), .own (.dct (encD prK PV.int l)), .val x, s4, s5, s6, s7, .unk], c⟩) := by simp
    exact (sq_nx (as_nm k0)).trans ((sq_nx (fr_ok hsort rfl loop)).trans ((sq_nx h).trans r_exs0))
  cases hRe : R.isEmpty with
  | true =>
    rw [hRe] at kn
    refine ⟨l, .val (.lst (R.map encR)), t5, t6, t7, c, ⟨⟨hD.nd, fun e he => ?_, by have := hD.len; omega⟩, hw⟩, hc, h5', start _ (if_n kn)⟩
    have := hD.all e he
    omega
  | false =>
    rw [hRe] at kn
    have hne : R.map encR ≠ [] := by cases R with
      | nil => cases hRe
      | cons a b => simp
    obtain ⟨y, c1, hy, hc1, ey⟩ := some_run (d := d) hks hsn hss hsb Ro hne (by rw [List.length_map]; omega) hc
    obtain ⟨⟨q, s⟩, hq, rfl⟩ := List.mem_map.mp hy
    obtain ⟨hqs, p0, k0, a1, a2, a3, a4⟩ := hR _ hq
    dsimp only at a2 a3 a4
    obtain ⟨K, hK1, hK2, hK3, eK⟩ := grK_run (d := d + 1) S (env := [.val .cup, .val (.int (m : Int)), .own (.dct (encD prK PV.int l)), .val x, .val (.lst (R.map encR)), t5, .val (.int s), .val (pr q), .unk]) (c := c1) hqs.2 rfl (by simp) (by intro i hi p; simp at hi; subst hi; simp)
    obtain ⟨z, c2, hz, hc2, ez⟩ := some_run (d := d) hks hsn hss hsb Ro (xs := K.map .int) (by cases K with
      | nil => exact absurd rfl hK1
      | cons a b => simp) (by rw [List.length_map]; omega) hc1
    obtain ⟨k, hk, rfl⟩ := List.mem_map.mp hz
    have k1 : ev (callN F (d + 2)) (.call ks [(.var 0), (.var 4)]) ⟨[.val .cup, .val (.int (m : Int)), .own (.dct (encD prK PV.int l)), .val x, .val (.lst (R.map encR)), t5, t6, t7, .unk], c⟩ = .ok (encR (q, s), ⟨[.val .cup, .val (.int (m : Int)), .own (.dct (encD prK PV.int l)), .val x, .val (.lst (R.map encR)), t5, t6, t7, .unk], c1⟩) := ca_2 (va_ok rfl) (va_ok rfl) ey
    have kP : bindP (.tup [.nm 7, .nm 6]) (encR (q, s)) [.val .cup, .val (.int (m : Int)), .own (.dct (encD prK PV.int l)), .val x, .val (.lst (R.map encR)), t5, t6, t7, .unk] = .ok [.val .cup, .val (.int (m : Int)), .own (.dct (encD prK PV.int l)), .val x, .val (.lst (R.map encR)), t5, .val (.int s), .val (pr q), .unk] := by
      unfold encR
      simp
    have k2 : ev (callN F (d + 2)) (.call ks [(.var 0), grK kd]) ⟨[.val .cup, .val (.int (m : Int)), .own (.dct (encD prK PV.int l)), .val x, .val (.lst (R.map encR)), t5, .val (.int s), .val (pr q), .unk], c1⟩ = .ok (.int k, ⟨[.val .cup, .val (.int (m : Int)), .own (.dct (encD prK PV.int l)), .val x, .val (.lst (R.map encR)), t5, .val (.int s), .val (pr q), .unk], c2⟩) := ca_2 (va_ok rfl) eK ez
    have k3 := r_setD (Φ := callN F (d + 2)) (i := 2) (k := .var 7) (x := .int k) (y := prK.enc q) (z := .dct (encD prK PV.int l)) (kvs := encD prK PV.int l) k2 rfl (va_ok rfl) rfl (kOk_enc prK PV.int l q) (fitsL_k (by rw [encD_len]; have := hD.len; omega))
    rw [dset_enc prK PV.int l q k] at k3
    refine ⟨aset l q k, .val (.lst (R.map encR)), t5, .val (.int s), .val (pr q), c2, ⟨⟨aset_nodup hD.nd, ?_, by have := aset_len l q k; have := hD.len; omega⟩, by rw [a3]; exact Grw.step l p0 k0 s k hw a1 a2 (a3 ▸ a4) (hK3 k hk).2⟩, hc2, h5', start _ ((if_t kn).trans ((sq_nx (as_p k1 kP)).trans ((sq_nx k3).trans r_exs0)))⟩
    refine aset_all (P := fun (p : Int × Int) (v : Int) => ((-((n + 1 : Nat) : Int) ≤ p.1 ∧ p.1 ≤ ((n + 1 : Nat) : Int)) ∧ (-((n + 1 : Nat) : Int) ≤ p.2 ∧ p.2 ≤ ((n + 1 : Nat) : Int))) ∧ (1 ≤ v ∧ v ≤ 5)) (fun e he => ?_) ⟨hqs.1, (hK3 k hk).1⟩
    have := hD.all e he
    omega
theorem grown_runN {k ks : Nat} {f fs : Fn} (hk : F[k]? = some f) (hn : f.nargs = 2) (hs : f.nslots = 9) (hb : f.body = grBody kr ks kd kb) (hks : F[ks]? = some fs) (hsn : fs.nargs = 2) (hss : fs.nslots = 2) (hsb : fs.body = someBody kr) (Ro : RollOk F kr) (S : SidesOk F kd) (B : BeyOk F kb)
    {many : Nat} (hm : 1 ≤ many) (hm2 : many ≤ 100) {c : Option (Int × Int)} (hc : CupO c) : ∃ ts c', (GrR many ts ∧ ∃ l, Grw l ∧ (l.map (·.1)).Nodup ∧ ts = sqs l) ∧ CupO c' ∧ callN F (d + 3) k [.cup, .int (many : Int)] c = .ok (.tup (ts.map sq), c') := by
  have hst : startE f [.cup, .int (many : Int)] = [.val .cup, .val (.int (many : Int)), .unk, .unk, .unk, .unk, .unk, .unk, .unk] := by simp [startE, hs]
  obtain ⟨y, c1, hy, hc1, ey⟩ := some_run (d := d) hks hsn hss hsb Ro (xs := [.int 1, .int 2, .int 3, .int 4, .int 5, .int 5]) (by simp) (by simp) hc
  obtain ⟨q, rfl, hq⟩ : ∃ q : Int, y = .int q ∧ 1 ≤ q ∧ q ≤ 5 := by
    simp only [List.mem_cons, List.not_mem_nil, or_false] at hy
    rcases hy with rfl | rfl | rfl | rfl | rfl | rfl <;> exact ⟨_, rfl, by omega, by omega⟩
  have k0 : ev (callN F (d + 2)) (grE0 ks) ⟨[.val .cup, .val (.int (many : Int)), .unk, .unk, .unk, .unk, .unk, .unk, .unk], c⟩ = .ok (.dct (encD prK PV.int [((0, 0), q)]), ⟨[.val .cup, .val (.int (many : Int)), .unk, .unk, .unk, .unk, .unk, .unk, .unk], c1⟩) := by
    have kt : ev (callN F (d + 2)) (.op .tup [(.lit (.int 0)), (.lit (.int 0))]) ⟨[.val .cup, .val (.int (many : Int)), .unk, .unk, .unk, .unk, .unk, .unk, .unk], c⟩ = .ok (pr (0, 0), ⟨[.val .cup, .val (.int (many : Int)), .unk, .unk, .unk, .unk, .unk, .unk, .unk], c⟩) := by simp [pr]
    have kl : ev (callN F (d + 2)) (.op .lst [(.lit (.int 1)), (.lit (.int 2)), (.lit (.int 3)), (.lit (.int 4)), (.lit (.int 5)), (.lit (.int 5))]) ⟨[.val .cup, .val (.int (many : Int)), .unk, .unk, .unk, .unk, .unk, .unk, .unk], c⟩ = .ok (.lst [.int 1, .int 2, .int 3, .int 4, .int 5, .int 5], ⟨[.val .cup, .val (.int (many : Int)), .unk, .unk, .unk, .unk, .unk, .unk, .unk], c⟩) := by simp
    have kc := ca_2 (k := ks) (va_ok (Φ := callN F (d + 2)) (st := ⟨[.val .cup, .val (.int (many : Int)), .unk, .unk, .unk, .unk, .unk, .unk, .unk], c⟩) (i := 0) rfl) kl ey
    unfold grE0
    rw [r_op, r_evs, kt, rbind_ok, r_evs, kc, rbind_ok, r_evs0, rbind_ok, rbind_ok, rbind_ok]
    rfl
  obtain ⟨r, c2, hc2, r0, r1, er⟩ := Ro (d + 1) (many : Int) c1 (by unfold small; rw [Bool.and_eq_true]; exact ⟨decide_eq_true (by omega), decide_eq_true (by omega)⟩) hc1
  have kc := ca_2 (k := kr) (va_ok (Φ := callN F (d + 2)) (st := ⟨[.val .cup, .val (.int (many : Int)), .own (.dct (encD prK PV.int [((0, 0), q)])), .unk, .unk, .unk, .unk, .unk, .unk], c1⟩) (i := 0) rfl) (va_ok (i := 1) rfl) er
  have hr : itrV .range1 [.int r] = .ok (rng 0 r) := z_rI r0 (by omega)
  have hit : ev (callN F (d + 2)) (.itr .range1 [(.call kr [(.var 0), (.var 1)])]) ⟨[.val .cup, .val (.int (many : Int)), .own (.dct (encD prK PV.int [((0, 0), q)])), .unk, .unk, .unk, .unk, .unk, .unk], c1⟩ = .ok (.lst (rng 0 r), ⟨[.val .cup, .val (.int (many : Int)), .own (.dct (encD prK PV.int [((0, 0), q)])), .unk, .unk, .unk, .unk, .unk, .unk], c2⟩) := by
    rw [r_itr, r_evs, kc, rbind_ok, r_evs0, rbind_ok, rbind_ok]
    show (Res.ok _).bind _ = _
    rw [rbind_ok, hr]; rfl
  obtain ⟨st', loop, l, s3, s4, s5, s6, s7, c3, rfl, ⟨hD, hgw⟩, hl0, hc3⟩ := for_ix (turn := forTurn (callN F (d + 2)) (.nm 3) (grTurn ks kd kb)) (xs := rng 0 r) 0 (fun i st => ∃ l s3 s4 s5 s6 s7 c, st = ⟨[.val .cup, .val (.int (many : Int)), .own (.dct (encD prK PV.int l)), s3, s4, s5, s6, s7, .unk], c⟩ ∧ (GrD i l ∧ Grw l) ∧ (∀ v, s5 ≠ .own v) ∧ CupO c)
    (st := ⟨[.val .cup, .val (.int (many : Int)), .own (.dct (encD prK PV.int [((0, 0), q)])), .unk, .unk, .unk, .unk, .unk, .unk], c2⟩) ⟨[((0, 0), q)], _, _, _, _, _, c2, rfl, ⟨⟨by simp, fun e he => by rw [List.mem_singleton.mp he]; exact ⟨⟨⟨by simp, by simp⟩, by simp, by simp⟩, hq⟩, by simp⟩, Grw.one q hq⟩, (fun _ e => nomatch e), hc2⟩ fun i x st hx ⟨l, s3, s4, s5, s6, s7, c, es, ⟨hD, hw⟩, h5, hc⟩ => by
      subst es
      have hi : i < r.toNat := by
        have := (List.getElem?_eq_some_iff.mp hx).1
        rw [rng_length] at this; omega
      rw [Nat.zero_add] at hD
      obtain ⟨l', t4, t5, t6, t7, c', g1, g2, g5, g3⟩ := grTurn_run (d := d) hks hsn hss hsb Ro S B (n := i) (m := many) (by omega) hD hw (x := x) (s3 := s3) (s4 := s4) (s5 := s5) (s6 := s6) (s7 := s7) hc h5
      exact ⟨_, g3, l', _, t4, t5, t6, t7, c', rfl, by rw [Nat.zero_add]; exact g1, g5, g2⟩
  rw [Nat.zero_add, rng_length] at hD
  have hD' : GrD many l := ⟨hD.nd, fun e he => by have := hD.all e he; omega, by have := hD.len; omega⟩
  have hlen : l.length ≤ 1000 := by have := hD'.len; omega
  · have k3 := sqs_lc (Φ := callN F (d + 2)) (cu := c3) (i := 2) (j := 5) (l := l) (env := [.val .cup, .val (.int (many : Int)), .own (.dct (encD prK PV.int l)), s3, s4, s5, s6, s7, .unk]) rfl (by decide) (by simp) (by intro i hi p; simp at hi; subst hi; simp; exact hl0 _) hlen
    have kr' : ev (callN F (d + 2)) (.op (.bif .tuple) [(.lc [5] (.nm 5) (.op (.bif .sorted) [(.bor 2)]) (.lit (.bl true)) (.op .add [(.bor 5), (.op .tup [(.op .idx [(.bor 2), (.bor 5)])])]))]) ⟨[.val .cup, .val (.int (many : Int)), .own (.dct (encD prK PV.int l)), s3, s4, s5, s6, s7, .unk], c3⟩ = .ok (.tup ((sqs l).map sq), ⟨[.val .cup, .val (.int (many : Int)), .own (.dct (encD prK PV.int l)), s3, s4, s5, s6, s7, .unk], c3⟩) := by
      rw [r_op, r_evs, k3, rbind_ok, r_evs0, rbind_ok, rbind_ok]
      rfl
    exact ⟨sqs l, c3, ⟨grR_of hD', l, hgw, hD'.nd, rfl⟩, hc3, fn_rt (st1 := ⟨[.val .cup, .val (.int (many : Int)), .own (.dct (encD prK PV.int l)), s3, s4, s5, s6, s7, .unk], c3⟩) hk (by rw [hn]; rfl) (by rw [hb, hst]; exact (sq_nx (as_o k0)).trans ((sq_nx (fr_ok hit rfl loop)).trans (sq_rt (rt_ok kr'))))⟩
theorem grown_run {k ks : Nat} {f fs : Fn} (hk : F[k]? = some f) (hn : f.nargs = 2) (hs : f.nslots = 9) (hb : f.body = grBody kr ks kd kb) (hks : F[ks]? = some fs) (hsn : fs.nargs = 2) (hss : fs.nslots = 2) (hsb : fs.body = someBody kr) (Ro : RollOk F kr) (S : SidesOk F kd) (B : BeyOk F kb)
    {many : Nat} (hm : 1 ≤ many) (hm2 : many ≤ 100) {c : Option (Int × Int)} (hc : CupO c) : ∃ ts c', GrR many ts ∧ CupO c' ∧ callN F (d + 3) k [.cup, .int (many : Int)] c = .ok (.tup (ts.map sq), c') := by
  obtain ⟨ts, c', ⟨h, _⟩, hc', e⟩ := grown_runN (d := d) hk hn hs hb hks hsn hss hsb Ro S B hm hm2 hc
  exact ⟨ts, c', h, hc', e⟩
end
end Py
end

section
set_option Elab.async false
set_option linter.all false
set_option autoImplicit false
set_option maxRecDepth 100000
/-! The package's functions of figures: what they come to. -/
namespace Py
open PySem (Str CmpOp)

/-- a figure's squares -/
structure Fig (ts : List (Int × Int × Int)) : Prop where
  rise : riseB (plc ts) = true
  rng : ∀ t ∈ ts, (-50 ≤ t.1 ∧ t.1 ≤ 50) ∧ (-50 ≤ t.2.1 ∧ t.2.1 ≤ 50) ∧ (1 ≤ t.2.2 ∧ t.2.2 ≤ 5)
  len : ts.length ≤ 60
theorem FigR.fig {s : Int} {n : Nat} {ts : List (Int × Int × Int)} (h : FigR s n ts) (hs : s ≤ 51) (hn : n ≤ 60) : Fig ts :=
  ⟨h.rise, fun t ht => by have := h.rng t ht; omega, Nat.le_trans h.len hn⟩
theorem GrR.fig {n : Nat} {ts : List (Int × Int × Int)} (h : GrR n ts) (hn : n ≤ 50) : Fig ts :=
  ⟨h.rise, fun t ht => by have := h.rng t ht; omega, by have := h.len; omega⟩
theorem Fig.nil : Fig [] := ⟨rfl, (fun _ h => nomatch h), Nat.zero_le _⟩
theorem Fig.is {ts : List (Int × Int × Int)} (h : Fig ts) : isFig (.tup (ts.map sq)) = true := by
  rw [isFig_sq, h.rise, decide_eq_true h.len, Bool.and_true, Bool.true_and, List.all_eq_true]
  intro x hx
  obtain ⟨t, ht, rfl⟩ := List.mem_map.mp hx
  have := h.rng t ht
  simp [isSq, sq, inR]
  omega
theorem item_sq (t : Int × Int × Int) : itemV (sq t) = true := by
  simp [itemV, sq, askV, okVs, okV, PV.plain, PV.plains, PV.depth, PV.depths]
theorem Fig.ask {ts : List (Int × Int × Int)} (h : Fig ts) : askF (.tup (ts.map sq)) = true := by
  show ((ts.map sq).all itemV && decide ((ts.map sq).length ≤ 1000)) = true
  rw [Bool.and_eq_true, List.all_eq_true]
  refine ⟨fun x hx => ?_, decide_eq_true (by rw [List.length_map]; have := h.len; omega)⟩
  obtain ⟨t, _, rfl⟩ := List.mem_map.mp hx
  exact item_sq t
theorem Fig.nodup {ts : List (Int × Int × Int)} (h : Fig ts) : (plc ts).Nodup := rise_nodup (riseB_iff.mp h.rise)
/-- a function of the package -/
def FnIs (F : List Fn) (k n s : Nat) (b : List S) : Prop := ∃ f, F[k]? = some f ∧ f.nargs = n ∧ f.nslots = s ∧ f.body = b
section
variable {F : List Fn} {d : Nat} {cup : Option (Int × Int)}
def needFigB : List S := [(.ite (.not (.call 6 [(.var 0)])) [(.expr (.op .sub []))] [])]
theorem need_fig (hF : FigF F) {k : Nat} (h : FnIs F k 1 1 needFigB) {ts : List (Int × Int × Int)} (hf : Fig ts) : callN F (d + 6) k [.tup (ts.map sq)] cup = .ok (.non, cup) := by
  obtain ⟨f, hk, hn, hs, hb⟩ := h
  have e := t_figure hF (d := d) (cup := cup) hf.ask
  rw [hf.is] at e
  have hst : startE f [.tup (ts.map sq)] = [.val (.tup (ts.map sq))] := by simp [startE, hs]
  exact fn_nx (st1 := ⟨[.val (.tup (ts.map sq))], cup⟩) hk (by rw [hn]; rfl) (by rw [hb, hst]; exact (sq_nx (if_n (nt_ok (b := true) (ca_1 (va_ok rfl) e)))).trans r_exs0)
def needPlaceB : List S := [(.ite (.not (.call 4 [(.var 0)])) [(.expr (.op .sub []))] [])]
theorem need_place (hF : FigF F) {k : Nat} (h : FnIs F k 1 1 needPlaceB) {p : Int × Int} (hp : (-50 ≤ p.1 ∧ p.1 ≤ 50) ∧ (-50 ≤ p.2 ∧ p.2 ≤ 50)) : callN F (d + 4) k [pr p] cup = .ok (.non, cup) := by
  obtain ⟨f, hk, hn, hs, hb⟩ := h
  have e := t_place hF (d := d) (cup := cup) (xs := [.int p.1, .int p.2]) rfl (by simp)
  have e2 : (decide ([PV.int p.1, .int p.2].length = 2) && [PV.int p.1, .int p.2].all (inR (-50) 50)) = true := by
    simp [inR]; omega
  rw [e2] at e
  have hst : startE f [pr p] = [.val (pr p)] := by simp [startE, hs]
  exact fn_nx (st1 := ⟨[.val (pr p)], cup⟩) hk (by rw [hn]; rfl) (by rw [hb, hst]; exact (sq_nx (if_n (nt_ok (b := true) (ca_1 (va_ok rfl) e)))).trans r_exs0)
/-! areas -/
def areaOf (ts : List (Int × Int × Int)) : Int := (ts.map fun t => if t.2.2 = 5 then (2 : Int) else 1).sum
def areaB : List S := [(.ret (.op (.bif .sum) [(.lc [1] (.nm 1) (.var 0) (.lit (.bl true)) (.ite (.op (.cmp .Eq) [(.op .idx [(.bor 1), (.lit (.int 2))]), (.con "WHOLE" (.int 5))]) (.lit (.int 2)) (.lit (.int 1))))]))]
theorem area_in_run {k : Nat} (h : FnIs F k 1 2 areaB) {ts : List (Int × Int × Int)} (hl : ts.length ≤ 1000) : callN F (d + 1) k [.tup (ts.map sq)] cup = .ok (.int (areaOf ts), cup) := by
  obtain ⟨f, hk, hn, hs, hb⟩ := h
  have hst : startE f [.tup (ts.map sq)] = [.val (.tup (ts.map sq)), .unk] := by simp [startE, hs]
  have key : ev (callN F d) (.lc [1] (.nm 1) (.var 0) (.lit (.bl true)) (.ite (.op (.cmp .Eq) [(.op .idx [(.bor 1), (.lit (.int 2))]), (.con "WHOLE" (.int 5))]) (.lit (.int 2)) (.lit (.int 1)))) ⟨[.val (.tup (ts.map sq)), .unk], cup⟩ = .ok (.lst ((ts.map fun t => if t.2.2 = 5 then (2 : Int) else 1).map PV.int), ⟨[.val (.tup (ts.map sq)), .unk], cup⟩) := by
    have e : (ts.map fun t => if t.2.2 = 5 then (2 : Int) else 1).map PV.int = (ts.map sq).map fun x => match x with | .tup [_, _, .int k] => .int (if k = 5 then 2 else 1) | _ => .non := by
      rw [List.map_map, List.map_map]; rfl
    rw [e]
    refine lc_mp _ (v := .tup (ts.map sq)) (va_ok rfl) rfl (by intro i hi p; simp at hi; subst hi; simp) (by rw [List.length_map]; unfold LIM; omega) fun x hx => ?_
    obtain ⟨t, _, rfl⟩ := List.mem_map.mp hx
    refine ⟨[.val (.tup (ts.map sq)), .val (sq t)], ?_, by simp [wipeE]⟩
    generalize PV.tup (ts.map sq) = V
    simp [lcTurn, wipeE, sq, idxV, atI, ixN]
    by_cases h5 : t.2.2 = 5 <;> simp [h5]
  have kr : ev (callN F d) (.op (.bif .sum) [(.lc [1] (.nm 1) (.var 0) (.lit (.bl true)) (.ite (.op (.cmp .Eq) [(.op .idx [(.bor 1), (.lit (.int 2))]), (.con "WHOLE" (.int 5))]) (.lit (.int 2)) (.lit (.int 1))))]) ⟨[.val (.tup (ts.map sq)), .unk], cup⟩ = .ok (.int (areaOf ts), ⟨[.val (.tup (ts.map sq)), .unk], cup⟩) := by
    rw [r_op, r_evs, key, rbind_ok, r_evs0, rbind_ok, rbind_ok]
    show (Res.ok _).bind _ = _
    rw [rbind_ok, o_bif, b_sum]; rfl
  exact fn_rt (st1 := ⟨[.val (.tup (ts.map sq)), .unk], cup⟩) hk (by rw [hn]; rfl) (by rw [hb, hst]; exact sq_rt (rt_ok kr))
/-! dict comprehensions -/
def dcTurn (Φ : Calls) (own : List Nat) (p : Pat) (c k v : E) (x : PV) (D : List (PV × PV)) (st : St) : Res (List (PV × PV) × St) :=
  (bindP p x (wipeE st.env own)).bind fun env => (ev Φ c { st with env := env }).bind fun b => ifB b.1 ((ev Φ k b.2).bind fun y => (ev Φ v y.2).bind fun z => .of (kOk D y.1 && fitsL (D.length)) (.ok (dset D y.1 z.1, z.2))) (.ok (D, b.2))
theorem r_dc {Φ : Calls} {st : St} (own : List Nat) (p : Pat) (it c k v : E) : ev Φ (.dc own p it c k v) st = (ev Φ it st).bind fun r => (Res.ofOpt (ltOf r.1)).bind fun xs => (dcLoop (dcTurn Φ own p c k v) xs [] r.2).bind fun q => .ok (.dct q.1, { q.2 with env := backE r.2.env q.2.env own }) := by
  rw [ev]; rfl
/-- every item one pair -/
theorem dc_mp {κ α : Type} [DecidableEq κ] (Q : Kd κ) (f : α → PV) {Φ : Calls} {own : List Nat} {p : Pat} {it c k v : E} {st st1 : St} {w : PV} {xs : List PV} (g : PV → κ × α) (hit : ev Φ it st = .ok (w, st1)) (hl : ltOf w = some xs) (hc : cleanE st1.env own) (hlen : xs.length ≤ 1000000)
    (turn : ∀ x ∈ xs, ∃ env env' env'' , bindP p x (wipeE st1.env own) = .ok env ∧ ev Φ c ⟨env, st1.cup⟩ = .ok (.bl true, ⟨env, st1.cup⟩) ∧ ev Φ k ⟨env, st1.cup⟩ = .ok (Q.enc (g x).1, ⟨env', st1.cup⟩) ∧ ev Φ v ⟨env', st1.cup⟩ = .ok (f (g x).2, ⟨env'', st1.cup⟩) ∧ wipeE env'' own = wipeE st1.env own) :
    ev Φ (.dc own p it c k v) st = .ok (.dct (encD Q f (aof [] (xs.map g))), st1) := by
  have key : ∀ (ys : List PV) (acc : List (κ × α)) (s : St), (∀ y ∈ ys, y ∈ xs) → acc.length + ys.length ≤ 1000000 → wipeE s.env own = wipeE st1.env own → s.cup = st1.cup → ∃ s', dcLoop (dcTurn Φ own p c k v) ys (encD Q f acc) s = .ok (encD Q f (aof acc (ys.map g)), s') ∧ wipeE s'.env own = wipeE st1.env own ∧ s'.cup = st1.cup := by
    intro ys
    induction ys with
    | nil => exact fun acc s _ _ h1 h2 => ⟨s, rfl, h1, h2⟩
    | cons y ys ih =>
      intro acc s hm hn h1 h2
      obtain ⟨env, env', env'', e1, e2, e3, e4, e5⟩ := turn y (hm y List.mem_cons_self)
      rw [List.length_cons] at hn
      have et : dcTurn Φ own p c k v y (encD Q f acc) s = .ok (encD Q f (aset acc (g y).1 (g y).2), ⟨env'', st1.cup⟩) := by
        unfold dcTurn
        rw [h1, e1, rbind_ok, h2, e2, rbind_ok]
        show ((ev Φ k ⟨env, st1.cup⟩).bind _) = _
        rw [e3, rbind_ok]
        show ((ev Φ v ⟨env', st1.cup⟩).bind _) = _
        rw [e4, rbind_ok, kOk_enc, fitsL_k (by rw [encD_len]; omega)]
        show Res.ok (dset (encD Q f acc) (Q.enc (g y).1) (f (g y).2), _) = _
        rw [dset_enc]
      obtain ⟨s', g1, g2, g3⟩ := ih (aset acc (g y).1 (g y).2) ⟨env'', st1.cup⟩ (fun z hz => hm z (List.mem_cons_of_mem _ hz)) (by have := aset_len acc (g y).1 (g y).2; omega) e5 rfl
      refine ⟨s', ?_, g2, g3⟩
      show (dcTurn Φ own p c k v y (encD Q f acc) s).bind _ = _
      rw [et, rbind_ok]
      exact g1
  obtain ⟨s', g1, g2, g3⟩ := key xs [] st1 (fun _ h => h) (by simpa using hlen) rfl rfl
  rw [r_dc, hit, rbind_ok, hl, rofOpt_s, rbind_ok]
  have g1' : dcLoop (dcTurn Φ own p c k v) xs [] st1 = _ := g1
  rw [g1', rbind_ok]
  show Res.ok (PV.dct _, ({ s' with env := backE st1.env s'.env own } : St)) = _
  rw [back_same g2 hc, g3]
def kindsB : List S := [(.ret (.dc [1] (.nm 1) (.var 0) (.lit (.bl true)) (.op (.slc false true) [(.bor 1), (.lit (.int 2))]) (.op .idx [(.bor 1), (.lit (.int 2))])))]
def kd (t : Int × Int × Int) : (Int × Int) × Int := ((t.1, t.2.1), t.2.2)
/-- the figure's kinds by their places -/
def kindsOf (ts : List (Int × Int × Int)) : List ((Int × Int) × Int) := aof [] (ts.map kd)
theorem kinds_run {k : Nat} (h : FnIs F k 1 2 kindsB) {ts : List (Int × Int × Int)} (hl : ts.length ≤ 1000) : callN F (d + 1) k [.tup (ts.map sq)] cup = .ok (.dct (encD prK PV.int (kindsOf ts)), cup) := by
  obtain ⟨f, hk, hn, hs, hb⟩ := h
  have hst : startE f [.tup (ts.map sq)] = [.val (.tup (ts.map sq)), .unk] := by simp [startE, hs]
  have key := dc_mp prK PV.int (Φ := callN F d) (own := [1]) (p := .nm 1) (it := .var 0) (c := .lit (.bl true)) (k := .op (.slc false true) [(.bor 1), (.lit (.int 2))]) (v := .op .idx [(.bor 1), (.lit (.int 2))]) (st := ⟨[.val (.tup (ts.map sq)), .unk], cup⟩) (xs := ts.map sq)
    (fun x => match x with | .tup [.int a, .int b, .int k] => ((a, b), k) | _ => ((0, 0), 0)) (va_ok rfl) rfl (by intro i hi p; simp at hi; subst hi; simp) (by rw [List.length_map]; omega) fun x hx => by
      obtain ⟨t, _, rfl⟩ := List.mem_map.mp hx
      refine ⟨[.val (.tup (ts.map sq)), .val (sq t)], [.val (.tup (ts.map sq)), .val (sq t)], [.val (.tup (ts.map sq)), .val (sq t)], by simp [wipeE], r_lit _, ?_, ?_, by simp [wipeE]⟩
      · generalize PV.tup (ts.map sq) = V
        simp [cut2]; rfl
      · generalize PV.tup (ts.map sq) = V
        simp [sq, idxV, atI, ixN]
  rw [List.map_map] at key
  exact fn_rt (st1 := ⟨[.val (.tup (ts.map sq)), .unk], cup⟩) hk (by rw [hn]; rfl) (by rw [hb, hst]; exact sq_rt (rt_ok key))
end
end Py
end

section
set_option Elab.async false
set_option linter.all false
set_option autoImplicit false
set_option maxRecDepth 100000
/-! Borders: sides once, slants. -/
namespace Py
open PySem (Str CmpOp)

abbrev Edge := (Int × Int) × (Int × Int)
def ed (e : Edge) : PV := .tup [pr e.1, pr e.2]
theorem ed_eqv (a b : Edge) : (ed a).eqv (ed b) = decide (a = b) := by
  show PV.eqvs [pr a.1, pr a.2] [pr b.1, pr b.2] = _
  simp only [PV.eqvs, pr_eqv, Bool.and_true]
  rw [Bool.eq_iff_iff]
  simp [Prod.ext_iff]
def edK : Kd Edge := ⟨ed, 0, ed_eqv, fun a => by simp [ed, pr, PV.keyOk, PV.keyOks], fun a => by simp [ed, pr, PV.depth, PV.depths], fun a => rfl, Nat.zero_le _, fun a => by simp [ed, pr, PV.fine, PV.plain, PV.plains, PV.depth, PV.depths]⟩
def sideE (p : Int × Int) (s : Int) : Edge := if s = 0 then ((p.1, p.2), (p.1 + 1, p.2)) else if s = 1 then ((p.1 + 1, p.2), (p.1 + 1, p.2 + 1)) else if s = 2 then ((p.1, p.2 + 1), (p.1 + 1, p.2 + 1)) else ((p.1, p.2), (p.1, p.2 + 1))
def slantE (t : Int × Int × Int) : Edge := if t.2.2 = 1 ∨ t.2.2 = 3 then ((t.1, t.2.1 + 1), (t.1 + 1, t.2.1)) else ((t.1, t.2.1), (t.1 + 1, t.2.1 + 1))
def edges (ts : List (Int × Int × Int)) : List Edge := ts.flatMap fun t => (sidesOf t.2.2).map (sideE (t.1, t.2.1))
def stepC (l : List (Edge × Int)) (e : Edge) : List (Edge × Int) := aset l e ((aget l e).getD 0 + 1)
def cntD (es : List Edge) : List (Edge × Int) := es.foldl stepC []
/-- the sides that are one square's alone -/
def singles (ts : List (Int × Int × Int)) : List Edge := ((cntD (edges ts)).map (·.1)).filter fun e => decide ((aget (cntD (edges ts)) e).getD 0 = 1)
def slants (ts : List (Int × Int × Int)) : List Edge := (ts.filter fun t => decide (t.2.2 ≠ 5)).map slantE
def borderP (ts : List (Int × Int × Int)) : List PV := sortV ((singles ts ++ slants ts).map ed)
/-! ### the runs -/
section
variable {F : List Fn} {d : Nat} {cup : Option (Int × Int)}
def sideB : List S := [(.asg (.tup [(.nm 2), (.nm 3)]) (.var 0)),
  (.ite (.op (.cmp .In) [(.bor 1), (.op .tup [(.lit (.int 0)), (.lit (.int 2))])]) [(.ret (.op .tup [(.op .tup [(.var 2), (.op .add [(.bor 3), (.op .fdiv [(.bor 1), (.lit (.int 2))])])]), (.op .tup [(.op .add [(.bor 2), (.lit (.int 1))]), (.op .add [(.bor 3), (.op .fdiv [(.bor 1), (.lit (.int 2))])])])]))] []),
  (.ret (.op .tup [(.op .tup [(.op .add [(.bor 2), (.ite (.op (.cmp .Eq) [(.bor 1), (.lit (.int 1))]) (.lit (.int 1)) (.lit (.int 0)))]), (.var 3)]), (.op .tup [(.op .add [(.bor 2), (.ite (.op (.cmp .Eq) [(.bor 1), (.lit (.int 1))]) (.lit (.int 1)) (.lit (.int 0)))]), (.op .add [(.bor 3), (.lit (.int 1))])])]))]
theorem c_in2 (s a b : Int) : cmpV .In (.int s) (.tup [.int a, .int b]) = .ok (.bl (decide (a = s) || decide (b = s))) := by
  show ((Res.of ([PV.int a, .int b].all PV.fine && (PV.int s).fine) (Res.ok ([PV.int a, .int b].any fun z => z.eqv (.int s)))).bind _) = _
  rw [show ([PV.int a, .int b].all PV.fine && (PV.int s).fine) = true from rfl, rof_t]
  simp [PV.eqv]
theorem side_run {k : Nat} (h : FnIs F k 2 4 sideB) (p : Int × Int) {s : Int} (hs : 0 ≤ s ∧ s ≤ 3) : callN F (d + 1) k [pr p, .int s] cup = .ok (ed (sideE p s), cup) := by
  obtain ⟨f, hk, hn, hss, hb⟩ := h
  have hst : startE f [pr p, .int s] = [.val (pr p), .val (.int s), .unk, .unk] := by simp [startE, hss]
  have kP : bindP (.tup [.nm 2, .nm 3]) (pr p) [.val (pr p), .val (.int s), .unk, .unk] = .ok [.val (pr p), .val (.int s), .val (.int p.1), .val (.int p.2)] := by
    show bindP (.tup [.nm 2, .nm 3]) (.tup [.int p.1, .int p.2]) _ = _
    simp
  have kc : ev (callN F d) (.op (.cmp .In) [(.bor 1), (.op .tup [(.lit (.int 0)), (.lit (.int 2))])]) ⟨[.val (pr p), .val (.int s), .val (.int p.1), .val (.int p.2)], cup⟩ = .ok (.bl (decide (0 = s) || decide (2 = s)), ⟨[.val (pr p), .val (.int s), .val (.int p.1), .val (.int p.2)], cup⟩) := by
    simp [c_in2]
  have hq : ∀ v : PV, exs (callN F d) f.body ⟨startE f [pr p, .int s], cup⟩ = .ok (.rt v, ⟨[.val (pr p), .val (.int s), .val (.int p.1), .val (.int p.2)], cup⟩) → callN F (d + 1) k [pr p, .int s] cup = .ok (v, cup) := fun v h => fn_rt (st1 := ⟨[.val (pr p), .val (.int s), .val (.int p.1), .val (.int p.2)], cup⟩) hk (by rw [hn]; rfl) h
  refine hq _ ?_
  rw [hb, hst]
  refine (sq_nx (as_p (va_ok rfl) kP)).trans ?_
  rcases sides4 hs with rfl | rfl | rfl | rfl
  · exact sq_rt ((if_t kc).trans (sq_rt (rt_ok (by simp [sideE, ed, pr]))))
  · exact (sq_nx (if_n kc)).trans (sq_rt (rt_ok (by simp [sideE, ed, pr])))
  · exact sq_rt ((if_t kc).trans (sq_rt (rt_ok (by simp [sideE, ed, pr]))))
  · exact (sq_nx (if_n kc)).trans (sq_rt (rt_ok (by simp [sideE, ed, pr])))
def slantB : List S := [(.asg (.tup [(.nm 1), (.nm 2), (.nm 3)]) (.var 0)),
  (.ite (.op (.cmp .In) [(.bor 3), (.op .tup [(.lit (.int 1)), (.lit (.int 3))])]) [(.ret (.op .tup [(.op .tup [(.var 1), (.op .add [(.bor 2), (.lit (.int 1))])]), (.op .tup [(.op .add [(.bor 1), (.lit (.int 1))]), (.var 2)])]))] []),
  (.ret (.op .tup [(.op .tup [(.var 1), (.var 2)]), (.op .tup [(.op .add [(.bor 1), (.lit (.int 1))]), (.op .add [(.bor 2), (.lit (.int 1))])])]))]
theorem slant_run {k : Nat} (h : FnIs F k 1 4 slantB) (t : Int × Int × Int) : callN F (d + 1) k [sq t] cup = .ok (ed (slantE t), cup) := by
  obtain ⟨f, hk, hn, hss, hb⟩ := h
  have hst : startE f [sq t] = [.val (sq t), .unk, .unk, .unk] := by simp [startE, hss]
  have kP : bindP (.tup [.nm 1, .nm 2, .nm 3]) (sq t) [.val (sq t), .unk, .unk, .unk] = .ok [.val (sq t), .val (.int t.1), .val (.int t.2.1), .val (.int t.2.2)] := by
    show bindP (.tup [.nm 1, .nm 2, .nm 3]) (.tup [.int t.1, .int t.2.1, .int t.2.2]) _ = _
    simp
  have kc : ev (callN F d) (.op (.cmp .In) [(.bor 3), (.op .tup [(.lit (.int 1)), (.lit (.int 3))])]) ⟨[.val (sq t), .val (.int t.1), .val (.int t.2.1), .val (.int t.2.2)], cup⟩ = .ok (.bl (decide (1 = t.2.2) || decide (3 = t.2.2)), ⟨[.val (sq t), .val (.int t.1), .val (.int t.2.1), .val (.int t.2.2)], cup⟩) := by
    simp [c_in2]
  refine fn_rt (st1 := ⟨[.val (sq t), .val (.int t.1), .val (.int t.2.1), .val (.int t.2.2)], cup⟩) hk (by rw [hn]; rfl) ?_
  rw [hb, hst]
  refine (sq_nx (as_p (va_ok rfl) kP)).trans ?_
  by_cases h13 : t.2.2 = 1 ∨ t.2.2 = 3
  · have e : (decide (1 = t.2.2) || decide (3 = t.2.2)) = true := by rcases h13 with h | h <;> simp [h]
    rw [e] at kc
    rw [slantE, if_pos h13]
    exact sq_rt ((if_t kc).trans (sq_rt (rt_ok (by simp [ed, pr]))))
  · have e : (decide (1 = t.2.2) || decide (3 = t.2.2)) = false := by
      rw [Bool.or_eq_false_iff]; exact ⟨decide_eq_false (by omega), decide_eq_false (by omega)⟩
    rw [e] at kc
    rw [slantE, if_neg h13]
    exact (sq_nx (if_n kc)).trans (sq_rt (rt_ok (by simp [ed, pr])))
/-! ### counting sides -/
theorem stepC_len : ∀ (es : List Edge) (l : List (Edge × Int)), (es.foldl stepC l).length ≤ l.length + es.length
  | [], l => Nat.le_refl _
  | e :: es, l => by
    have h1 := stepC_len es (stepC l e)
    have h2 : (stepC l e).length ≤ l.length + 1 := aset_len _ _ _
    rw [List.foldl_cons, List.length_cons]; omega
def stepS (l : List (Edge × Int)) (t : Int × Int × Int) : List (Edge × Int) := ((sidesOf t.2.2).map (sideE (t.1, t.2.1))).foldl stepC l
theorem stepS_all : ∀ (ts : List (Int × Int × Int)) (l : List (Edge × Int)), ts.foldl stepS l = (edges ts).foldl stepC l
  | [], l => rfl
  | t :: ts, l => by
    rw [List.foldl_cons, stepS_all ts]
    unfold edges
    rw [List.flatMap_cons, List.foldl_append]; rfl
theorem edges_len : ∀ (ts : List (Int × Int × Int)), (∀ t ∈ ts, 1 ≤ t.2.2 ∧ t.2.2 ≤ 5) → (edges ts).length ≤ 4 * ts.length
  | [], _ => Nat.le_refl _
  | t :: ts, h => by
    have h1 := edges_len ts fun t ht => h t (List.mem_cons_of_mem _ ht)
    have h2 := sidesOf_len (h t List.mem_cons_self)
    unfold edges at h1 ⊢
    rw [List.flatMap_cons, List.length_append, List.length_map, List.length_cons]
    omega
def sidesC : E := (.op .idx [(.con "SIDES" (.dct [(.int 1, .tup [.int 0, .int 3]), (.int 2, .tup [.int 0, .int 1]), (.int 3, .tup [.int 1, .int 2]), (.int 4, .tup [.int 2, .int 3]), (.int 5, .tup [.int 0, .int 1, .int 2, .int 3])])), (.op .idx [(.bor 2), (.lit (.int 2))])])
theorem sidesC_run {Φ : Calls} {st : St} {t : Int × Int × Int} (ht : 1 ≤ t.2.2 ∧ t.2.2 ≤ 5) (h : st.env[2]? = some (.val (sq t))) : ev Φ sidesC st = .ok (.tup ((sidesOf t.2.2).map .int), st) := by
  have hs : slotV st.env 2 = .ok (sq t) := by unfold slotV; rw [h]
  have hi : idxV st.cup (sq t) (.int 2) = .ok (.int t.2.2) := by simp [sq, idxV, atI, ixN]
  have key : ∀ k : Int, 1 ≤ k ∧ k ≤ 5 → idxV st.cup (.dct [(.int 1, .tup [.int 0, .int 3]), (.int 2, .tup [.int 0, .int 1]), (.int 3, .tup [.int 1, .int 2]), (.int 4, .tup [.int 2, .int 3]), (.int 5, .tup [.int 0, .int 1, .int 2, .int 3])]) (.int k) = .ok (.tup ((sidesOf k).map .int)) := fun k hk => by
    rcases kinds5 hk with rfl | rfl | rfl | rfl | rfl <;> rfl
  have hk := key t.2.2 ht
  generalize t.2.2 = k at *
  unfold sidesC
  generalize hD : PV.dct [(.int 1, .tup [.int 0, .int 3]), (.int 2, .tup [.int 0, .int 1]), (.int 3, .tup [.int 1, .int 2]), (.int 4, .tup [.int 2, .int 3]), (.int 5, .tup [.int 0, .int 1, .int 2, .int 3])] = DD at *
  simp [hs, hi, hk]
def brIn (ka : Nat) : List S := [(.asg (.nm 5) (.call ka [(.op (.slc false true) [(.bor 2), (.lit (.int 2))]), (.var 4)])),
  (.setx 1 (.var 5) (.op .add [(.meth .get2 (.bor 1) [(.var 5), (.lit (.int 0))]), (.lit (.int 1))]))]
def brSl (kb : Nat) : E := (.lc [2] (.nm 2) (.var 0) (.op (.cmp .NotEq) [(.op .idx [(.bor 2), (.lit (.int 2))]), (.con "WHOLE" (.int 5))]) (.call kb [(.var 2)]))
def brOne : E := (.lc [5] (.nm 5) (.var 1) (.op (.cmp .Eq) [(.op .idx [(.bor 1), (.bor 5)]), (.lit (.int 1))]) (.var 5))
def borderB (ka kb : Nat) : List S := [.asgo 1 (.op .dct []), .for (.nm 2) (.var 0) [.for (.nm 4) sidesC (brIn ka)], .asg (.nm 3) (brSl kb), .ret (.op (.bif .sorted) [.op .add [brOne, .bor 3]])]
theorem brIn_run {ka : Nat} (A : FnIs F ka 2 4 sideB) {V : Slot} {t : Int × Int × Int} {s : Int} (hs : 0 ≤ s ∧ s ≤ 3) {l : List (Edge × Int)} (hl : l.length ≤ 1000) {s3 s4 s5 : Slot} :
    forTurn (callN F (d + 1)) (.nm 4) (brIn ka) (.int s) ⟨[V, .own (.dct (encD edK PV.int l)), .val (sq t), s3, s4, s5], cup⟩ = .ok (.nx, ⟨[V, .own (.dct (encD edK PV.int (stepC l (sideE (t.1, t.2.1) s)))), .val (sq t), s3, .val (.int s), .val (ed (sideE (t.1, t.2.1) s))], cup⟩) := by
  have k0 : ev (callN F (d + 1)) (.op (.slc false true) [(.bor 2), (.lit (.int 2))]) ⟨[V, .own (.dct (encD edK PV.int l)), .val (sq t), s3, .val (.int s), s5], cup⟩ = .ok (pr (t.1, t.2.1), ⟨[V, .own (.dct (encD edK PV.int l)), .val (sq t), s3, .val (.int s), s5], cup⟩) := by
    generalize encD edK PV.int l = D
    simp [cut2]
  have k1 : ev (callN F (d + 1)) (.call ka [(.op (.slc false true) [(.bor 2), (.lit (.int 2))]), (.var 4)]) ⟨[V, .own (.dct (encD edK PV.int l)), .val (sq t), s3, .val (.int s), s5], cup⟩ = .ok (ed (sideE (t.1, t.2.1) s), ⟨[V, .own (.dct (encD edK PV.int l)), .val (sq t), s3, .val (.int s), s5], cup⟩) := ca_2 k0 (va_ok rfl) (side_run A (t.1, t.2.1) hs)
  have k2 : ev (callN F (d + 1)) (.op .add [(.meth .get2 (.bor 1) [(.var 5), (.lit (.int 0))]), (.lit (.int 1))]) ⟨[V, .own (.dct (encD edK PV.int l)), .val (sq t), s3, .val (.int s), .val (ed (sideE (t.1, t.2.1) s))], cup⟩ = .ok (.int ((aget l (sideE (t.1, t.2.1) s)).getD 0 + 1), ⟨[V, .own (.dct (encD edK PV.int l)), .val (sq t), s3, .val (.int s), .val (ed (sideE (t.1, t.2.1) s))], cup⟩) := by
    have e := get2_ok (Φ := callN F (d + 1)) (st := ⟨[V, .own (.dct (encD edK PV.int l)), .val (sq t), s3, .val (.int s), .val (ed (sideE (t.1, t.2.1) s))], cup⟩) (i := 1) (j := 5) (z := 0) rfl rfl (kOk_enc edK PV.int l (sideE (t.1, t.2.1) s))
    rw [show ed (sideE (t.1, t.2.1) s) = edK.enc (sideE (t.1, t.2.1) s) from rfl, dget_enc] at e
    have e2 : ((aget l (sideE (t.1, t.2.1) s)).map PV.int).getD (.int 0) = .int ((aget l (sideE (t.1, t.2.1) s)).getD 0) := by cases aget l (sideE (t.1, t.2.1) s) <;> rfl
    rw [e2] at e
    have e3 : ev (callN F (d + 1)) (.meth .get2 (.bor 1) [(.var 5), (.lit (.int 0))]) ⟨[V, .own (.dct (encD edK PV.int l)), .val (sq t), s3, .val (.int s), .val (ed (sideE (t.1, t.2.1) s))], cup⟩ = _ := e
    rw [r_op, r_evs, e3, rbind_ok, r_evs, r_lit, rbind_ok, r_evs0, rbind_ok, rbind_ok, rbind_ok]
    rfl
  have k3 := r_setD (Φ := callN F (d + 1)) (i := 1) (k := .var 5) (x := .int ((aget l (sideE (t.1, t.2.1) s)).getD 0 + 1)) (y := edK.enc (sideE (t.1, t.2.1) s)) (z := .dct (encD edK PV.int l)) (kvs := encD edK PV.int l) k2 rfl (va_ok rfl) rfl (kOk_enc edK PV.int l _) (fitsL_k (by rw [encD_len]; omega))
  rw [dset_enc edK PV.int l (sideE (t.1, t.2.1) s) ((aget l (sideE (t.1, t.2.1) s)).getD 0 + 1)] at k3
  rw [ft_nm]
  exact (sq_nx (as_nm k1)).trans ((sq_nx k3).trans r_exs0)
theorem ed_sortable (L : List Edge) : sortable (L.map ed) = true := by
  have h1 : allAlike (L.map ed) = true := by
    unfold allAlike
    rw [List.all_eq_true]
    intro x hx
    obtain ⟨a, _, rfl⟩ := List.mem_map.mp hx
    rw [Bool.and_eq_true, List.all_eq_true]
    refine ⟨edK.fine a, fun y hy => ?_⟩
    obtain ⟨b, _, rfl⟩ := List.mem_map.mp hy
    simp [ed, pr, PV.alike, PV.alikes]
  unfold sortable
  rw [h1, Bool.true_and, Bool.or_eq_true]
  refine .inl (List.all_eq_true.mpr fun x hx => ?_)
  obtain ⟨a, _, rfl⟩ := List.mem_map.mp hx
  rfl
theorem bsort_ed (L : List Edge) : bifV .sorted [.lst (L.map ed)] = .ok (.lst (sortV (L.map ed))) := by
  show (Res.of (sortable (L.map ed)) (Res.ok (PV.lst (sortV (L.map ed))))) = _
  rw [ed_sortable]; rfl
def dec : PV → Edge
  | .tup [.tup [.int a, .int b], .tup [.int c, .int e]] => ((a, b), (c, e))
  | _ => ((0, 0), (0, 0))
theorem sort_ed (L : List Edge) : ∃ L' : List Edge, L'.Perm L ∧ sortV (L.map ed) = L'.map ed := by
  have hp : (sortV (L.map ed)).Perm (L.map ed) := List.mergeSort_perm _ _
  have hall : ∀ x ∈ sortV (L.map ed), ∃ e, x = ed e := fun x hx => by
    obtain ⟨e, _, rfl⟩ := List.mem_map.mp (hp.mem_iff.mp hx)
    exact ⟨e, rfl⟩
  generalize hS : sortV (L.map ed) = S at *
  clear hS
  have hL : ∃ L' : List Edge, S = L'.map ed := by
    clear hp
    induction S with
    | nil => exact ⟨[], rfl⟩
    | cons x S ih =>
      obtain ⟨e, rfl⟩ := hall x List.mem_cons_self
      obtain ⟨L', rfl⟩ := ih fun y hy => hall y (List.mem_cons_of_mem _ hy)
      exact ⟨e :: L', rfl⟩
  obtain ⟨L', rfl⟩ := hL
  refine ⟨L', ?_, rfl⟩
  have hm := hp.map dec
  rw [List.map_map, List.map_map, show dec ∘ ed = id from funext fun _ => rfl, List.map_id, List.map_id] at hm
  exact hm
theorem border_in_run {k ka kb : Nat} (h : FnIs F k 1 6 (borderB ka kb)) (A : FnIs F ka 2 4 sideB) (B : FnIs F kb 1 4 slantB) {ts : List (Int × Int × Int)} (hf : Fig ts) : callN F (d + 2) k [.tup (ts.map sq)] cup = .ok (.lst (borderP ts), cup) := by
  obtain ⟨f, hk, hn, hss, hb⟩ := h
  have hst : startE f [.tup (ts.map sq)] = [.val (.tup (ts.map sq)), .unk, .unk, .unk, .unk, .unk] := by simp [startE, hss]
  have hkind : ∀ t ∈ ts, 1 ≤ t.2.2 ∧ t.2.2 ≤ 5 := fun t ht => (hf.rng t ht).2.2
  have hel := edges_len ts hkind
  have hlen := hf.len
  obtain ⟨st', loop, s2, s4, s5, rfl, h5, h2⟩ := for_fold (turn := forTurn (callN F (d + 1)) (.nm 2) [.for (.nm 4) sidesC (brIn ka)]) sq (fun l st => ∃ s2 s4 s5, st = ⟨[.val (.tup (ts.map sq)), .own (.dct (encD edK PV.int l)), s2, .unk, s4, s5], cup⟩ ∧ (∀ v, s5 ≠ .own v) ∧ (∀ v, s2 ≠ .own v)) stepS (xs := ts) (a := [])
    (st := ⟨[.val (.tup (ts.map sq)), .own (.dct []), .unk, .unk, .unk, .unk], cup⟩) ⟨_, _, _, rfl, (fun _ e => nomatch e), fun _ e => nomatch e⟩ fun ys t zs e st ⟨s2, s4, s5, es, h5, _⟩ => by
      subst es
      have ht := hkind t (by rw [e]; simp)
      have hys : (edges ys).length ≤ 4 * ys.length := edges_len ys fun u hu => hkind u (by rw [e]; simp [hu])
      have hyl : ys.length ≤ 60 := by rw [e] at hlen; simp at hlen; omega
      have hl0 : (ys.foldl stepS []).length ≤ 240 := by
        rw [stepS_all]
        have := stepC_len (edges ys) []
        simp at this; omega
      generalize ys.foldl stepS [] = l at *
      obtain ⟨st2, e2, s4', s5', rfl, h5'⟩ := for_fold (turn := forTurn (callN F (d + 1)) (.nm 4) (brIn ka)) PV.int (fun l st => ∃ s4 s5, st = ⟨[.val (.tup (ts.map sq)), .own (.dct (encD edK PV.int l)), .val (sq t), .unk, s4, s5], cup⟩ ∧ (∀ v, s5 ≠ .own v)) (fun l s => stepC l (sideE (t.1, t.2.1) s)) (xs := sidesOf t.2.2) (a := l)
        (st := ⟨[.val (.tup (ts.map sq)), .own (.dct (encD edK PV.int l)), .val (sq t), .unk, s4, s5], cup⟩) ⟨_, _, rfl, h5⟩ fun us s ws eu st ⟨s4, s5, es, h5⟩ => by
          subst es
          have hs := sidesOf_rng ht s (by rw [eu]; simp)
          have hu4 : us.length ≤ 4 := by have := sidesOf_len ht; rw [eu] at this; simp at this; omega
          have hl1 : (us.foldl (fun l s => stepC l (sideE (t.1, t.2.1) s)) l).length ≤ 1000 := by
            have := stepC_len (us.map (sideE (t.1, t.2.1))) l
            rw [List.foldl_map, List.length_map] at this
            omega
          exact ⟨_, brIn_run (d := d) A hs hl1, _, _, rfl, fun _ e => nomatch e⟩
      refine ⟨_, ?_, .val (sq t), s4', s5', rfl, h5', fun _ e => nomatch e⟩
      rw [ft_nm]
      have hq : (stepS l t) = (sidesOf t.2.2).foldl (fun l s => stepC l (sideE (t.1, t.2.1) s)) l := by unfold stepS; rw [List.foldl_map]
      rw [hq]
      exact (sq_nx (fr_ok (sidesC_run ht rfl) rfl e2)).trans r_exs0
  rw [stepS_all] at loop
  have hcl : ((edges ts).foldl stepC []).length ≤ 1000 := by have := stepC_len (edges ts) []; simp at this; omega
  have hcd : (edges ts).foldl stepC [] = cntD (edges ts) := rfl
  rw [hcd] at loop hcl
  have kS : ev (callN F (d + 1)) (brSl kb) ⟨[.val (.tup (ts.map sq)), .own (.dct (encD edK PV.int (cntD (edges ts)))), s2, .unk, s4, s5], cup⟩ = .ok (.lst ((slants ts).map ed), ⟨[.val (.tup (ts.map sq)), .own (.dct (encD edK PV.int (cntD (edges ts)))), s2, .unk, s4, s5], cup⟩) := by
    have e : (slants ts).map ed = (ts.map sq).flatMap fun x => match x with | .tup [.int a, .int b, .int k] => if k = 5 then [] else [ed (slantE (a, b, k))] | _ => [] := by
      unfold slants
      rw [List.map_map]
      refine (fm_filter sq (ed ∘ slantE) _ (fun t => decide (t.2.2 ≠ 5)) fun t ht => ?_).symm
      show (if t.2.2 = 5 then [] else [ed (slantE t)]) = _
      by_cases h5 : t.2.2 = 5 <;> simp [h5]
    rw [e]
    refine lc_fm _ (v := .tup (ts.map sq)) (va_ok rfl) rfl (by intro i hi p; simp at hi; subst hi; simpa using h2 p) (by rw [← e, List.length_map]; unfold slants; rw [List.length_map]; exact Nat.le_trans (List.length_filter_le _ _) (by unfold LIM; omega)) fun x hx => ?_
    obtain ⟨t, _, rfl⟩ := List.mem_map.mp hx
    have ks := slant_run (F := F) (d := d) (cup := cup) B t
    generalize encD edK PV.int (cntD (edges ts)) = D
    generalize PV.tup (ts.map sq) = V
    refine ⟨[.val V, .own (.dct D), .val (sq t), .unk, s4, s5], ?_, by simp [wipeE]⟩
    have hi : idxV cup (sq t) (.int 2) = .ok (.int t.2.2) := by simp [sq, idxV, atI, ixN]
    show _ = Res.ok (if t.2.2 = 5 then [] else [ed (slantE t)], _)
    simp [lcTurn, wipeE, hi, ks]
    by_cases h5 : t.2.2 = 5 <;> simp [h5]
  have kO : ev (callN F (d + 1)) brOne ⟨[.val (.tup (ts.map sq)), .own (.dct (encD edK PV.int (cntD (edges ts)))), s2, .val (.lst ((slants ts).map ed)), s4, s5], cup⟩ = .ok (.lst ((singles ts).map ed), ⟨[.val (.tup (ts.map sq)), .val (.dct (encD edK PV.int (cntD (edges ts)))), s2, .val (.lst ((slants ts).map ed)), s4, s5], cup⟩) := by
    have hkeys : ltOf (.dct (encD edK PV.int (cntD (edges ts)))) = some (((cntD (edges ts)).map (·.1)).map ed) := by
      show some ((encD edK PV.int (cntD (edges ts))).map (·.1)) = _
      rw [encD_keys]; rfl
    have e : (singles ts).map ed = (((cntD (edges ts)).map (·.1)).map ed).flatMap fun x => if (aget (cntD (edges ts)) (dec x)).getD 0 = 1 then [x] else [] := by
      unfold singles
      refine (fm_filter ed ed _ (fun e => decide ((aget (cntD (edges ts)) e).getD 0 = 1)) fun e _ => ?_).symm
      show (if (aget (cntD (edges ts)) e).getD 0 = 1 then [ed e] else []) = _
      by_cases h1 : (aget (cntD (edges ts)) e).getD 0 = 1 <;> simp [h1]
    have hl : ((singles ts).map ed).length ≤ LIM := by
      rw [List.length_map]
      unfold singles
      exact Nat.le_trans (List.length_filter_le _ _) (by rw [List.length_map]; unfold LIM; omega)
    rw [e] at hl ⊢
    refine lc_fm _ (va_own rfl) hkeys (by intro i hi p; simp at hi; subst hi; simpa using h5 p) hl fun x hx => ?_
    obtain ⟨y, hy, rfl⟩ := List.mem_map.mp hx
    obtain ⟨n, hn⟩ := aget_of_key hy
    have hi : idxV cup (.dct (encD edK PV.int (cntD (edges ts)))) (ed y) = .ok (.int n) := by
      show Res.of (kOk (encD edK PV.int (cntD (edges ts))) (edK.enc y)) (Res.ofOpt (dget (encD edK PV.int (cntD (edges ts))) (edK.enc y))) = _
      rw [kOk_enc, rof_t, dget_enc, hn]; rfl
    show ∃ env', _ = Res.ok (if (aget (cntD (edges ts)) y).getD 0 = 1 then [ed y] else [], _) ∧ _
    rw [hn]
    generalize encD edK PV.int (cntD (edges ts)) = D at *
    generalize PV.tup (ts.map sq) = V
    generalize PV.lst ((slants ts).map ed) = SL
    refine ⟨[.val V, .val (.dct D), s2, .val SL, s4, .val (ed y)], ?_, by simp [wipeE]⟩
    simp [lcTurn, wipeE, hi]
    by_cases h1 : n = 1 <;> simp [h1]
  have kN : ev (callN F (d + 1)) (.op .dct []) ⟨[.val (.tup (ts.map sq)), .unk, .unk, .unk, .unk, .unk], cup⟩ = .ok (.dct [], ⟨[.val (.tup (ts.map sq)), .unk, .unk, .unk, .unk, .unk], cup⟩) := by simp
  have hfit : fits (((singles ts).map ed).length + ((slants ts).map ed).length) = true := by
    refine fits_k ?_
    have h1 : (singles ts).length ≤ (cntD (edges ts)).length := by unfold singles; exact Nat.le_trans (List.length_filter_le _ _) (by rw [List.length_map]; exact Nat.le_refl _)
    have h2 : (slants ts).length ≤ ts.length := by unfold slants; rw [List.length_map]; exact List.length_filter_le _ _
    rw [List.length_map, List.length_map]; omega
  have kA : ev (callN F (d + 1)) (.op (.bif .sorted) [.op .add [brOne, .bor 3]]) ⟨[.val (.tup (ts.map sq)), .own (.dct (encD edK PV.int (cntD (edges ts)))), s2, .val (.lst ((slants ts).map ed)), s4, s5], cup⟩ = .ok (.lst (borderP ts), ⟨[.val (.tup (ts.map sq)), .val (.dct (encD edK PV.int (cntD (edges ts)))), s2, .val (.lst ((slants ts).map ed)), s4, s5], cup⟩) := by
    have e := bsort_ed (singles ts ++ slants ts)
    have ka : ev (callN F (d + 1)) (.op .add [brOne, .bor 3]) ⟨[.val (.tup (ts.map sq)), .own (.dct (encD edK PV.int (cntD (edges ts)))), s2, .val (.lst ((slants ts).map ed)), s4, s5], cup⟩ = .ok (.lst ((singles ts ++ slants ts).map ed), ⟨[.val (.tup (ts.map sq)), .val (.dct (encD edK PV.int (cntD (edges ts)))), s2, .val (.lst ((slants ts).map ed)), s4, s5], cup⟩) := by
      rw [r_op, r_evs, kO, rbind_ok, r_evs, bo_ok rfl, rbind_ok, r_evs0, rbind_ok, rbind_ok, rbind_ok]
      show ((Res.ok _).bind _) = _
      rw [rbind_ok, o_add]
      show ((Res.of (fits (((singles ts).map ed).length + ((slants ts).map ed).length)) _).bind _) = _
      rw [hfit, rof_t, rbind_ok, List.map_append]
    rw [r_op, r_evs, ka, rbind_ok, r_evs0, rbind_ok, rbind_ok]
    show ((Res.ok _).bind _) = _
    rw [rbind_ok, o_bif, e]; rfl
  exact fn_rt (st1 := ⟨[.val (.tup (ts.map sq)), .val (.dct (encD edK PV.int (cntD (edges ts)))), s2, .val (.lst ((slants ts).map ed)), s4, s5], cup⟩) hk (by rw [hn]; rfl) (by
    rw [hb, hst]
    exact (sq_nx (as_o kN)).trans ((sq_nx (fr_ok (va_ok rfl) rfl loop)).trans ((sq_nx (as_nm kS)).trans (sq_rt (rt_ok kA)))))
end
end Py
end

section
set_option Elab.async false
set_option linter.all false
set_option autoImplicit false
set_option maxRecDepth 100000
/-! Borders: the plain law. -/
namespace Py
section
variable {κ α : Type} [DecidableEq κ]
theorem aget_nil (k : κ) : aget ([] : List (κ × α)) k = none := rfl
theorem aget_cons (p : κ × α) (l : List (κ × α)) (k : κ) : aget (p :: l) k = if p.1 = k then some p.2 else aget l k := by
  unfold aget
  rw [List.find?_cons]
  by_cases h : p.1 = k
  · rw [decide_eq_true h, if_pos h]; rfl
  · rw [decide_eq_false h, if_neg h]
theorem ahas_cons (p : κ × α) (l : List (κ × α)) (k : κ) : ahas (p :: l) k = (decide (p.1 = k) || ahas l k) := by
  unfold ahas; rw [List.any_cons]
theorem aget_none {l : List (κ × α)} {k : κ} (h : ahas l k = false) : aget l k = none := by
  induction l with
  | nil => rfl
  | cons p l ih =>
    rw [ahas_cons, Bool.or_eq_false_iff] at h
    rw [aget_cons, if_neg (of_decide_eq_false h.1), ih h.2]
theorem aset_cons_eq {p : κ × α} {l : List (κ × α)} {x : α} (h : ∀ q ∈ l, q.1 ≠ p.1) : aset (p :: l) p.1 x = (p.1, x) :: l := by
  unfold aset
  rw [ahas_cons, decide_eq_true rfl, Bool.true_or, if_pos rfl, List.map_cons, if_pos rfl]
  congr 1
  have : ∀ l : List (κ × α), (∀ q ∈ l, q.1 ≠ p.1) → ∀ x : α, l.map (fun e => if e.1 = p.1 then (e.1, x) else e) = l := by
    intro l
    induction l with
    | nil => exact fun _ _ => rfl
    | cons q l ih =>
      intro h x
      rw [List.map_cons, if_neg (h q List.mem_cons_self), ih (fun r hr => h r (List.mem_cons_of_mem _ hr))]
  exact this l h _
theorem aset_cons_ne {p : κ × α} {l : List (κ × α)} {k : κ} {x : α} (h : p.1 ≠ k) : aset (p :: l) k x = p :: aset l k x := by
  unfold aset
  rw [ahas_cons, decide_eq_false h, Bool.false_or]
  split
  · rw [List.map_cons, if_neg h]
  · rfl
theorem aset_nil (k : κ) (x : α) : aset ([] : List (κ × α)) k x = [(k, x)] := rfl
theorem aget_aset {l : List (κ × α)} (hn : (l.map (·.1)).Nodup) (k j : κ) (x : α) : aget (aset l k x) j = if k = j then some x else aget l j := by
  induction l with
  | nil => rw [aset_nil, aget_cons]
  | cons p l ih =>
    rw [List.map_cons, List.nodup_cons] at hn
    by_cases h : p.1 = k
    · subst h
      rw [aset_cons_eq fun q hq e => hn.1 (by rw [← e]; exact List.mem_map_of_mem hq), aget_cons, aget_cons]
      split <;> rfl
    · rw [aset_cons_ne h, aget_cons, aget_cons, ih hn.2]
      by_cases h2 : p.1 = j
      · subst h2
        rw [if_pos rfl, if_pos rfl, if_neg (fun e => h e.symm)]
      · rw [if_neg h2, if_neg h2]
end
/-! ### weights -/
def wsum (w : Edge → Int) (l : List (Edge × Int)) : Int := (l.map fun p => p.2 * w p.1).sum
theorem wsum_step (w : Edge → Int) : ∀ {l : List (Edge × Int)} (e : Edge), (l.map (·.1)).Nodup → wsum w (stepC l e) = wsum w l + w e
  | [], e, _ => by simp [wsum, stepC, aset, ahas, aget]
  | p :: l, e, hn => by
    rw [List.map_cons, List.nodup_cons] at hn
    unfold stepC
    by_cases h : p.1 = e
    · subst h
      rw [aset_cons_eq (fun q hq e => hn.1 (by rw [← e]; exact List.mem_map_of_mem hq)), aget_cons, if_pos rfl]
      simp only [wsum, List.map_cons, List.sum_cons, Option.getD_some]
      rw [Int.add_mul, Int.one_mul]; omega
    · rw [aset_cons_ne h, aget_cons, if_neg h]
      have ih := wsum_step w (l := l) e hn.2
      unfold stepC at ih
      simp only [wsum, List.map_cons, List.sum_cons] at ih ⊢
      omega
theorem stepC_nodup {l : List (Edge × Int)} {e : Edge} (h : (l.map (·.1)).Nodup) : ((stepC l e).map (·.1)).Nodup := aset_nodup h
theorem cnt_nodup : ∀ (es : List Edge) {l : List (Edge × Int)}, (l.map (·.1)).Nodup → ((es.foldl stepC l).map (·.1)).Nodup
  | [], l, h => h
  | e :: es, l, h => cnt_nodup es (stepC_nodup h)
theorem wsum_fold (w : Edge → Int) : ∀ (es : List Edge) {l : List (Edge × Int)}, (l.map (·.1)).Nodup → wsum w (es.foldl stepC l) = wsum w l + (es.map w).sum
  | [], l, _ => by simp
  | e :: es, l, h => by
    rw [List.foldl_cons, wsum_fold w es (stepC_nodup h), wsum_step w e h, List.map_cons, List.sum_cons]; omega
theorem cnt_get : ∀ (es : List Edge) {l : List (Edge × Int)} (e : Edge), (l.map (·.1)).Nodup → (aget (es.foldl stepC l) e).getD 0 = (aget l e).getD 0 + (es.count e : Int)
  | [], l, e, _ => by simp
  | x :: es, l, e, h => by
    rw [List.foldl_cons, cnt_get es e (stepC_nodup h)]
    unfold stepC
    rw [aget_aset h, List.count_cons]
    by_cases hx : x = e
    · subst hx
      rw [if_pos rfl]
      simp; omega
    · rw [if_neg hx, if_neg (by simpa using hx)]
      simp
theorem nil_nodup : ((([] : List (Edge × Int))).map (·.1)).Nodup := List.nodup_nil
theorem cnt_key (es : List Edge) : ∀ p ∈ cntD es, p.2 = (es.count p.1 : Int) := fun p hp => by
  have hn := cnt_nodup es nil_nodup
  have h := cnt_get es p.1 nil_nodup
  have hg : aget (cntD es) p.1 = some p.2 := by
    have : ∀ (l : List (Edge × Int)), (l.map (·.1)).Nodup → p ∈ l → aget l p.1 = some p.2 := by
      intro l
      induction l with
      | nil => exact fun _ h => nomatch h
      | cons q l ih =>
        intro hn hp
        rw [List.map_cons, List.nodup_cons] at hn
        rw [aget_cons]
        rcases List.mem_cons.mp hp with rfl | hp
        · rw [if_pos rfl]
        · rw [if_neg (fun e => hn.1 (by rw [e]; exact List.mem_map_of_mem hp)), ih hn.2 hp]
    exact this _ hn hp
  unfold cntD at hg
  rw [hg, aget_nil] at h
  simpa using h
theorem cnt_mem : ∀ (es : List Edge) {l : List (Edge × Int)} {e : Edge}, e ∈ (es.foldl stepC l).map (·.1) ↔ e ∈ l.map (·.1) ∨ e ∈ es
  | [], l, e => by simp
  | x :: es, l, e => by
    rw [List.foldl_cons, cnt_mem es]
    unfold stepC
    rw [aset_keys, List.mem_cons]
    by_cases hx : ahas l x = true
    · rw [if_pos hx]
      have := ahas_iff.mp hx
      constructor
      · rintro (h | h)
        · exact .inl h
        · exact .inr (.inr h)
      · rintro (h | rfl | h)
        · exact .inl h
        · exact .inl this
        · exact .inr h
    · rw [if_neg hx, List.mem_append, List.mem_singleton]
      constructor
      · rintro ((h | h) | h)
        · exact .inl h
        · exact .inr (.inl h)
        · exact .inr (.inr h)
      · rintro (h | h | h)
        · exact .inl (.inl h)
        · exact .inl (.inr h)
        · exact .inr h
/-! ### a side is two squares' at most -/
theorem sideE_inj {p q : Int × Int} {s u : Int} (hs : 0 ≤ s ∧ s ≤ 3) (hu : 0 ≤ u ∧ u ≤ 3) (h : sideE p s = sideE q u) :
    (p = q ∧ s = u) ∨ (s = 0 ∧ u = 2 ∧ q = (p.1, p.2 - 1)) ∨ (s = 2 ∧ u = 0 ∧ q = (p.1, p.2 + 1)) ∨ (s = 1 ∧ u = 3 ∧ q = (p.1 + 1, p.2)) ∨ (s = 3 ∧ u = 1 ∧ q = (p.1 - 1, p.2)) := by
  obtain ⟨a, b⟩ := p
  obtain ⟨c, e⟩ := q
  rcases sides4 hs with rfl | rfl | rfl | rfl <;> rcases sides4 hu with rfl | rfl | rfl | rfl <;> simp [sideE] at h ⊢ <;> omega
theorem sidesOf_nodup {k : Int} (hk : 1 ≤ k ∧ k ≤ 5) : (sidesOf k).Nodup := by
  rcases kinds5 hk with rfl | rfl | rfl | rfl | rfl <;> decide
/-- where the squares of a side lie -/
def nearOf (e : Edge) : (Int × Int) × (Int × Int) := if e.1.2 = e.2.2 then (e.1, (e.1.1, e.1.2 - 1)) else (e.1, (e.1.1 - 1, e.1.2))
theorem side_near {p : Int × Int} {s : Int} (hs : 0 ≤ s ∧ s ≤ 3) : p = (nearOf (sideE p s)).1 ∨ p = (nearOf (sideE p s)).2 := by
  obtain ⟨a, b⟩ := p
  have hb : ¬ (b = b + 1) := by omega
  rcases sides4 hs with rfl | rfl | rfl | rfl <;> simp [sideE, nearOf, hb]
theorem two_only {α : Type} {l : List α} {a b : α} (hn : l.Nodup) (h : ∀ x ∈ l, x = a ∨ x = b) : l.length ≤ 2 := by
  match l, hn, h with
  | [], _, _ => simp
  | [_], _, _ => simp
  | [_, _], _, _ => simp
  | x :: y :: z :: r, hn, h =>
    have hx := h x (by simp)
    have hy := h y (by simp)
    have hz := h z (by simp)
    simp only [List.nodup_cons, List.mem_cons, not_or] at hn
    obtain ⟨⟨h1, h2, _⟩, ⟨h3, _⟩, _⟩ := hn
    rcases hx with rfl | rfl <;> rcases hy with rfl | rfl <;> rcases hz with rfl | rfl <;> simp_all
theorem count_one {p : Int × Int} {k : Int} (hk : 1 ≤ k ∧ k ≤ 5) (e : Edge) : ((sidesOf k).map (sideE p)).count e ≤ 1 := by
  have hn : ((sidesOf k).map (sideE p)).Nodup := by
    rcases kinds5 hk with rfl | rfl | rfl | rfl | rfl <;> simp [sidesOf, sideE] <;> omega
  exact List.nodup_iff_count.mp hn e
theorem count_two : ∀ {ts : List (Int × Int × Int)}, (plc ts).Nodup → (∀ t ∈ ts, 1 ≤ t.2.2 ∧ t.2.2 ≤ 5) → ∀ e : Edge, (edges ts).count e ≤ 2 := by
  intro ts hn hk e
  have key : ∀ ts : List (Int × Int × Int), (∀ t ∈ ts, 1 ≤ t.2.2 ∧ t.2.2 ≤ 5) → (edges ts).count e ≤ (ts.filter fun t => decide ((t.1, t.2.1) = (nearOf e).1 ∨ (t.1, t.2.1) = (nearOf e).2)).length := by
    intro ts
    induction ts with
    | nil => exact fun _ => Nat.le_refl _
    | cons t ts ih =>
      intro hk
      have h1 := ih fun t ht => hk t (List.mem_cons_of_mem _ ht)
      have h2 := count_one (p := (t.1, t.2.1)) (hk t List.mem_cons_self) e
      have h3 : (edges (t :: ts)).count e = ((sidesOf t.2.2).map (sideE (t.1, t.2.1))).count e + (edges ts).count e := by
        unfold edges; rw [List.flatMap_cons, List.count_append]
      rw [h3, List.filter_cons]
      by_cases hm : e ∈ (sidesOf t.2.2).map (sideE (t.1, t.2.1))
      · obtain ⟨s, hs, rfl⟩ := List.mem_map.mp hm
        have hnr := side_near (p := (t.1, t.2.1)) (sidesOf_rng (hk t List.mem_cons_self) s hs)
        rw [decide_eq_true hnr, if_pos rfl, List.length_cons]
        omega
      · rw [List.count_eq_zero.mpr hm]
        split
        · rw [List.length_cons]; omega
        · omega
  refine Nat.le_trans (key ts hk) ?_
  have hp : (plc (ts.filter fun t => decide ((t.1, t.2.1) = (nearOf e).1 ∨ (t.1, t.2.1) = (nearOf e).2))).Nodup := by
    unfold plc at hn ⊢
    exact List.Nodup.sublist (List.Sublist.map _ List.filter_sublist) hn
  have := two_only hp (a := (nearOf e).1) (b := (nearOf e).2) fun x hx => by
    obtain ⟨t, ht, rfl⟩ := List.mem_map.mp hx
    exact of_decide_eq_true (List.mem_filter.mp ht).2
  unfold plc at this
  rwa [List.length_map] at this
/-! ### what the sides come to -/
def doubles (ts : List (Int × Int × Int)) : List Edge := ((cntD (edges ts)).filter fun p => decide (p.2 = 2)).map (·.1)
theorem cnt_12 {ts : List (Int × Int × Int)} (hn : (plc ts).Nodup) (hk : ∀ t ∈ ts, 1 ≤ t.2.2 ∧ t.2.2 ≤ 5) : ∀ p ∈ cntD (edges ts), p.2 = 1 ∨ p.2 = 2 := fun p hp => by
  have h1 := cnt_key (edges ts) p hp
  have h2 := count_two hn hk p.1
  have h3 : p.1 ∈ edges ts := by
    have := (cnt_mem (edges ts) (l := []) (e := p.1)).mp (List.mem_map_of_mem hp)
    simpa using this
  have h4 := List.count_pos_iff.mpr h3
  omega
theorem singles_eq (ts : List (Int × Int × Int)) : singles ts = ((cntD (edges ts)).filter fun p => decide (p.2 = 1)).map (·.1) := by
  have hg : ∀ p ∈ cntD (edges ts), (aget (cntD (edges ts)) p.1).getD 0 = p.2 := fun p hp => by
    rw [show cntD (edges ts) = (edges ts).foldl stepC [] from rfl, cnt_get (edges ts) p.1 nil_nodup, cnt_key (edges ts) p hp]
    simp [aget]
  unfold singles
  rw [List.filter_map]
  congr 1
  exact List.filter_congr fun p hp => by
    show decide ((aget (cntD (edges ts)) p.1).getD 0 = 1) = _
    rw [hg p hp]
theorem wsum_split (w : Edge → Int) : ∀ {l : List (Edge × Int)}, (∀ p ∈ l, p.2 = 1 ∨ p.2 = 2) → wsum w l = (((l.filter fun p => decide (p.2 = 1)).map (·.1)).map w).sum + 2 * (((l.filter fun p => decide (p.2 = 2)).map (·.1)).map w).sum
  | [], _ => by simp [wsum]
  | p :: l, h => by
    have ih := wsum_split w (l := l) fun q hq => h q (List.mem_cons_of_mem _ hq)
    unfold wsum at ih ⊢
    rw [List.map_cons, List.sum_cons, ih, List.filter_cons, List.filter_cons]
    rcases h p List.mem_cons_self with h1 | h1
    · rw [h1, decide_eq_true rfl, decide_eq_false (by omega), if_pos rfl, if_neg Bool.false_ne_true]
      simp only [List.map_cons, List.sum_cons]; omega
    · rw [h1, decide_eq_false (by omega), decide_eq_true rfl, if_neg Bool.false_ne_true, if_pos rfl]
      simp only [List.map_cons, List.sum_cons]; omega
theorem edges_w {ts : List (Int × Int × Int)} (hn : (plc ts).Nodup) (hk : ∀ t ∈ ts, 1 ≤ t.2.2 ∧ t.2.2 ≤ 5) (w : Edge → Int) : ((edges ts).map w).sum = ((singles ts).map w).sum + 2 * ((doubles ts).map w).sum := by
  have h := wsum_fold w (edges ts) nil_nodup
  have h2 := wsum_split w (cnt_12 hn hk)
  rw [singles_eq]
  unfold doubles
  rw [← h2]
  simp only [wsum, List.map_nil, List.sum_nil] at h ⊢
  rw [show cntD (edges ts) = (edges ts).foldl stepC [] from rfl]
  omega
theorem sum_ones {α : Type} (l : List α) : (l.map fun _ => (1 : Int)).sum = l.length := by
  induction l with
  | nil => rfl
  | cons a l ih => rw [List.map_cons, List.sum_cons, ih, List.length_cons]; omega
theorem edges_many {ts : List (Int × Int × Int)} (hn : (plc ts).Nodup) (hk : ∀ t ∈ ts, 1 ≤ t.2.2 ∧ t.2.2 ≤ 5) : ((edges ts).length : Int) = (singles ts).length + 2 * (doubles ts).length := by
  have := edges_w hn hk fun _ => 1
  rwa [sum_ones, sum_ones, sum_ones] at this
/-! ### the law's own table of sides -/
def stepF (s : List (Edge × Bool) × Int) (e : Edge) : List (Edge × Bool) × Int := (aset s.1 e (!ahas s.1 e), s.2 + if ahas s.1 e = true then 1 else 0)
def foundD (es : List Edge) : List (Edge × Bool) × Int := es.foldl stepF ([], 0)
def mapV (l : List (Edge × Int)) : List (Edge × Bool) := l.map fun p => (p.1, decide (p.2 = 1))
theorem mapV_has (l : List (Edge × Int)) (e : Edge) : ahas (mapV l) e = ahas l e := by
  unfold ahas mapV
  rw [List.any_map]; rfl
theorem mapV_set (l : List (Edge × Int)) (e : Edge) (n : Int) : mapV (aset l e n) = aset (mapV l) e (decide (n = 1)) := by
  unfold aset
  rw [mapV_has]
  split
  · unfold mapV
    rw [List.map_map, List.map_map]
    refine List.map_congr_left fun p _ => ?_
    show (_, _) = if p.1 = e then _ else _
    by_cases h : p.1 = e
    · simp [h]
    · simp [h]
  · unfold mapV; rw [List.map_append]; rfl
theorem aget_pos {l : List (Edge × Int)} (hp : ∀ p ∈ l, 1 ≤ p.2) {e : Edge} (h : ahas l e = true) : 1 ≤ (aget l e).getD 0 := by
  obtain ⟨x, hx⟩ := aget_of_key (ahas_iff.mp h)
  rw [hx]
  exact hp _ (aget_mem hx)
theorem found_is : ∀ (es : List Edge) {l : List (Edge × Int)} {n : Int}, (∀ p ∈ l, 1 ≤ p.2) → (es.foldl stepF (mapV l, n)).1 = mapV (es.foldl stepC l) ∧ (es.foldl stepF (mapV l, n)).2 + ((es.foldl stepC l).length : Int) = n + (l.length : Int) + (es.length : Int)
  | [], l, n, _ => ⟨rfl, by simp⟩
  | e :: es, l, n, hp => by
    have hp' : ∀ p ∈ stepC l e, 1 ≤ p.2 := aset_all (P := fun _ v => 1 ≤ v) hp (by
      cases h : ahas l e with
      | true => have := aget_pos hp h; omega
      | false => rw [aget_none h]; simp)
    have hs : stepF (mapV l, n) e = (mapV (stepC l e), n + if ahas l e = true then 1 else 0) := by
      unfold stepF stepC
      dsimp only
      rw [mapV_has, mapV_set]
      congr 2
      cases h : ahas l e with
      | true => have := aget_pos hp h; rw [decide_eq_false (by omega)]; rfl
      | false => rw [aget_none h]; rfl
    obtain ⟨h1, h2⟩ := found_is es (l := stepC l e) (n := n + if ahas l e = true then 1 else 0) hp'
    rw [List.foldl_cons, List.foldl_cons, hs]
    refine ⟨h1, ?_⟩
    have hl : ((stepC l e).length : Int) = l.length + if ahas l e = true then 0 else 1 := by
      unfold stepC aset
      split
      · rw [List.length_map]; simp
      · rw [List.length_append]; simp
    rw [h2, hl, List.length_cons]
    split <;> omega
/-- the sides that the law keeps -/
theorem found_keys (es : List Edge) : ((foundD es).1.map (·.1)).filter (fun e => (aget (foundD es).1 e).getD false) = ((cntD es).map (·.1)).filter fun e => decide ((aget (cntD es) e).getD 0 = 1) := by
  have h := (found_is es (l := []) (n := 0) (fun _ h => nomatch h)).1
  have h' : (foundD es).1 = mapV (cntD es) := h
  rw [h']
  have hk : (mapV (cntD es)).map (·.1) = (cntD es).map (·.1) := by unfold mapV; rw [List.map_map]; rfl
  rw [hk]
  refine List.filter_congr fun e he => ?_
  have : ∀ l : List (Edge × Int), (aget (mapV l) e) = (aget l e).map fun n => decide (n = 1) := by
    intro l
    induction l with
    | nil => rfl
    | cons p l ih =>
      show aget ((p.1, decide (p.2 = 1)) :: mapV l) e = _
      rw [aget_cons, aget_cons, ih]
      split <;> rfl
  rw [this]
  obtain ⟨x, hx⟩ := aget_of_key he
  rw [hx]; rfl
theorem found_many {ts : List (Int × Int × Int)} (hn : (plc ts).Nodup) (hk : ∀ t ∈ ts, 1 ≤ t.2.2 ∧ t.2.2 ≤ 5) : (foundD (edges ts)).2 = (doubles ts).length := by
  have h := (found_is (edges ts) (l := []) (n := 0) (fun _ h => nomatch h)).2
  have h1 := edges_many hn hk
  have h2 : ((cntD (edges ts)).length : Int) = (singles ts).length + (doubles ts).length := by
    rw [singles_eq]
    unfold doubles
    rw [List.length_map, List.length_map]
    have : ∀ l : List (Edge × Int), (∀ p ∈ l, p.2 = 1 ∨ p.2 = 2) → l.length = (l.filter fun p => decide (p.2 = 1)).length + (l.filter fun p => decide (p.2 = 2)).length := by
      intro l
      induction l with
      | nil => exact fun _ => rfl
      | cons p l ih =>
        intro h
        have := ih fun q hq => h q (List.mem_cons_of_mem _ hq)
        rw [List.filter_cons, List.filter_cons, List.length_cons]
        rcases h p List.mem_cons_self with h1 | h1
        · rw [h1, decide_eq_true rfl, decide_eq_false (by omega), if_pos rfl, if_neg Bool.false_ne_true, List.length_cons]; omega
        · rw [h1, decide_eq_false (by omega), decide_eq_true rfl, if_neg Bool.false_ne_true, if_pos rfl, List.length_cons]; omega
    rw [this _ (cnt_12 hn hk)]
    omega
  have h' : (foundD (edges ts)).2 + ((cntD (edges ts)).length : Int) = 0 + (([] : List (Edge × Int)).length : Int) + ((edges ts).length : Int) := h
  simp at h'
  omega
/-! ### ends -/
def inc (v : Int × Int) (e : Edge) : Int := (if e.1 = v then 1 else 0) + if e.2 = v then 1 else 0
theorem even_one {t : Int × Int × Int} (hk : 1 ≤ t.2.2 ∧ t.2.2 ≤ 5) (v : Int × Int) : ((((sidesOf t.2.2).map (sideE (t.1, t.2.1))).map (inc v)).sum + if t.2.2 = 5 then 0 else inc v (slantE t)) % 2 = 0 := by
  obtain ⟨x, y, k⟩ := t
  rcases kinds5 hk with h | h | h | h | h <;> (simp only at h; subst h; simp [sidesOf, sideE, slantE, inc]) <;> (repeat' split) <;> omega
theorem even_ends {ts : List (Int × Int × Int)} (hn : (plc ts).Nodup) (hk : ∀ t ∈ ts, 1 ≤ t.2.2 ∧ t.2.2 ≤ 5) (v : Int × Int) : (((singles ts).map (inc v)).sum + ((slants ts).map (inc v)).sum) % 2 = 0 := by
  have h1 := edges_w hn hk (inc v)
  have h2 : (((edges ts).map (inc v)).sum + ((slants ts).map (inc v)).sum) % 2 = 0 := by
    clear h1 hn
    induction ts with
    | nil => rfl
    | cons t ts ih =>
      have e1 := even_one (hk t List.mem_cons_self) v
      have e2 := ih fun t ht => hk t (List.mem_cons_of_mem _ ht)
      have e3 : ((edges (t :: ts)).map (inc v)).sum = (((sidesOf t.2.2).map (sideE (t.1, t.2.1))).map (inc v)).sum + ((edges ts).map (inc v)).sum := by
        unfold edges; rw [List.flatMap_cons, List.map_append, List.sum_append]
      have e4 : ((slants (t :: ts)).map (inc v)).sum = (if t.2.2 = 5 then 0 else inc v (slantE t)) + ((slants ts).map (inc v)).sum := by
        unfold slants
        rw [List.filter_cons]
        by_cases h5 : t.2.2 = 5
        · rw [if_pos h5, decide_eq_false (by simpa using h5), if_neg Bool.false_ne_true]; omega
        · rw [if_neg h5, decide_eq_true h5, if_pos rfl, List.map_cons, List.map_cons, List.sum_cons]
      rw [e3, e4]
      omega
  omega
end Py
end

section
set_option Elab.async false
set_option linter.all false
set_option autoImplicit false
set_option maxRecDepth 100000
/-! Comprehensions over lists of a kind. -/
namespace Py
open PySem (Str CmpOp)

theorem lc_encI {β : Type} {turn : PV → St → Res (List PV × St)} (enc : β → PV) (g : β → List PV) (I : St → Prop) : ∀ {l : List β} {st : St}, I st → (∀ b ∈ l, ∀ s, I s → ∃ s', turn (enc b) s = .ok (g b, s') ∧ I s') → ∃ s', lcLoop turn (l.map enc) st = .ok (l.flatMap g, s') ∧ I s'
  | [], st, h0, _ => ⟨st, rfl, h0⟩
  | b :: l, st, h0, h => by
    obtain ⟨s1, e1, i1⟩ := h b List.mem_cons_self st h0
    obtain ⟨s2, e2, i2⟩ := lc_encI enc g I (l := l) i1 fun y hy => h y (List.mem_cons_of_mem _ hy)
    refine ⟨s2, ?_, i2⟩
    show (turn (enc b) st).bind _ = _
    rw [e1, rbind_ok, e2, List.flatMap_cons]
    rfl
theorem fm_sel {β : Type} (h : β → PV) (q : β → Bool) : ∀ l : List β, (l.flatMap fun b => if q b = true then [h b] else []) = (l.filter q).map h
  | [] => rfl
  | b :: l => by
    rw [List.flatMap_cons, fm_sel h q l, List.filter_cons]
    cases q b <;> rfl
section
variable {Φ : Calls} {own : List Nat} {p : Pat} {it c elt : E} {st : St} {v : PV} {env : List Slot} {cup : Option (Int × Int)} {j : Nat} {β : Type}
theorem lc_sel (enc h : β → PV) (q : β → Bool) {l : List β} (hit : ev Φ it st = .ok (v, ⟨env, cup⟩)) (hl : ltOf v = some (l.map enc)) (hc : cleanE env own) (hlen : l.length ≤ 1000000)
    (turn : ∀ b ∈ l, ∃ env', lcTurn Φ own p c elt (enc b) ⟨env, cup⟩ = .ok (if q b = true then [h b] else [], ⟨env', cup⟩) ∧ wipeE env' own = wipeE env own) : ev Φ (.lc own p it c elt) st = .ok (.lst ((l.filter q).map h), ⟨env, cup⟩) := by
  rw [r_lc, hit, rbind_ok, hl, rofOpt_s, rbind_ok]
  obtain ⟨s', e, h1, h2⟩ := lc_encI (turn := lcTurn Φ own p c elt) enc (fun b => if q b = true then [h b] else []) (fun s => wipeE s.env own = wipeE env own ∧ s.cup = cup) (l := l) (st := ⟨env, cup⟩) ⟨rfl, rfl⟩ fun x hx s ⟨i1, i2⟩ => by
    obtain ⟨env', e, w⟩ := turn x hx
    exact ⟨⟨env', cup⟩, (lcTurn_congr i1 i2).trans e, w, rfl⟩
  rw [fm_sel] at e
  have hf : fits ((l.filter q).map h).length = true := fits_of (by rw [List.length_map]; exact Nat.le_trans (List.length_filter_le _ _) (by unfold LIM; omega))
  rw [e, rbind_ok, hf, rof_t]
  show Res.ok (PV.lst _, ({ s' with env := backE env s'.env own } : St)) = _
  rw [back_same h1 hc, h2]
theorem wipe_set {x : Slot} : wipeE (env.set j x) [j] = wipeE env [j] := by
  show (env.set j x).set j .unk = env.set j .unk
  rw [List.set_set]
/-- one name, a test -/
theorem lc_nm (enc h : β → PV) (q : β → Bool) {l : List β} (hit : ev Φ it st = .ok (v, ⟨env, cup⟩)) (hl : ltOf v = some (l.map enc)) (hc : cleanE env [j]) (hlen : l.length ≤ 1000000)
    (turn : ∀ b ∈ l, ev Φ c ⟨env.set j (.val (enc b)), cup⟩ = .ok (.bl (q b), ⟨env.set j (.val (enc b)), cup⟩) ∧ (q b = true → ev Φ elt ⟨env.set j (.val (enc b)), cup⟩ = .ok (h b, ⟨env.set j (.val (enc b)), cup⟩))) : ev Φ (.lc [j] (.nm j) it c elt) st = .ok (.lst ((l.filter q).map h), ⟨env, cup⟩) := by
  refine lc_sel enc h q hit hl hc hlen fun b hb => ⟨env.set j (.val (enc b)), ?_, wipe_set⟩
  obtain ⟨t1, t2⟩ := turn b hb
  unfold lcTurn
  have hw : (wipeE env [j]).set j (.val (enc b)) = env.set j (.val (enc b)) := by
    show (env.set j .unk).set j _ = _
    rw [List.set_set]
  rw [bindP_nm, rbind_ok]
  show ((ev Φ c ⟨(wipeE env [j]).set j (.val (enc b)), cup⟩).bind _) = _
  rw [hw, t1, rbind_ok, ifB_bl]
  cases hq : q b with
  | false => rfl
  | true => rw [if_pos rfl, t2 hq, rbind_ok]; rfl
/-- one name, no test -/
theorem lc_all (enc h : β → PV) {l : List β} (hit : ev Φ it st = .ok (v, ⟨env, cup⟩)) (hl : ltOf v = some (l.map enc)) (hc : cleanE env [j]) (hlen : l.length ≤ 1000000)
    (turn : ∀ b ∈ l, ev Φ elt ⟨env.set j (.val (enc b)), cup⟩ = .ok (h b, ⟨env.set j (.val (enc b)), cup⟩)) : ev Φ (.lc [j] (.nm j) it (.lit (.bl true)) elt) st = .ok (.lst (l.map h), ⟨env, cup⟩) := by
  have e := lc_nm (c := .lit (.bl true)) enc h (fun _ => true) hit hl hc hlen fun b hb => ⟨r_lit _, fun _ => turn b hb⟩
  rwa [List.filter_eq_self.mpr fun _ _ => rfl] at e
/-- two names -/
theorem lc_two {i : Nat} (enc e1 e2 h : β → PV) (he : ∀ b, enc b = .tup [e1 b, e2 b]) (q : β → Bool) {l : List β} (hij : i ≠ j) (hit : ev Φ it st = .ok (v, ⟨env, cup⟩)) (hl : ltOf v = some (l.map enc)) (hc : cleanE env [i, j]) (hlen : l.length ≤ 1000000)
    (turn : ∀ b ∈ l, ev Φ c ⟨(env.set i (.val (e1 b))).set j (.val (e2 b)), cup⟩ = .ok (.bl (q b), ⟨(env.set i (.val (e1 b))).set j (.val (e2 b)), cup⟩) ∧ (q b = true → ev Φ elt ⟨(env.set i (.val (e1 b))).set j (.val (e2 b)), cup⟩ = .ok (h b, ⟨(env.set i (.val (e1 b))).set j (.val (e2 b)), cup⟩))) : ev Φ (.lc [i, j] (.tup [.nm i, .nm j]) it c elt) st = .ok (.lst ((l.filter q).map h), ⟨env, cup⟩) := by
  have hw : ∀ x y : Slot, wipeE ((env.set i x).set j y) [i, j] = wipeE env [i, j] := fun x y => by
    show (((env.set i x).set j y).set j .unk).set i .unk = (env.set j .unk).set i .unk
    rw [List.set_set, List.set_comm _ _ hij, List.set_set, List.set_comm _ _ (Ne.symm hij)]
  refine lc_sel enc h q hit hl hc hlen fun b hb => ⟨(env.set i (.val (e1 b))).set j (.val (e2 b)), ?_, hw _ _⟩
  obtain ⟨t1, t2⟩ := turn b hb
  unfold lcTurn
  have hw2 : ((wipeE env [i, j]).set i (.val (e1 b))).set j (.val (e2 b)) = (env.set i (.val (e1 b))).set j (.val (e2 b)) := by
    show ((((env.set j .unk).set i .unk).set i _).set j _) = _
    rw [List.set_set, List.set_comm _ _ (Ne.symm hij), List.set_set, ]
  rw [he, bindP_tup, bindPs_cons, bindP_nm, rbind_ok, bindPs_cons, bindP_nm, rbind_ok, bindPs_nil, rbind_ok]
  show ((ev Φ c ⟨((wipeE env [i, j]).set i (.val (e1 b))).set j (.val (e2 b)), cup⟩).bind _) = _
  rw [hw2, t1, rbind_ok, ifB_bl]
  cases hq : q b with
  | false => rfl
  | true => rw [if_pos rfl, t2 hq, rbind_ok]; rfl
/-- a value in a slot is read -/
theorem sl_v {i : Nat} (h : env[i]? = some (.val v)) : slotV env i = .ok v := by unfold slotV; rw [h]
theorem cl_unk {i : Nat} (h : ∀ p, env[i]? ≠ some (.own p)) : cleanE env [i] := by
  intro k hk p; rw [List.mem_singleton] at hk; subst hk; exact h p
/-- operations on one and on two values -/
theorem op1 {o : Op} {e : E} {st st1 : St} {x y : PV} (hb : isBorE e = false) (h : ev Φ e st = .ok (x, st1)) (ho : opV st1.cup o [x] = .ok y) : ev Φ (.op o [e]) st = .ok (y, st1) := by
  have hr : reread [e] [x] st1 = .ok [x] := by cases e <;> first | rfl | exact nomatch hb
  rw [r_op, r_evs, h, rbind_ok, r_evs0, rbind_ok, rbind_ok, hr, rbind_ok, ho, rbind_ok]
theorem op2 {o : Op} {e e' : E} {st st1 st2 : St} {x x' y : PV} (hb : isBorE e = false) (hb' : isBorE e' = false) (h : ev Φ e st = .ok (x, st1)) (h' : ev Φ e' st1 = .ok (x', st2)) (ho : opV st2.cup o [x, x'] = .ok y) : ev Φ (.op o [e, e']) st = .ok (y, st2) := by
  have hr : reread [e, e'] [x, x'] st2 = .ok [x, x'] := by
    have h1 : reread [e'] [x'] st2 = .ok [x'] := by cases e' <;> first | rfl | exact nomatch hb'
    cases e <;> first | (show (reread [e'] [x'] st2).bind _ = _; rw [h1]; rfl) | exact nomatch hb
  rw [r_op, r_evs, h, rbind_ok, r_evs, h', rbind_ok, r_evs0, rbind_ok, rbind_ok, rbind_ok, hr, rbind_ok, ho, rbind_ok]
theorem op3 {o : Op} {e e' e'' : E} {st st1 st2 st3 : St} {x x' x'' y : PV} (hb : isBorE e = false) (hb' : isBorE e' = false) (hb'' : isBorE e'' = false) (h : ev Φ e st = .ok (x, st1)) (h' : ev Φ e' st1 = .ok (x', st2)) (h'' : ev Φ e'' st2 = .ok (x'', st3)) (ho : opV st3.cup o [x, x', x''] = .ok y) : ev Φ (.op o [e, e', e'']) st = .ok (y, st3) := by
  have hr : reread [e, e', e''] [x, x', x''] st3 = .ok [x, x', x''] := by
    have h2 : reread [e''] [x''] st3 = .ok [x''] := by cases e'' <;> first | rfl | exact nomatch hb''
    have h1 : reread [e', e''] [x', x''] st3 = .ok [x', x''] := by
      cases e' <;> first | (show (reread [e''] [x''] st3).bind _ = _; rw [h2]; rfl) | exact nomatch hb'
    cases e <;> first | (show (reread [e', e''] [x', x''] st3).bind _ = _; rw [h1]; rfl) | exact nomatch hb
  rw [r_op, r_evs, h, rbind_ok, r_evs, h', rbind_ok, r_evs, h'', rbind_ok, r_evs0, rbind_ok, rbind_ok, rbind_ok, rbind_ok, hr, rbind_ok, ho, rbind_ok]
theorem b_len_of {e : E} {st st1 : St} {xs : List PV} (hb : isBorE e = false) (h : ev Φ e st = .ok (.lst xs, st1)) : ev Φ (.op (.bif .len) [e]) st = .ok (PV.int (xs.length : Int), st1) := op1 hb h rfl
end
end Py
end

section
set_option Elab.async false
set_option linter.all false
set_option autoImplicit false
set_option maxRecDepth 100000
/-! Environments by what they hold. -/
namespace Py
open PySem (Str CmpOp)

abbrev Has (env : List Slot) (i : Nat) (v : PV) : Prop := env[i]? = some (.val v)
/-- the right length, nothing owned but at ex -/
structure EnvOk (env : List Slot) (n : Nat) (ex : List Nat) : Prop where
  len : env.length = n
  no : ∀ i, i ∉ ex → ∀ p, env[i]? ≠ some (.own p)
def Keeps (is : List Nat) (env env' : List Slot) : Prop := ∀ i, i ∉ is → env'[i]? = env[i]?
section
variable {env env' : List Slot} {i j n : Nat} {v w : PV} {s : Slot} {ex is : List Nat}
theorem Has.ne (h : Has env j v) (hij : i ≠ j) : Has (env.set i s) j v := by
  unfold Has; rw [List.getElem?_set_ne hij]; exact h
theorem Has.self (h : i < env.length) : Has (env.set i (.val v)) i v := List.getElem?_set_self h
theorem EnvOk.self (h : EnvOk env n ex) (hi : i < n) : Has (env.set i (.val v)) i v := List.getElem?_set_self (by rw [h.len]; exact hi)
theorem EnvOk.set (h : EnvOk env n ex) : EnvOk (env.set i (.val v)) n ex := ⟨by rw [List.length_set, h.len], fun k hk p => by
  by_cases e : i = k
  · subst e
    by_cases hl : i < env.length
    · rw [List.getElem?_set_self hl]; exact fun e => nomatch e
    · rw [List.getElem?_eq_none (by rw [List.length_set]; omega)]; exact fun e => nomatch e
  · rw [List.getElem?_set_ne e]; exact h.no k hk p⟩
/-- a slot that was owned is given away -/
theorem EnvOk.clr (h : EnvOk env n (i :: ex)) : EnvOk (env.set i (.val v)) n ex := ⟨by rw [List.length_set, h.len], fun k hk p => by
  by_cases e : i = k
  · subst e
    by_cases hl : i < env.length
    · rw [List.getElem?_set_self hl]; exact fun e => nomatch e
    · rw [List.getElem?_eq_none (by rw [List.length_set]; omega)]; exact fun e => nomatch e
  · rw [List.getElem?_set_ne e]; exact h.no k (by rw [List.mem_cons, not_or]; exact ⟨Ne.symm e, hk⟩) p⟩
theorem EnvOk.own (h : EnvOk env n ex) : EnvOk (env.set i s) n (i :: ex) := ⟨by rw [List.length_set, h.len], fun k hk p => by
  rw [List.mem_cons, not_or] at hk
  rw [List.getElem?_set_ne (Ne.symm hk.1)]; exact h.no k hk.2 p⟩
theorem EnvOk.clean (h : EnvOk env n ex) {own : List Nat} (hd : ∀ i ∈ own, i ∉ ex) : cleanE env own := fun i hi p => h.no i (hd i hi) p
theorem EnvOk.clean1 (h : EnvOk env n ex) (hd : i ∉ ex) : cleanE env [i] := fun k hk p => h.no k (by rw [List.mem_singleton] at hk; subst hk; exact hd) p
theorem EnvOk.clean2 (h : EnvOk env n ex) (hd : i ∉ ex) (hd' : j ∉ ex) : cleanE env [i, j] := fun k hk p => h.no k (by
  simp only [List.mem_cons, List.not_mem_nil, or_false] at hk
  rcases hk with rfl | rfl
  · exact hd
  · exact hd') p
theorem Has.sl (h : Has env i v) : slotV env i = .ok v := sl_v h
theorem Has.fz (h : Has env i v) : frz env i = env := by unfold frz; rw [show env[i]? = some (.val v) from h]
theorem Keeps.has (k : Keeps is env env') (h : Has env i v) (hi : i ∉ is) : Has env' i v := by unfold Has; rw [k i hi]; exact h
theorem Keeps.refl : Keeps is env env := fun _ _ => rfl
theorem Keeps.set (k : Keeps is env env') (hi : i ∈ is) : Keeps is env (env'.set i s) := fun m hm => by
  rw [List.getElem?_set_ne (fun e => hm (by rw [← e]; exact hi))]; exact k m hm
theorem Keeps.trans {e3 : List Slot} (k : Keeps is env env') (k2 : Keeps is env' e3) : Keeps is env e3 := fun m hm => (k2 m hm).trans (k m hm)
theorem Keeps.mono {is' : List Nat} (k : Keeps is env env') (h : ∀ i ∈ is, i ∈ is') : Keeps is' env env' := fun m hm => k m fun hi => hm (h m hi)
end
/-! reading by simp -/
section
variable {env : List Slot} {i j : Nat} {v : PV} {s : Slot}
theorem sl_self (h : i < env.length) : slotV (env.set i (.val v)) i = .ok v := sl_v (List.getElem?_set_self h)
theorem sl_ne (h : i ≠ j) : slotV (env.set i s) j = slotV env j := by unfold slotV; rw [List.getElem?_set_ne h]
theorem fz_self (h : i < env.length) : frz (env.set i (.val v)) i = env.set i (.val v) := Has.fz (Has.self h)
theorem fz_ne (h : i ≠ j) : frz (env.set i s) j = (frz env j).set i s := by
  unfold frz
  rw [List.getElem?_set_ne h]
  cases env[j]? with
  | none => rfl
  | some z => cases z <;> first | rfl | exact List.set_comm _ _ h
end
theorem c_in_D {κ α : Type} [DecidableEq κ] (Q : Kd κ) (f : α → PV) (l : List (κ × α)) (k : κ) : cmpV .In (Q.enc k) (.dct (encD Q f l)) = .ok (.bl (ahas l k)) := by
  show (Res.of (kOk (encD Q f l) (Q.enc k)) (Res.ok (dhas (encD Q f l) (Q.enc k)))).bind _ = _
  rw [kOk_enc, dhas_enc]; rfl
theorem c_nin_D {κ α : Type} [DecidableEq κ] (Q : Kd κ) (f : α → PV) (l : List (κ × α)) (k : κ) : cmpV .NotIn (Q.enc k) (.dct (encD Q f l)) = .ok (.bl (!ahas l k)) := by
  show ((Res.of (kOk (encD Q f l) (Q.enc k)) (Res.ok (dhas (encD Q f l) (Q.enc k)))).bind fun b => Res.ok (!b)).bind _ = _
  rw [kOk_enc, dhas_enc]; rfl
theorem idx_D {κ α : Type} [DecidableEq κ] (Q : Kd κ) (f : α → PV) (l : List (κ × α)) (k : κ) {cu : Option (Int × Int)} {x : α} (h : aget l k = some x) : idxV cu (.dct (encD Q f l)) (Q.enc k) = .ok (f x) := by
  show Res.of (kOk (encD Q f l) (Q.enc k)) (Res.ofOpt (dget (encD Q f l) (Q.enc k))) = _
  rw [kOk_enc, dget_enc, h]; rfl
theorem ft_sq {Φ : Calls} {i j k : Nat} {b : List S} {t : Int × Int × Int} {env : List Slot} {c : Option (Int × Int)} : forTurn Φ (.tup [.nm i, .nm j, .nm k]) b (sq t) ⟨env, c⟩ = exs Φ b ⟨((env.set i (.val (.int t.1))).set j (.val (.int t.2.1))).set k (.val (.int t.2.2)), c⟩ := by
  unfold forTurn
  show ((bindP (.tup [.nm i, .nm j, .nm k]) (.tup [.int t.1, .int t.2.1, .int t.2.2]) env).bind _) = _
  rw [bindP_tup, bindPs_cons, bindP_nm, rbind_ok, bindPs_cons, bindP_nm, rbind_ok, bindPs_cons, bindP_nm, rbind_ok, bindPs_nil, rbind_ok]
theorem srt2 {a b : Int × Int} (h : leP a b = true) : srtP [a, b] = [a, b] := srtP_of (by simp [h])
theorem srt2' {a b : Int × Int} (h : leP a b = false) : srtP [a, b] = [b, a] := by
  unfold srtP
  simp [List.mergeSort, List.MergeSort.Internal.splitInTwo, h]
theorem perm_sum {l m : List Int} (h : l.Perm m) : l.sum = m.sum := by
  induction h with
  | nil => rfl
  | cons x _ ih => rw [List.sum_cons, List.sum_cons, ih]
  | swap x y l => simp only [List.sum_cons]; omega
  | trans _ _ i1 i2 => rw [i1, i2]
end Py
end

section
set_option Elab.async false
set_option linter.all false
set_option autoImplicit false
set_option maxRecDepth 100000
/-! Oblongs of whole squares, plainly. -/
namespace Py
open PySem (Str CmpOp)
/-! ### the order of edges -/
def ltE (a b : Edge) : Bool := ltP a.1 b.1 || (decide (a.1 = b.1) && ltP a.2 b.2)
def leE (a b : Edge) : Bool := !ltE b a
theorem ltE_iff {a b : Edge} : ltE a b = true ↔ a.1.1 < b.1.1 ∨ (a.1.1 = b.1.1 ∧ (a.1.2 < b.1.2 ∨ (a.1.2 = b.1.2 ∧ (a.2.1 < b.2.1 ∨ (a.2.1 = b.2.1 ∧ a.2.2 < b.2.2))))) := by
  unfold ltE
  rw [Bool.or_eq_true, Bool.and_eq_true, ltP_iff, ltP_iff, decide_eq_true_eq, Prod.ext_iff]
  omega
theorem leE_iff {a b : Edge} : leE a b = true ↔ a.1.1 < b.1.1 ∨ (a.1.1 = b.1.1 ∧ (a.1.2 < b.1.2 ∨ (a.1.2 = b.1.2 ∧ (a.2.1 < b.2.1 ∨ (a.2.1 = b.2.1 ∧ a.2.2 ≤ b.2.2))))) := by
  unfold leE
  rw [Bool.not_eq_true', ← Bool.not_eq_true, ltE_iff]
  omega
theorem leE_trans {a b c : Edge} (h : leE a b = true) (g : leE b c = true) : leE a c = true := by
  rw [leE_iff] at h g ⊢; omega
theorem leE_total (a b : Edge) : (leE a b || leE b a) = true := by
  rw [Bool.or_eq_true, leE_iff, leE_iff]; omega
theorem leE_anti {a b : Edge} (h : leE a b = true) (g : leE b a = true) : a = b := by
  rw [leE_iff] at h g
  exact Prod.ext (Prod.ext (by omega) (by omega)) (Prod.ext (by omega) (by omega))
theorem ed_lt (a b : Edge) : (ed a).lt (ed b) = ltE a b := by
  show PV.lts [pr a.1, pr a.2] [pr b.1, pr b.2] = _
  simp only [PV.lts, pr_eqv, pr_lt, ltE]
  by_cases h : a.1 = b.1
  · rw [h]; simp [ltP_irr]
    by_cases h2 : a.2 = b.2
    · rw [h2]; simp [ltP_irr]
    · simp [h2]
  · simp [h]
def srtE (l : List Edge) : List Edge := l.mergeSort leE
theorem srtE_perm (l : List Edge) : (srtE l).Perm l := List.mergeSort_perm l leE
theorem srtE_sorted (l : List Edge) : (srtE l).Pairwise fun a b => leE a b = true := List.pairwise_mergeSort (le := leE) (fun _ _ _ h g => leE_trans h g) leE_total l
theorem sort_edE (l : List Edge) : sortV (l.map ed) = (srtE l).map ed := by
  unfold sortV srtE
  refine (List.map_mergeSort fun a _ b _ => ?_).symm
  show leE a b = !(PV.lt (ed b) (ed a))
  rw [ed_lt]; rfl
theorem sorted_eq {l m : List Edge} (h : l.Perm m) (h1 : l.Pairwise fun a b => leE a b = true) (h2 : m.Pairwise fun a b => leE a b = true) : l = m :=
  List.Perm.eq_of_pairwise (le := fun a b => leE a b = true) (fun a b _ _ h g => leE_anti h g) h1 h2 h
theorem b_sorted_e (L : List Edge) : bifV .sorted [.lst (L.map ed)] = .ok (.lst ((srtE L).map ed)) := by rw [bsort_ed, sort_edE]
/-! ### the least by a key -/
def ltK (k : Edge → Int) (a b : Edge) : Bool := decide (k a < k b) || (decide (k a = k b) && ltE a b)
def gK (k : Edge → Int) (e : Edge) : PV := .tup [.int (k e), ed e]
theorem gK_lt (k : Edge → Int) (a b : Edge) : (gK k a).lt (gK k b) = ltK k a b := by
  show PV.lts [.int (k a), ed a] [.int (k b), ed b] = _
  simp only [PV.lts, ed_eqv, ed_lt, ltK, PV.eqv, PV.lt]
  by_cases h : k a = k b
  · simp [h]
    by_cases h2 : a = b
    · subst h2
      have : ltE a a = false := by rw [← Bool.not_eq_true, ltE_iff]; omega
      simp [this]
    · simp [h2]
  · simp [h]
theorem ltK_trans {k : Edge → Int} {a b c : Edge} (h : ltK k a b = true) (g : ltK k b c = true) : ltK k a c = true := by
  unfold ltK at *
  simp only [Bool.or_eq_true, Bool.and_eq_true, decide_eq_true_eq, ltE_iff] at *
  omega
theorem ltK_irr {k : Edge → Int} {a : Edge} : ltK k a a = false := by
  rw [← Bool.not_eq_true]
  unfold ltK
  simp only [Bool.or_eq_true, Bool.and_eq_true, decide_eq_true_eq, ltE_iff]
  omega
/-- the least -/
def Least (k : Edge → Int) (L : List Edge) (m : Edge) : Prop := m ∈ L ∧ ∀ y ∈ L, ltK k y m = false
theorem least_fold (k : Edge → Int) : ∀ (L : List Edge) (a : Edge), ∃ m, (L.map (gK k)).foldl (fun a y => if PV.lt y a then y else a) (gK k a) = gK k m ∧ Least k (a :: L) m
  | [], a => ⟨a, rfl, by simp, fun y hy => by rw [List.mem_singleton.mp hy]; exact ltK_irr⟩
  | b :: L, a => by
    rw [List.map_cons, List.foldl_cons, gK_lt]
    cases h : ltK k b a with
    | true =>
      rw [if_pos rfl]
      obtain ⟨m, e, h1, h2⟩ := least_fold k L b
      refine ⟨m, e, List.mem_cons_of_mem _ h1, fun y hy => ?_⟩
      rcases List.mem_cons.mp hy with rfl | hy
      · cases h3 : ltK k y m with
        | false => rfl
        | true => have := ltK_trans h h3; rw [h2 b List.mem_cons_self] at this; cases this
      · exact h2 y hy
    | false =>
      rw [if_neg Bool.false_ne_true]
      obtain ⟨m, e, h1, h2⟩ := least_fold k L a
      refine ⟨m, e, ?_, fun y hy => ?_⟩
      · rcases List.mem_cons.mp h1 with rfl | h1
        · exact List.mem_cons_self
        · exact List.mem_cons_of_mem _ (List.mem_cons_of_mem _ h1)
      · rcases List.mem_cons.mp hy with rfl | hy
        · exact h2 y List.mem_cons_self
        · rcases List.mem_cons.mp hy with rfl | hy
          · cases h3 : ltK k y m with
            | false => rfl
            | true =>
              have ha := h2 a List.mem_cons_self
              unfold ltK at h h3 ha
              rw [← Bool.not_eq_true] at h ha
              simp only [Bool.or_eq_true, Bool.and_eq_true, decide_eq_true_eq, ltE_iff] at *
              omega
          · exact h2 y (List.mem_cons_of_mem _ hy)
theorem gK_alike (k : Edge → Int) (L : List Edge) : allAlike (L.map (gK k)) = true := by
  unfold allAlike
  rw [List.all_eq_true]
  intro x hx
  obtain ⟨a, _, rfl⟩ := List.mem_map.mp hx
  rw [Bool.and_eq_true, List.all_eq_true]
  refine ⟨by simp [gK, ed, pr, PV.fine, PV.plain, PV.plains, PV.depth, PV.depths], fun y hy => ?_⟩
  obtain ⟨b, _, rfl⟩ := List.mem_map.mp hy
  simp [gK, ed, pr, PV.alike, PV.alikes]
theorem b_min_k (k : Edge → Int) {L : List Edge} (h : L ≠ []) : ∃ m, bifV .min [.lst (L.map (gK k))] = .ok (gK k m) ∧ Least k L m := by
  cases L with
  | nil => exact absurd rfl h
  | cons a L =>
    obtain ⟨m, e, hm⟩ := least_fold k L a
    refine ⟨m, ?_, hm⟩
    show Res.of (allAlike ((a :: L).map (gK k)) && true) (Res.ok ((L.map (gK k)).foldl (fun a y => if PV.lt y a = true then y else a) (gK k a))) = _
    rw [gK_alike, e]; rfl
/-- the first of the best of the sorted ones -/
theorem least_head {k : Edge → Int} {L S : List Edge} {m : Edge} (hp : S.Perm L) (hs : S.Pairwise fun a b => leE a b = true) (h : Least k L m) : ∃ r, (S.filter fun e => decide (k e = k m)) = m :: r := by
  have hm : m ∈ S.filter fun e => decide (k e = k m) := List.mem_filter.mpr ⟨hp.mem_iff.mpr h.1, by simp⟩
  have hp2 : (S.filter fun e => decide (k e = k m)).Pairwise fun a b => leE a b = true := hs.sublist List.filter_sublist
  cases hf : S.filter fun e => decide (k e = k m) with
  | nil => rw [hf] at hm; cases hm
  | cons b r =>
    rw [hf] at hm hp2
    have hb : b ∈ S.filter fun e => decide (k e = k m) := by rw [hf]; exact List.mem_cons_self
    obtain ⟨hb1, hb2⟩ := List.mem_filter.mp hb
    have hkb : k b = k m := of_decide_eq_true hb2
    have h1 := h.2 b (hp.mem_iff.mp hb1)
    rcases List.mem_cons.mp hm with rfl | hm
    · exact ⟨r, rfl⟩
    · have h2 := (List.pairwise_cons.mp hp2).1 m hm
      have : b = m := by
        refine leE_anti h2 ?_
        unfold ltK at h1
        rw [← Bool.not_eq_true] at h1
        simp only [Bool.or_eq_true, Bool.and_eq_true, decide_eq_true_eq, ltE_iff] at h1
        rw [leE_iff]; omega
      rw [this]; exact ⟨r, rfl⟩
/-! ### whole rectangles -/
def wh (l : List ((Int × Int) × Int)) (p : Int × Int) : Bool := decide ((aget l p).getD 0 = 5)
def Rect (l : List ((Int × Int) × Int)) (o : Edge) : Prop := o.1.1 < o.2.1 ∧ o.1.2 < o.2.2 ∧ ∀ x y, o.1.1 ≤ x → x < o.2.1 → o.1.2 ≤ y → y < o.2.2 → wh l (x, y) = true
def cells (x y : Int) (w h : Nat) : List (Int × Int) := (List.range w).flatMap fun (i : Nat) => (List.range h).map fun (j : Nat) => (x + (i : Int), y + (j : Int))
theorem cells_mem {x y : Int} {w h : Nat} {p : Int × Int} : p ∈ cells x y w h ↔ (x ≤ p.1 ∧ p.1 < x + w) ∧ (y ≤ p.2 ∧ p.2 < y + h) := by
  unfold cells
  rw [List.mem_flatMap]
  constructor
  · rintro ⟨i, hi, hp⟩
    obtain ⟨j, hj, rfl⟩ := List.mem_map.mp hp
    have := List.mem_range.mp hi
    have := List.mem_range.mp hj
    exact ⟨⟨by show x ≤ x + (i : Int); omega, by show x + (i : Int) < x + w; omega⟩, by show y ≤ y + (j : Int); omega, by show y + (j : Int) < y + h; omega⟩
  · rintro ⟨⟨h1, h2⟩, h3, h4⟩
    refine ⟨(p.1 - x).toNat, List.mem_range.mpr (by omega), List.mem_map.mpr ⟨(p.2 - y).toNat, List.mem_range.mpr (by omega), ?_⟩⟩
    exact Prod.ext (by show x + ((p.1 - x).toNat : Int) = p.1; omega) (by show y + ((p.2 - y).toNat : Int) = p.2; omega)
theorem cells_len (x y : Int) (w h : Nat) : (cells x y w h).length = w * h := by
  unfold cells
  rw [List.length_flatMap]
  have : (List.range w).map (fun (i : Nat) => ((List.range h).map fun (j : Nat) => (x + (i : Int), y + (j : Int))).length) = List.replicate w h := by
    rw [List.eq_replicate_iff]
    refine ⟨by rw [List.length_map, List.length_range], fun b hb => ?_⟩
    obtain ⟨i, _, rfl⟩ := List.mem_map.mp hb
    rw [List.length_map, List.length_range]
  rw [this]
  clear this
  induction w with
  | zero => simp
  | succ w ih => rw [List.replicate_succ, List.sum_cons, ih, Nat.succ_mul, Nat.add_comm]
theorem cells_nodup (x y : Int) (w h : Nat) : (cells x y w h).Nodup := by
  unfold cells List.Nodup
  rw [List.pairwise_flatMap]
  refine ⟨fun i _ => ?_, ?_⟩
  · rw [List.pairwise_map]
    exact List.Pairwise.imp (fun {a b} h e => by simp only [Prod.mk.injEq] at e; omega) (List.nodup_range (n := h))
  · refine List.Pairwise.imp (fun {a b} h p hp q hq e => ?_) (List.nodup_range (n := w))
    obtain ⟨_, _, rfl⟩ := List.mem_map.mp hp
    obtain ⟨_, _, rfl⟩ := List.mem_map.mp hq
    simp only [Prod.mk.injEq] at e
    omega
theorem same_len {α : Type} [DecidableEq α] {l m : List α} (h1 : l.Nodup) (h2 : m.Nodup) (h : ∀ a, a ∈ l ↔ a ∈ m) : l.length = m.length := ((List.perm_ext_iff_of_nodup h1 h2).mpr h).length_eq
/-- the whole squares within a box: as many as it has cells, where all are whole -/
theorem inside_all {W : List (Int × Int)} (hW : W.Nodup) {x y : Int} {w h : Nat} : (W.filter fun p => (decide (x ≤ p.1) && decide (p.1 < x + w)) && (decide (y ≤ p.2) && decide (p.2 < y + h))).length = w * h ↔ ∀ p ∈ cells x y w h, p ∈ W := by
  have e : (W.filter fun p => (decide (x ≤ p.1) && decide (p.1 < x + w)) && (decide (y ≤ p.2) && decide (p.2 < y + h))).length = ((cells x y w h).filter fun p => decide (p ∈ W)).length := by
    refine same_len (hW.sublist List.filter_sublist) ((cells_nodup x y w h).sublist List.filter_sublist) fun p => ?_
    rw [List.mem_filter, List.mem_filter, cells_mem]
    simp only [Bool.and_eq_true, decide_eq_true_eq]
    constructor
    · rintro ⟨a, b⟩; exact ⟨b, a⟩
    · rintro ⟨a, b⟩; exact ⟨b, a⟩
  rw [e, ← cells_len x y w h, List.length_filter_eq_length_iff]
  simp only [decide_eq_true_eq]
theorem cells_few {W : List (Int × Int)} {x y : Int} {w h : Nat} (hall : ∀ p ∈ cells x y w h, p ∈ W) : w * h ≤ W.length := by
  rw [← cells_len x y w h]
  exact List.Nodup.length_le_of_subset (cells_nodup x y w h) hall
/-! ### the walk over the columns -/
def ri (a b : Int) : List Int := (List.range (b - a).toNat).map fun (i : Nat) => a + (i : Int)
theorem ri_mem {a b x : Int} : x ∈ ri a b ↔ a ≤ x ∧ x < b := by
  unfold ri
  constructor
  · intro h
    obtain ⟨i, hi, rfl⟩ := List.mem_map.mp h
    have := List.mem_range.mp hi
    omega
  · rintro ⟨h1, h2⟩
    exact List.mem_map.mpr ⟨(x - a).toNat, List.mem_range.mpr (by omega), by omega⟩
theorem ri_nodup (a b : Int) : (ri a b).Nodup := by
  unfold ri List.Nodup
  rw [List.pairwise_map]
  exact List.Pairwise.imp (fun {x y} h e => h (by omega)) (List.nodup_range (n := (b - a).toNat))
theorem ri_len (a b : Int) : (ri a b).length = (b - a).toNat := by unfold ri; rw [List.length_map, List.length_range]
theorem rng_ri (a b : Int) : rng a b = (ri a b).map PV.int := by unfold rng ri; rw [List.map_map]; rfl
def newG (p : Int × Int) (w m : Int) : List Edge := (ri 1 (m + 1)).map fun h => (p, (p.1 + w, p.2 + h))
def InR (l : List ((Int × Int) × Int)) : Prop := ∀ q, wh l q = true → (-50 ≤ q.1 ∧ q.1 ≤ 50) ∧ (-50 ≤ q.2 ∧ q.2 ≤ 50)
structure Col (l : List ((Int × Int) × Int)) (p : Int × Int) (w m : Int) (G : List Edge) : Prop where
  w1 : 1 ≤ w ∧ w ≤ 102
  m1 : 0 ≤ m ∧ m ≤ 101
  all : ∀ i j, 0 ≤ i → i < w - 1 → 0 ≤ j → j < m → wh l (p.1 + i, p.2 + j) = true
  most : ∀ h, h ≤ 101 → (∀ i j, 0 ≤ i → i < w - 1 → 0 ≤ j → j < h → wh l (p.1 + i, p.2 + j) = true) → h ≤ m
  nd : G.Nodup
  mem : ∀ o, o ∈ G ↔ o.1 = p ∧ Rect l o ∧ o.2.1 ≤ p.1 + w - 1
  len : (G.length : Int) ≤ 101 * (w - 1)
theorem Col.start (l : List ((Int × Int) × Int)) (p : Int × Int) : Col l p 1 101 [] :=
  ⟨by omega, by omega, fun i j _ _ => by omega, fun h hh _ => hh, List.nodup_nil, fun o => ⟨(fun h => nomatch h), fun ⟨h1, h2, h3⟩ => by
    have := h2.1; rw [h1] at this; omega⟩, by simp⟩
theorem Col.step {l : List ((Int × Int) × Int)} (hr : InR l) {p : Int × Int} {w m m' : Int} {G : List Edge} (h : Col l p w m G) (hp : wh l p = true) (hw : wh l (p.1 + w - 1, p.2) = true) (h0 : 0 ≤ m') (h1 : m' ≤ m) (hc : ∀ j, 0 ≤ j → j < m' → wh l (p.1 + w - 1, p.2 + j) = true)
    (hs : m' = m ∨ wh l (p.1 + w - 1, p.2 + m') = false) : Col l p (w + 1) m' (G ++ newG p w m') := by
  have hpr := hr _ hp
  have hwr := hr _ hw
  have hm := h.m1
  have hw1 := h.w1
  have hall : ∀ i j, 0 ≤ i → i < w + 1 - 1 → 0 ≤ j → j < m' → wh l (p.1 + i, p.2 + j) = true := fun i j hi hi2 hj hj2 => by
    by_cases hiw : i < w - 1
    · exact h.all i j hi hiw hj (by omega)
    · have := hc j hj hj2
      rwa [show p.1 + w - 1 = p.1 + i by omega] at this
  have hmost : ∀ k, k ≤ 101 → (∀ i j, 0 ≤ i → i < w + 1 - 1 → 0 ≤ j → j < k → wh l (p.1 + i, p.2 + j) = true) → k ≤ m' := fun k hk hall => by
    have hkm := h.most k hk fun i j hi hi2 hj hj2 => hall i j hi (by omega) hj hj2
    rcases hs with rfl | hs
    · exact hkm
    · by_cases hlt : m' < k
      · have := hall (w - 1) m' (by omega) (by omega) h0 hlt
        rw [show p.1 + (w - 1) = p.1 + w - 1 by omega, hs] at this
        cases this
      · omega
  refine ⟨by simp at hwr; omega, by omega, hall, hmost, ?_, fun o => ?_, ?_⟩
  · rw [List.nodup_append]
    refine ⟨h.nd, ?_, fun a ha b hb e => ?_⟩
    · unfold newG List.Nodup
      rw [List.pairwise_map]
      exact List.Pairwise.imp (fun {x y} h e => h (by simp only [Prod.mk.injEq] at e; omega)) (ri_nodup 1 (m' + 1))
    · obtain ⟨k, _, rfl⟩ := List.mem_map.mp hb
      have := ((h.mem a).mp ha).2.2
      rw [e] at this
      dsimp only at this
      omega
  · rw [List.mem_append, h.mem]
    constructor
    · rintro (⟨a, b, c⟩ | hb)
      · exact ⟨a, b, by omega⟩
      · obtain ⟨k, hk, rfl⟩ := List.mem_map.mp hb
        rw [ri_mem] at hk
        refine ⟨rfl, ⟨by show p.1 < p.1 + w; omega, by show p.2 < p.2 + k; omega, fun x y hx hx2 hy hy2 => ?_⟩, by show p.1 + w ≤ _; omega⟩
        dsimp only at hx hx2 hy hy2
        have := hall (x - p.1) (y - p.2) (by omega) (by omega) (by omega) (by omega)
        rwa [show p.1 + (x - p.1) = x by omega, show p.2 + (y - p.2) = y by omega] at this
    · rintro ⟨a, b, c⟩
      by_cases hc : o.2.1 ≤ p.1 + w - 1
      · exact .inl ⟨a, b, hc⟩
      · refine .inr (List.mem_map.mpr ⟨o.2.2 - p.2, ?_, ?_⟩)
        · obtain ⟨b1, b2, b3⟩ := b
          rw [a] at b1 b2 b3
          have htop := hr _ (b3 p.1 (o.2.2 - 1) (by omega) (by omega) (by omega) (by omega))
          dsimp only at htop
          have := hmost (o.2.2 - p.2) (by omega) fun i j hi hi2 hj hj2 => b3 (p.1 + i) (p.2 + j) (by omega) (by omega) (by omega) (by omega)
          rw [ri_mem]; omega
        · obtain ⟨⟨a1, a2⟩, b1, b2⟩ := o
          simp only at a c hc
          subst a
          simp only [Prod.mk.injEq, true_and]
          omega
  · rw [List.length_append]
    unfold newG
    rw [List.length_map, ri_len]
    have := h.len
    omega
theorem Col.fin {l : List ((Int × Int) × Int)} {p : Int × Int} {w m : Int} {G : List Edge} (h : Col l p w m G) (hp : wh l p = true) (hw : wh l (p.1 + w - 1, p.2) = false) : ∀ o, o ∈ G ↔ o.1 = p ∧ Rect l o := fun o => by
  rw [h.mem]
  refine ⟨fun ⟨a, b, _⟩ => ⟨a, b⟩, fun ⟨a, b⟩ => ⟨a, b, ?_⟩⟩
  by_cases hc : o.2.1 ≤ p.1 + w - 1
  · exact hc
  · obtain ⟨b1, b2, b3⟩ := b
    rw [a] at b1 b2 b3
    have := b3 (p.1 + w - 1) p.2 (by have := h.w1; omega) (by omega) (by omega) (by omega)
    rw [hw] at this; cases this
/-! ### while loops -/
theorem wh_ind {α : Type} {cnd : St → Res (Bool × St)} {b : St → Res (Flow × St)} (S : α → St → Prop) (μ : α → Nat) (P : St → Prop)
    (h : ∀ a s, S a s → (∃ s', cnd s = .ok (false, s') ∧ P s') ∨ (∃ a' s1 s2, cnd s = .ok (true, s1) ∧ b s1 = .ok (.nx, s2) ∧ S a' s2 ∧ μ a' < μ a)) : ∀ (n : Nat) (a : α) (s : St), S a s → μ a < n → ∃ s', whileL cnd b n s = .ok (.nx, s') ∧ P s'
  | 0, a, s, _, hm => by omega
  | n + 1, a, s, hs, hm => by
    rcases h a s hs with ⟨s', e, hp⟩ | ⟨a', s1, s2, e1, e2, hs2, hlt⟩
    · refine ⟨s', ?_, hp⟩
      show (cnd s).bind _ = _
      rw [e]; rfl
    · obtain ⟨s', e, hp⟩ := wh_ind S μ P h n a' s2 hs2 (by omega)
      refine ⟨s', ?_, hp⟩
      show (cnd s).bind _ = _
      rw [e1, rbind_ok]
      show (b s1).bind _ = _
      rw [e2, rbind_ok]
      exact e
theorem r_while {Φ : Calls} {c : E} {b : List S} {st : St} : ex Φ (.while c b) st = whileL (fun st => test (ev Φ c st)) (fun st => exs Φ b st) WLIM st := by rw [ex]
theorem ex_while {α : Type} {Φ : Calls} {c : E} {b : List S} (S : α → St → Prop) (μ : α → Nat) (P : St → Prop) {a : α} {st : St} (h0 : S a st) (hm : μ a < 1000000000)
    (h : ∀ a s, S a s → (∃ s', ev Φ c s = .ok (.bl false, s') ∧ P s') ∨ (∃ a' s1 s2, ev Φ c s = .ok (.bl true, s1) ∧ exs Φ b s1 = .ok (.nx, s2) ∧ S a' s2 ∧ μ a' < μ a)) : ∃ s', ex Φ (.while c b) st = .ok (.nx, s') ∧ P s' := by
  rw [r_while]
  refine wh_ind S μ P (fun a s hs => ?_) WLIM a st h0 (by unfold WLIM; exact hm)
  rcases h a s hs with ⟨s', e, hp⟩ | ⟨a', s1, s2, e1, e2, hs2, hlt⟩
  · exact .inl ⟨s', by rw [e, test_bl], hp⟩
  · exact .inr ⟨a', s1, s2, by rw [e1, test_bl], e2, hs2, hlt⟩
end Py
end

section
set_option Elab.async false
set_option linter.all false
set_option autoImplicit false
set_option maxRecDepth 100000
/-! The package's oblongs, run. -/
namespace Py
open PySem (Str CmpOp)
theorem op0l {Φ : Calls} {st : St} : ev Φ (.op .lst []) st = .ok (.lst [], st) := by rw [r_op, r_evs0]; rfl
theorem op0t {Φ : Calls} {st : St} : ev Φ (.op .tup []) st = .ok (.tup [], st) := by rw [r_op, r_evs0]; rfl
theorem op0d {Φ : Calls} {st : St} : ev Φ (.op .dct []) st = .ok (.dct [], st) := by rw [r_op, r_evs0]; rfl
theorem get2_val {Φ : Calls} {st : St} {i : Nat} {D : List (PV × PV)} {kE : E} {k : PV} {z : Int} (h1 : slotV st.env i = .ok (.dct D)) (hb : isBorE kE = false) (h5 : ev Φ kE st = .ok (k, st)) (hk : kOk D k = true) : ev Φ (.meth .get2 (.bor i) [kE, (.lit (.int z))]) st = .ok ((dget D k).getD (.int z), st) := by
  rw [ev]
  have e1 : ev Φ (.bor i) st = .ok (.dct D, st) := by rw [r_bor, h1, rbind_ok]
  have e2 : evs Φ [kE, (.lit (.int z))] st = .ok ([k, .int z], st) := by
    rw [r_evs, h5, rbind_ok, r_evs, r_lit, rbind_ok, r_evs0]; rfl
  have e3 : reread [.bor i, kE, .lit (.int z)] [.dct D, k, .int z] st = .ok [.dct D, k, .int z] := by
    show ((slotV st.env i).bind _) = _
    rw [h1, rbind_ok]
    have : reread [kE, .lit (.int z)] [k, .int z] st = .ok [k, .int z] := by cases kE <;> first | rfl | exact nomatch hb
    rw [this]; rfl
  rw [e1, rbind_ok, e2, rbind_ok, e3, rbind_ok]
  show (Res.of (decide (kname (.dct D) = kname (.dct D))) ((Res.of (kOk D k && (kname (.int z)).isNone) (.ok ((dget D k).getD (.int z)))).bind _)) = _
  rw [hk]; rfl
theorem dget_int (l : List ((Int × Int) × Int)) (q : Int × Int) (z : Int) : (dget (encD prK PV.int l) (pr q)).getD (.int z) = .int ((aget l q).getD z) := by
  have := dget_enc prK PV.int l q
  rw [show prK.enc q = pr q from rfl] at this
  rw [this]
  cases aget l q <;> rfl
def obGet (i : Nat) (k : E) : E := .op (.cmp .Eq) [(.meth .get2 (.bor i) [k, (.lit (.int 0))]), (.con "WHOLE" (.int 5))]
theorem obGet_run {Φ : Calls} {st : St} {i : Nat} {kE : E} {q : Int × Int} {l : List ((Int × Int) × Int)} (h1 : slotV st.env i = .ok (.dct (encD prK PV.int l))) (hb : isBorE kE = false) (h5 : ev Φ kE st = .ok (pr q, st)) : ev Φ (obGet i kE) st = .ok (.bl (wh l q), st) := by
  have e := get2_val (z := 0) h1 hb h5 (kOk_enc prK PV.int l q)
  rw [dget_int] at e
  refine op2 rfl rfl e (r_con _ _) ?_
  rw [o_cmp, c_eq]; rfl
def obKey : E := .op .tup [(.op .sub [(.op .add [(.op .idx [(.bor 2), (.lit (.int 0))]), (.bor 3)]), (.lit (.int 1))]), (.op .idx [(.bor 2), (.lit (.int 1))])]
def obKeyH : E := .op .tup [(.op .sub [(.op .add [(.op .idx [(.bor 2), (.lit (.int 0))]), (.bor 3)]), (.lit (.int 1))]), (.op .add [(.op .idx [(.bor 2), (.lit (.int 1))]), (.bor 5)])]
def obInner : S := .while (.and (.op (.cmp .Lt) [(.bor 5), (.bor 4)]) (obGet 0 obKeyH)) [.asg (.nm 5) (.op .add [(.bor 5), (.lit (.int 1))])]
def obNew : E := (.lc [6] (.nm 6) (.itr .range2 [(.lit (.int 1)), (.op .add [(.bor 4), (.lit (.int 1))])]) (.lit (.bl true)) (.op .tup [(.var 2), (.op .tup [(.op .add [(.op .idx [(.bor 2), (.lit (.int 0))]), (.bor 3)]), (.op .add [(.op .idx [(.bor 2), (.lit (.int 1))]), (.bor 6)])])]))
def obBody : List S := [.asg (.nm 5) (.lit (.int 0)), obInner, .asg (.nm 4) (.var 5), .aug 1 .add obNew, .asg (.nm 3) (.op .add [(.bor 3), (.lit (.int 1))])]
def obIf : E := (.op (.cmp .Eq) [(.op .idx [(.bor 0), (.bor 2)]), (.con "WHOLE" (.int 5))])
def obTurn : List S := [.ite obIf [.asg (.tup [.nm 3, .nm 4]) (.op .tup [(.lit (.int 1)), (.op .add [(.con "FAR" (.int 50)), (.con "SPOT" (.int 51))])]), .while (obGet 0 obKey) obBody] []]
def oblongsB : List S := [.asgo 1 (.op .lst []), .for (.nm 2) (.var 0) obTurn, .ret (.var 1)]
section
variable {Φ : Calls} {l : List ((Int × Int) × Int)} {F : PV} {p : Int × Int} {c : Option (Int × Int)}
def obE (l : List ((Int × Int) × Int)) (F : PV) (p : Int × Int) (w m : Int) (s5 : Slot) : List Slot := [.val (.dct (encD prK PV.int l)), .own F, .val (pr p), .val (.int w), .val (.int m), s5, .unk]
theorem obInner_run {w m : Int} (hm : 0 ≤ m ∧ m ≤ 101) : ∃ m', 0 ≤ m' ∧ m' ≤ m ∧ (∀ j, 0 ≤ j → j < m' → wh l (p.1 + w - 1, p.2 + j) = true) ∧ (m' = m ∨ wh l (p.1 + w - 1, p.2 + m') = false) ∧ ex Φ obInner ⟨obE l F p w m (.val (.int 0)), c⟩ = .ok (.nx, ⟨obE l F p w m (.val (.int m')), c⟩) := by
  obtain ⟨st', e, m', rfl, h0, h1, h2, h3⟩ := ex_while (Φ := Φ) (c := .and (.op (.cmp .Lt) [(.bor 5), (.bor 4)]) (obGet 0 obKeyH)) (b := [.asg (.nm 5) (.op .add [(.bor 5), (.lit (.int 1))])])
    (fun (j : Int) st => st = ⟨obE l F p w m (.val (.int j)), c⟩ ∧ 0 ≤ j ∧ j ≤ m ∧ ∀ k, 0 ≤ k → k < j → wh l (p.1 + w - 1, p.2 + k) = true) (fun j => (m - j).toNat)
    (fun st => ∃ m', st = ⟨obE l F p w m (.val (.int m')), c⟩ ∧ 0 ≤ m' ∧ m' ≤ m ∧ (∀ j, 0 ≤ j → j < m' → wh l (p.1 + w - 1, p.2 + j) = true) ∧ (m' = m ∨ wh l (p.1 + w - 1, p.2 + m') = false))
    (a := 0) (st := ⟨obE l F p w m (.val (.int 0)), c⟩) ⟨rfl, by omega, by omega, fun k _ _ => by omega⟩ (by omega) fun j s ⟨es, j0, j1, j2⟩ => by
      subst es
      have i0 : idxV c (pr p) (.int 0) = .ok (.int p.1) := rfl
      have i1 : idxV c (pr p) (.int 1) = .ok (.int p.2) := rfl
      have k1 : ev Φ (.op (.cmp .Lt) [(.bor 5), (.bor 4)]) ⟨obE l F p w m (.val (.int j)), c⟩ = .ok (.bl (decide (j < m)), ⟨obE l F p w m (.val (.int j)), c⟩) := by
        unfold obE
        generalize PV.dct (encD prK PV.int l) = D
        simp
      by_cases hj : j < m
      · rw [decide_eq_true hj] at k1
        have k2 : ev Φ obKeyH ⟨obE l F p w m (.val (.int j)), c⟩ = .ok (pr (p.1 + w - 1, p.2 + j), ⟨obE l F p w m (.val (.int j)), c⟩) := by
          unfold obE obKeyH
          generalize PV.dct (encD prK PV.int l) = D
          generalize hq : pr p = P at *
          simp [i0, i1]
          rfl
        have k3 := obGet_run (i := 0) rfl rfl k2
        cases hw : wh l (p.1 + w - 1, p.2 + j) with
        | false =>
          rw [hw] at k3
          exact .inl ⟨_, an_t k1 k3, j, rfl, j0, j1, j2, .inr hw⟩
        | true =>
          rw [hw] at k3
          refine .inr ⟨j + 1, _, _, an_t k1 k3, (sq_nx (as_nm (v := .int (j + 1)) (st1 := ⟨obE l F p w m (.val (.int j)), c⟩) ?_)).trans r_exs0, ⟨rfl, by omega, by omega, fun k hk hk2 => ?_⟩, by omega⟩
          · unfold obE
            generalize PV.dct (encD prK PV.int l) = D
            simp
          · by_cases hkj : k < j
            · exact j2 k hk hkj
            · rw [show k = j by omega]; exact hw
      · rw [decide_eq_false hj] at k1
        exact .inl ⟨_, an_f k1, j, rfl, j0, j1, j2, .inl (by omega)⟩
  exact ⟨m', h0, h1, h2, h3, e⟩
theorem r_augL {st st1 : St} {i : Nat} {e : E} {x0 xs ys : List PV} (h0 : st.env[i]? = some (.own (.lst x0))) (he : ev Φ e st = .ok (.lst ys, st1)) (hi : st1.env[i]? = some (.own (.lst xs))) (hl : fits (xs.length + ys.length) = true) :
    ex Φ (.aug i .add e) st = .ok (.nx, { st1 with env := st1.env.set i (.own (.lst (xs ++ ys))) }) := by
  rw [ex]
  simp only [h0, he, rbind_ok, hi, hl]
  rfl
theorem itr2 {a b : E} {st st1 st2 : St} {x y : Int} (hb : isBorE a = false) (hb' : isBorE b = false) (h : ev Φ a st = .ok (.int x, st1)) (h' : ev Φ b st1 = .ok (.int y, st2)) (hx : -1000000 ≤ x ∧ x ≤ 1000000) (hy : -1000000 ≤ y ∧ y ≤ 1000000) : ev Φ (.itr .range2 [a, b]) st = .ok (.lst ((ri x y).map PV.int), st2) := by
  have hr : reread [a, b] [.int x, .int y] st2 = .ok [.int x, .int y] := by
    have h1 : reread [b] [.int y] st2 = .ok [.int y] := by cases b <;> first | rfl | exact nomatch hb'
    cases a <;> first | (show (reread [b] [.int y] st2).bind _ = _; rw [h1]; rfl) | exact nomatch hb
  have hv : itrV .range2 [.int x, .int y] = .ok (rng x y) := by
    show Res.of (decide (-(2 ^ 62) ≤ x) && decide (x < 2 ^ 62) && decide (-(2 ^ 62) ≤ y) && decide (y < 2 ^ 62)) _ = _
    rw [decide_eq_true (show -(2 ^ 62) ≤ x by omega), decide_eq_true (show x < 2 ^ 62 by omega), decide_eq_true (show -(2 ^ 62) ≤ y by omega), decide_eq_true (show y < 2 ^ 62 by omega)]; rfl
  rw [r_itr, r_evs, h, rbind_ok, r_evs, h', rbind_ok, r_evs0, rbind_ok, rbind_ok, rbind_ok, hr, rbind_ok, hv, rbind_ok, rng_ri]
theorem obNew_run {w m : Int} (hm : 0 ≤ m ∧ m ≤ 101) {s5 : Slot} : ev Φ obNew ⟨obE l F p w m s5, c⟩ = .ok (.lst ((newG p w m).map ed), ⟨obE l F p w m s5, c⟩) := by
  have hit : ev Φ (.itr .range2 [(.lit (.int 1)), (.op .add [(.bor 4), (.lit (.int 1))])]) ⟨obE l F p w m s5, c⟩ = .ok (.lst ((ri 1 (m + 1)).map PV.int), ⟨obE l F p w m s5, c⟩) := by
    refine itr2 rfl rfl (r_lit _) ?_ (by omega) (by omega)
    unfold obE
    generalize PV.dct (encD prK PV.int l) = D
    simp
  have e := lc_all (Φ := Φ) (j := 6) (elt := (.op .tup [(.var 2), (.op .tup [(.op .add [(.op .idx [(.bor 2), (.lit (.int 0))]), (.bor 3)]), (.op .add [(.op .idx [(.bor 2), (.lit (.int 1))]), (.bor 6)])])])) PV.int (fun h : Int => ed (p, (p.1 + w, p.2 + h))) hit rfl (by unfold obE; intro i hi q; simp at hi; subst hi; simp) (by rw [ri_len]; omega) fun h _ => by
    have i0 : idxV c (pr p) (.int 0) = .ok (.int p.1) := rfl
    have i1 : idxV c (pr p) (.int 1) = .ok (.int p.2) := rfl
    unfold obE
    generalize PV.dct (encD prK PV.int l) = D
    generalize hq : pr p = P at *
    simp [i0, i1, ed, hq]
    rfl
  unfold newG
  rw [List.map_map]
  exact e
/-- the columns over one square -/
theorem obCols (hr : InR l) (hp : wh l p = true) {L : List Edge} (hL : L.length ≤ 700000) {s5 : Slot} : ∃ G w m s5', G.Nodup ∧ (∀ o, o ∈ G ↔ o.1 = p ∧ Rect l o) ∧ G.length ≤ 10302 ∧ ex Φ (.while (obGet 0 obKey) obBody) ⟨obE l (.lst (L.map ed)) p 1 101 s5, c⟩ = .ok (.nx, ⟨obE l (.lst ((L ++ G).map ed)) p w m s5', c⟩) := by
  obtain ⟨st', e, G, w, m, s5', rfl, h1, h2, h3⟩ := ex_while (Φ := Φ) (c := obGet 0 obKey) (b := obBody)
    (fun (a : Int × Int × List Edge) st => ∃ s5, st = ⟨obE l (.lst ((L ++ a.2.2).map ed)) p a.1 a.2.1 s5, c⟩ ∧ Col l p a.1 a.2.1 a.2.2) (fun a => (103 - a.1).toNat)
    (fun st => ∃ G w m s5', st = ⟨obE l (.lst ((L ++ G).map ed)) p w m s5', c⟩ ∧ G.Nodup ∧ (∀ o, o ∈ G ↔ o.1 = p ∧ Rect l o) ∧ G.length ≤ 10302)
    (a := (1, 101, [])) (st := ⟨obE l (.lst (L.map ed)) p 1 101 s5, c⟩) ⟨s5, by rw [List.append_nil], Col.start l p⟩ (by show (103 - (1 : Int)).toNat < _; omega) fun ⟨w, m, G⟩ s ⟨s5, es, hC⟩ => by
      subst es
      dsimp only at hC ⊢
      have i0 : idxV c (pr p) (.int 0) = .ok (.int p.1) := rfl
      have i1 : idxV c (pr p) (.int 1) = .ok (.int p.2) := rfl
      have hw1 := hC.w1
      have hlen := hC.len
      have k2 : ev Φ obKey ⟨obE l (.lst ((L ++ G).map ed)) p w m s5, c⟩ = .ok (pr (p.1 + w - 1, p.2), ⟨obE l (.lst ((L ++ G).map ed)) p w m s5, c⟩) := by
        unfold obE obKey
        generalize PV.dct (encD prK PV.int l) = D
        generalize PV.lst ((L ++ G).map ed) = F
        generalize hq : pr p = P at *
        simp [i0, i1]
        rfl
      have k3 := obGet_run (i := 0) rfl rfl k2
      cases hw : wh l (p.1 + w - 1, p.2) with
      | false =>
        rw [hw] at k3
        exact .inl ⟨_, k3, G, w, m, s5, rfl, hC.nd, hC.fin hp hw, by omega⟩
      | true =>
        rw [hw] at k3
        obtain ⟨m', h0, h1, h2, h3, e⟩ := obInner_run (Φ := Φ) (l := l) (F := .lst ((L ++ G).map ed)) (p := p) (c := c) (w := w) (m := m) hC.m1
        have hC' := Col.step hr hC hp hw h0 h1 h2 h3
        have hm1 := hC.m1
        have hnew := obNew_run (Φ := Φ) (l := l) (F := .lst ((L ++ G).map ed)) (p := p) (c := c) (w := w) (m := m') (by omega) (s5 := .val (.int m'))
        have hfit : fits (((L ++ G).map ed).length + ((newG p w m').map ed).length) = true := fits_k (by
          rw [List.length_map, List.length_map, List.length_append]
          unfold newG
          rw [List.length_map, ri_len]; omega)
        refine .inr ⟨(w + 1, m', G ++ newG p w m'), _, _, k3, ?_, ⟨.val (.int m'), rfl, hC'⟩, by dsimp only; omega⟩
        have happ : (L ++ (G ++ newG p w m')).map ed = (L ++ G).map ed ++ (newG p w m').map ed := by rw [← List.append_assoc, List.map_append]
        rw [happ]
        generalize (L ++ G).map ed = X at *
        generalize (newG p w m').map ed = Y at *
        have kA : ex Φ (.asg (.nm 5) (.lit (.int 0))) ⟨obE l (.lst X) p w m s5, c⟩ = .ok (.nx, ⟨obE l (.lst X) p w m (.val (.int 0)), c⟩) := as_nm (r_lit _)
        have kB : ex Φ (.asg (.nm 4) (.var 5)) ⟨obE l (.lst X) p w m (.val (.int m')), c⟩ = .ok (.nx, ⟨obE l (.lst X) p w m' (.val (.int m')), c⟩) := as_nm (va_ok rfl)
        have kC : ex Φ (.aug 1 .add obNew) ⟨obE l (.lst X) p w m' (.val (.int m')), c⟩ = .ok (.nx, ⟨obE l (.lst (X ++ Y)) p w m' (.val (.int m')), c⟩) := r_augL (x0 := X) rfl hnew rfl hfit
        have kD : ex Φ (.asg (.nm 3) (.op .add [(.bor 3), (.lit (.int 1))])) ⟨obE l (.lst (X ++ Y)) p w m' (.val (.int m')), c⟩ = .ok (.nx, ⟨obE l (.lst (X ++ Y)) p (w + 1) m' (.val (.int m')), c⟩) := as_nm (v := .int (w + 1)) (st1 := ⟨obE l (.lst (X ++ Y)) p w m' (.val (.int m')), c⟩) (by
          unfold obE
          generalize PV.dct (encD prK PV.int l) = D
          simp)
        exact (sq_nx kA).trans ((sq_nx e).trans ((sq_nx kB).trans ((sq_nx kC).trans ((sq_nx kD).trans r_exs0))))
  exact ⟨G, w, m, s5', h1, h2, h3, e⟩
theorem wh_key {q : Int × Int} (h : wh l q = true) : q ∈ l.map (·.1) := by
  have h : (aget l q).getD 0 = 5 := of_decide_eq_true h
  cases e : aget l q with
  | none => rw [e] at h; cases h
  | some x => exact List.mem_map.mpr ⟨_, aget_mem e, rfl⟩
theorem Rect.low {o : Edge} (h : Rect l o) : wh l o.1 = true := h.2.2 o.1.1 o.1.2 (Int.le_refl _) h.1 (Int.le_refl _) h.2.1
end
theorem oblongs_run {F : List Fn} {k : Nat} (h : FnIs F k 1 7 oblongsB) {l : List ((Int × Int) × Int)} (hn : (l.map (·.1)).Nodup) (hl : l.length ≤ 60) (hr : InR l) (d : Nat) (c : Option (Int × Int)) :
    ∃ L : List Edge, L.Nodup ∧ (∀ o, o ∈ L ↔ Rect l o) ∧ L.length ≤ 700000 ∧ callN F (d + 1) k [.dct (encD prK PV.int l)] c = .ok (.lst (L.map ed), c) := by
  obtain ⟨f, hk, ha, hs, hb⟩ := h
  let I : List (Int × Int) → St → Prop := fun ks st => ∃ (L : List Edge) (s2 s3 s4 s5 : Slot), st = ⟨[.val (.dct (encD prK PV.int l)), .own (.lst (L.map ed)), s2, s3, s4, s5, .unk], c⟩ ∧ L.Nodup ∧ (∀ o, o ∈ L ↔ o.1 ∈ ks ∧ Rect l o) ∧ L.length ≤ 10302 * ks.length
  have hfold : ∀ (ys : List (Int × Int)) (a : List (Int × Int)), ys.foldl (fun a x => a ++ [x]) a = a ++ ys := fun ys => by
    induction ys with
    | nil => intro a; rw [List.append_nil]; rfl
    | cons y ys ih => intro a; rw [List.foldl_cons, ih, List.append_assoc]; rfl
  obtain ⟨st', e, L, s2, s3, s4, s5, rfl, h1, h2, h3⟩ := for_fold (turn := forTurn (callN F d) (.nm 2) obTurn) pr I (fun a x => a ++ [x]) (xs := l.map (·.1)) (a := [])
    (st := ⟨[.val (.dct (encD prK PV.int l)), .own (.lst []), .unk, .unk, .unk, .unk, .unk], c⟩) ⟨[], .unk, .unk, .unk, .unk, rfl, List.nodup_nil, fun o => ⟨(fun h => nomatch h), (fun h => nomatch h.1)⟩, Nat.zero_le _⟩ fun ys p zs eys s hs => by
      rw [hfold, List.nil_append] at hs ⊢
      obtain ⟨L, s2, s3, s4, s5, rfl, h1, h2, h3⟩ := hs
      have hp : p ∉ ys := fun hp => by
        rw [eys, List.nodup_append] at hn
        exact hn.2.2 p hp p List.mem_cons_self rfl
      have hyl : ys.length < 60 := by
        have : (l.map (·.1)).length ≤ 60 := by rw [List.length_map]; exact hl
        rw [eys, List.length_append, List.length_cons] at this
        omega
      obtain ⟨x, hx⟩ := aget_of_key (show p ∈ l.map (·.1) by rw [eys]; simp)
      have kI : ev (callN F d) obIf ⟨[.val (.dct (encD prK PV.int l)), .own (.lst (L.map ed)), .val (pr p), s3, s4, s5, .unk], c⟩ = .ok (.bl (wh l p), ⟨[.val (.dct (encD prK PV.int l)), .own (.lst (L.map ed)), .val (pr p), s3, s4, s5, .unk], c⟩) := by
        have hi : idxV c (.dct (encD prK PV.int l)) (pr p) = .ok (.int x) := idx_D prK PV.int l p hx
        unfold obIf wh
        rw [hx]
        generalize PV.dct (encD prK PV.int l) = D at *
        generalize PV.lst (L.map ed) = X at *
        generalize pr p = P at *
        simp [hi]
      rw [ft_nm]
      show ∃ s', exs (callN F d) obTurn ⟨[.val (.dct (encD prK PV.int l)), .own (.lst (L.map ed)), .val (pr p), s3, s4, s5, .unk], c⟩ = _ ∧ _
      cases hw : wh l p with
      | false =>
        rw [hw] at kI
        refine ⟨_, (sq_nx (if_n kI)).trans r_exs0, L, .val (pr p), s3, s4, s5, rfl, h1, fun o => ?_, by rw [List.length_append]; simp; omega⟩
        rw [h2, List.mem_append, List.mem_singleton]
        refine ⟨fun ⟨a, b⟩ => ⟨.inl a, b⟩, fun ⟨a, b⟩ => ⟨a.resolve_right fun e => ?_, b⟩⟩
        have := b.low
        rw [e, hw] at this; cases this
      | true =>
        rw [hw] at kI
        obtain ⟨G, w, m, s5', g1, g2, g3, eC⟩ := obCols (Φ := callN F d) (c := c) hr hw (L := L) (by omega) (s5 := s5)
        have kA : ex (callN F d) (.asg (.tup [.nm 3, .nm 4]) (.op .tup [(.lit (.int 1)), (.op .add [(.con "FAR" (.int 50)), (.con "SPOT" (.int 51))])])) ⟨[.val (.dct (encD prK PV.int l)), .own (.lst (L.map ed)), .val (pr p), s3, s4, s5, .unk], c⟩ = .ok (.nx, ⟨obE l (.lst (L.map ed)) p 1 101 s5, c⟩) := by
          unfold obE
          generalize PV.dct (encD prK PV.int l) = D at *
          generalize PV.lst (L.map ed) = X at *
          generalize pr p = P at *
          exact as_p (op2 rfl rfl (r_lit _) (op2 rfl rfl (r_con _ _) (r_con _ _) rfl) rfl) rfl
        refine ⟨_, (sq_nx ((if_t kI).trans ((sq_nx kA).trans ((sq_nx eC).trans r_exs0)))).trans r_exs0, L ++ G, .val (pr p), .val (.int w), .val (.int m), s5', rfl, ?_, fun o => ?_, by rw [List.length_append, List.length_append]; simp; omega⟩
        · rw [List.nodup_append]
          refine ⟨h1, g1, fun a ha b hb e => ?_⟩
          subst e
          exact hp (by rw [← ((g2 a).mp hb).1]; exact ((h2 a).mp ha).1)
        · rw [List.mem_append, List.mem_append, List.mem_singleton, h2, g2]
          constructor
          · rintro (⟨a, b⟩ | ⟨a, b⟩)
            · exact ⟨.inl a, b⟩
            · exact ⟨.inr a, b⟩
          · rintro ⟨a | a, b⟩
            · exact .inl ⟨a, b⟩
            · exact .inr ⟨a, b⟩
  rw [hfold, List.nil_append] at h2 h3
  rw [List.length_map] at h3
  refine ⟨L, h1, fun o => ?_, by omega, ?_⟩
  · rw [h2]
    exact ⟨fun h => h.2, fun h => ⟨wh_key h.low, h⟩⟩
  · refine fn_rt (st1 := ⟨[.val (.dct (encD prK PV.int l)), .val (.lst (L.map ed)), s2, s3, s4, s5, .unk], c⟩) hk (by rw [ha]; rfl) ?_
    rw [hb]
    have e0 : startE f [.dct (encD prK PV.int l)] = [.val (.dct (encD prK PV.int l)), .unk, .unk, .unk, .unk, .unk, .unk] := by unfold startE; rw [hs]; rfl
    rw [e0]
    have kL : ex (callN F d) (.asgo 1 (.op .lst [])) ⟨[.val (.dct (encD prK PV.int l)), .unk, .unk, .unk, .unk, .unk, .unk], c⟩ = .ok (.nx, ⟨[.val (.dct (encD prK PV.int l)), .own (.lst []), .unk, .unk, .unk, .unk, .unk], c⟩) := as_o op0l
    have kF : ex (callN F d) (.for (.nm 2) (.var 0) obTurn) ⟨[.val (.dct (encD prK PV.int l)), .own (.lst []), .unk, .unk, .unk, .unk, .unk], c⟩ = _ := fr_ok (va_ok rfl) (by show some ((encD prK PV.int l).map (·.1)) = _; rw [encD_keys]; rfl) e
    exact (sq_nx kL).trans ((sq_nx kF).trans (sq_rt (rt_ok (va_own rfl))))
end Py
end

section
set_option Elab.async false
set_option linter.all false
set_option autoImplicit false
set_option maxRecDepth 100000
/-! More of oblongs, plainly. -/
namespace Py
open PySem (Str CmpOp)
/-! ### the greatest number -/
theorem ints_alike (l : List Int) : allAlike (l.map PV.int) = true := by
  unfold allAlike
  rw [List.all_eq_true]
  intro x hx
  obtain ⟨i, _, rfl⟩ := List.mem_map.mp hx
  rw [Bool.and_eq_true, List.all_eq_true]
  refine ⟨rfl, fun y hy => ?_⟩
  obtain ⟨k, _, rfl⟩ := List.mem_map.mp hy
  simp [PV.alike]
theorem max_fold : ∀ (l : List Int) (a : Int), ∃ M, (l.map PV.int).foldl (fun a y => if PV.lt a y then y else a) (.int a) = .int M ∧ M ∈ a :: l ∧ ∀ x ∈ a :: l, x ≤ M
  | [], a => ⟨a, rfl, by simp, fun x hx => by rw [List.mem_singleton.mp hx]; exact Int.le_refl _⟩
  | b :: l, a => by
    rw [List.map_cons, List.foldl_cons]
    by_cases h : a < b
    · obtain ⟨M, e, h1, h2⟩ := max_fold l b
      refine ⟨M, by rw [if_pos (by simp [PV.lt, h])]; exact e, List.mem_cons_of_mem _ h1, fun x hx => ?_⟩
      rcases List.mem_cons.mp hx with rfl | hx
      · have := h2 b List.mem_cons_self; omega
      · exact h2 x hx
    · obtain ⟨M, e, h1, h2⟩ := max_fold l a
      refine ⟨M, by rw [if_neg (by simp [PV.lt]; omega)]; exact e, ?_, fun x hx => ?_⟩
      · rcases List.mem_cons.mp h1 with rfl | h1
        · exact List.mem_cons_self
        · exact List.mem_cons_of_mem _ (List.mem_cons_of_mem _ h1)
      · rcases List.mem_cons.mp hx with rfl | hx
        · exact h2 x List.mem_cons_self
        · rcases List.mem_cons.mp hx with rfl | hx
          · have := h2 a List.mem_cons_self; omega
          · exact h2 x (List.mem_cons_of_mem _ hx)
theorem b_max_i {l : List Int} (h : l ≠ []) : ∃ M, bifV .max [.lst (l.map PV.int)] = .ok (.int M) ∧ M ∈ l ∧ ∀ x ∈ l, x ≤ M := by
  cases l with
  | nil => exact absurd rfl h
  | cons a l =>
    obtain ⟨M, e, h1, h2⟩ := max_fold l a
    refine ⟨M, ?_, h1, h2⟩
    show Res.of (allAlike ((a :: l).map PV.int) && true) (Res.ok ((l.map PV.int).foldl (fun a y => if PV.lt a y = true then y else a) (.int a))) = _
    rw [ints_alike, e]; rfl
theorem has_max {α : Type} (μ : α → Int) : ∀ {l : List α}, l ≠ [] → ∃ m ∈ l, ∀ x ∈ l, μ x ≤ μ m
  | [], h => absurd rfl h
  | [a], _ => ⟨a, by simp, fun x hx => by rw [List.mem_singleton.mp hx]; exact Int.le_refl _⟩
  | a :: b :: l, _ => by
    obtain ⟨m, h1, h2⟩ := has_max μ (l := b :: l) (by simp)
    by_cases h : μ m ≤ μ a
    · exact ⟨a, List.mem_cons_self, fun x hx => by
        rcases List.mem_cons.mp hx with rfl | hx
        · exact Int.le_refl _
        · have := h2 x hx; omega⟩
    · exact ⟨m, List.mem_cons_of_mem _ h1, fun x hx => by
        rcases List.mem_cons.mp hx with rfl | hx
        · omega
        · exact h2 x hx⟩
/-! ### oblongs that hold others -/
def hld (o r : Edge) : Bool := (decide (o.1.1 ≤ r.1.1) && decide (o.1.2 ≤ r.1.2)) && (decide (r.2.1 ≤ o.2.1) && decide (r.2.2 ≤ o.2.2))
theorem hld_iff {o r : Edge} : hld o r = true ↔ (o.1.1 ≤ r.1.1 ∧ o.1.2 ≤ r.1.2) ∧ (r.2.1 ≤ o.2.1 ∧ r.2.2 ≤ o.2.2) := by simp [hld]
def loneQ (S : List Edge) (r : Edge) : Bool := !(S.any fun o => !decide (o = r) && hld o r)
theorem lone_above {S : List Edge} {r : Edge} (hr : r ∈ S) : ∃ o ∈ S, hld o r = true ∧ loneQ S o = true := by
  have hne : S.filter (hld · r) ≠ [] := List.ne_nil_of_mem (List.mem_filter.mpr ⟨hr, by rw [hld_iff]; omega⟩)
  obtain ⟨o, ho, hmax⟩ := has_max (fun o : Edge => (o.2.1 - o.1.1) + (o.2.2 - o.1.2)) hne
  obtain ⟨h1, h2⟩ := List.mem_filter.mp ho
  refine ⟨o, h1, h2, ?_⟩
  unfold loneQ
  rw [Bool.not_eq_true', List.any_eq_false]
  intro q hq hc
  rw [Bool.and_eq_true, Bool.not_eq_true', decide_eq_false_iff_not, hld_iff] at hc
  have h2' : hld o r = true := h2
  rw [hld_iff] at h2'
  have := hmax q (List.mem_filter.mpr ⟨hq, by rw [hld_iff]; omega⟩)
  refine hc.1 (Prod.ext (Prod.ext ?_ ?_) (Prod.ext ?_ ?_)) <;> omega
theorem lone_congr {L S : List Edge} (h : ∀ o, o ∈ L ↔ o ∈ S) (r : Edge) : loneQ L r = loneQ S r := by
  unfold loneQ
  congr 1
  rw [Bool.eq_iff_iff, List.any_eq_true, List.any_eq_true]
  exact ⟨fun ⟨o, h1, h2⟩ => ⟨o, (h o).mp h1, h2⟩, fun ⟨o, h1, h2⟩ => ⟨o, (h o).mpr h1, h2⟩⟩
theorem Rect.sub {l : List ((Int × Int) × Int)} {o r : Edge} (h : Rect l o) (hh : hld o r = true) (h1 : r.1.1 < r.2.1) (h2 : r.1.2 < r.2.2) : Rect l r := by
  rw [hld_iff] at hh
  exact ⟨h1, h2, fun x y a b c e => h.2.2 x y (by omega) (by omega) (by omega) (by omega)⟩
/-! ### whole squares -/
def whl (ts : List (Int × Int × Int)) : List (Int × Int) := plc (ts.filter fun t => decide (t.2.2 = 5))
theorem kd_keys (ts : List (Int × Int × Int)) : (ts.map kd).map (·.1) = plc ts := by unfold plc; rw [List.map_map]; rfl
theorem kinds_fresh {ts : List (Int × Int × Int)} (h : (plc ts).Nodup) : kindsOf ts = ts.map kd := by
  have := aof_fresh (ps := ts.map kd) (acc := []) (by rw [List.nil_append, kd_keys]; exact h)
  rwa [List.nil_append] at this
theorem aget_kd : ∀ {ts : List (Int × Int × Int)} {t : Int × Int × Int}, (plc ts).Nodup → t ∈ ts → aget (ts.map kd) (t.1, t.2.1) = some t.2.2
  | [], t, _, h => nomatch h
  | s :: ts, t, hn, h => by
    have hn' := List.nodup_cons.mp hn
    rw [List.map_cons, aget_cons]
    by_cases e : (kd s).1 = (t.1, t.2.1)
    · rw [if_pos e]
      rcases List.mem_cons.mp h with rfl | h
      · rfl
      · exact absurd (List.mem_map.mpr ⟨t, h, e.symm⟩) hn'.1
    · rw [if_neg e]
      rcases List.mem_cons.mp h with rfl | h
      · exact absurd rfl e
      · exact aget_kd hn'.2 h
theorem wh_kd {ts : List (Int × Int × Int)} (h : (plc ts).Nodup) (p : Int × Int) : wh (kindsOf ts) p = true ↔ p ∈ whl ts := by
  rw [kinds_fresh h]
  unfold whl
  constructor
  · intro hw
    obtain ⟨e, he, hp⟩ := List.mem_map.mp (wh_key hw)
    obtain ⟨t, ht, rfl⟩ := List.mem_map.mp he
    have hp : (t.1, t.2.1) = p := hp
    subst hp
    have hw : (aget (ts.map kd) (t.1, t.2.1)).getD 0 = 5 := of_decide_eq_true hw
    rw [aget_kd h ht] at hw
    exact List.mem_map.mpr ⟨t, List.mem_filter.mpr ⟨ht, decide_eq_true hw⟩, rfl⟩
  · intro hp
    obtain ⟨t, ht, rfl⟩ := List.mem_map.mp hp
    obtain ⟨ht, h5⟩ := List.mem_filter.mp ht
    unfold wh
    rw [aget_kd h ht]
    exact h5
theorem whl_nodup {ts : List (Int × Int × Int)} (h : (plc ts).Nodup) : (whl ts).Nodup := List.Nodup.sublist (List.Sublist.map _ List.filter_sublist) h
theorem whl_len (ts : List (Int × Int × Int)) : (whl ts).length ≤ ts.length := by unfold whl plc; rw [List.length_map]; exact List.length_filter_le _ _
theorem Fig.inr {ts : List (Int × Int × Int)} (h : Fig ts) : InR (kindsOf ts) := fun q hq => by
  rw [wh_kd h.nodup] at hq
  obtain ⟨t, ht, rfl⟩ := List.mem_map.mp hq
  have := h.rng t (List.mem_filter.mp ht).1
  exact ⟨this.1, this.2.1⟩
theorem kinds_nodup {ts : List (Int × Int × Int)} (h : (plc ts).Nodup) : ((kindsOf ts).map (·.1)).Nodup := by rw [kinds_fresh h, kd_keys]; exact h
theorem kinds_len {ts : List (Int × Int × Int)} (h : (plc ts).Nodup) : (kindsOf ts).length = ts.length := by rw [kinds_fresh h, List.length_map]
theorem area_whl (ts : List (Int × Int × Int)) : areaOf ts = (ts.length : Int) + ((whl ts).length : Int) := by
  induction ts with
  | nil => rfl
  | cons t ts ih =>
    unfold areaOf whl plc at *
    rw [List.length_map] at ih ⊢
    rw [List.map_cons, List.sum_cons, ih, List.length_cons, List.filter_cons]
    by_cases h : t.2.2 = 5 <;> simp [h] <;> omega
/-- the whole rectangles of a figure -/
abbrev RectF (ts : List (Int × Int × Int)) (o : Edge) : Prop := Rect (kindsOf ts) o
theorem rect_cells {ts : List (Int × Int × Int)} (h : (plc ts).Nodup) {o : Edge} : RectF ts o ↔ (o.1.1 < o.2.1 ∧ o.1.2 < o.2.2) ∧ ∀ p ∈ cells o.1.1 o.1.2 (o.2.1 - o.1.1).toNat (o.2.2 - o.1.2).toNat, p ∈ whl ts := by
  constructor
  · rintro ⟨h1, h2, h3⟩
    refine ⟨⟨h1, h2⟩, fun p hp => ?_⟩
    rw [cells_mem] at hp
    exact (wh_kd h p).mp (h3 p.1 p.2 (by omega) (by omega) (by omega) (by omega))
  · rintro ⟨⟨h1, h2⟩, h3⟩
    refine ⟨h1, h2, fun x y a b c e => (wh_kd h _).mpr (h3 (x, y) ?_)⟩
    rw [cells_mem]
    exact ⟨⟨a, by show x < _; omega⟩, c, by show y < _; omega⟩
def arO (o : Edge) : Int := (o.2.1 - o.1.1) * (o.2.2 - o.1.2)
theorem rect_area {ts : List (Int × Int × Int)} (h : (plc ts).Nodup) {o : Edge} (ho : RectF ts o) : 1 ≤ arO o ∧ arO o ≤ ((whl ts).length : Int) := by
  obtain ⟨⟨h1, h2⟩, h3⟩ := (rect_cells h).mp ho
  have := cells_few h3
  have e1 : ((o.2.1 - o.1.1).toNat : Int) = o.2.1 - o.1.1 := by omega
  have e2 : ((o.2.2 - o.1.2).toNat : Int) = o.2.2 - o.1.2 := by omega
  unfold arO
  rw [← e1, ← e2, ← Int.natCast_mul]
  refine ⟨?_, by omega⟩
  have := Nat.mul_pos (show 0 < (o.2.1 - o.1.1).toNat by omega) (show 0 < (o.2.2 - o.1.2).toNat by omega)
  omega
theorem rect_rng {ts : List (Int × Int × Int)} (h : Fig ts) {o : Edge} (ho : RectF ts o) : ((-50 ≤ o.1.1 ∧ o.1.1 < o.2.1 ∧ o.2.1 ≤ 51)) ∧ (-50 ≤ o.1.2 ∧ o.1.2 < o.2.2 ∧ o.2.2 ≤ 51) := by
  have a := h.inr _ ho.low
  have b := h.inr _ (ho.2.2 (o.2.1 - 1) (o.2.2 - 1) (by have := ho.1; omega) (by omega) (by have := ho.2.1; omega) (by omega))
  have := ho.1
  have := ho.2.1
  simp only at a b
  omega
/-! ### by pairs of whole squares -/
def insd (W : List (Int × Int)) (lo hi : Int × Int) : List (Int × Int) := W.filter fun p => (decide (lo.1 ≤ p.1) && decide (p.1 ≤ hi.1)) && (decide (lo.2 ≤ p.2) && decide (p.2 ≤ hi.2))
def obP (W : List (Int × Int)) (lo hi : Int × Int) : List Edge := if lo.1 ≤ hi.1 ∧ lo.2 ≤ hi.2 then (if ((insd W lo hi).length : Int) = (hi.1 - lo.1 + 1) * (hi.2 - lo.2 + 1) then [(lo, (hi.1 + 1, hi.2 + 1))] else []) else []
theorem obP_len (W : List (Int × Int)) (lo hi : Int × Int) : (obP W lo hi).length ≤ 1 := by
  unfold obP; split
  · split <;> simp
  · simp
theorem obP_mem {W : List (Int × Int)} {lo hi : Int × Int} {o : Edge} (h : o ∈ obP W lo hi) : o = (lo, (hi.1 + 1, hi.2 + 1)) := by
  unfold obP at h; split at h
  · split at h
    · exact List.mem_singleton.mp h
    · cases h
  · cases h
theorem insd_all {W : List (Int × Int)} (hW : W.Nodup) {lo hi : Int × Int} (h : lo.1 ≤ hi.1 ∧ lo.2 ≤ hi.2) : ((insd W lo hi).length : Int) = (hi.1 - lo.1 + 1) * (hi.2 - lo.2 + 1) ↔ ∀ p ∈ cells lo.1 lo.2 (hi.1 + 1 - lo.1).toNat (hi.2 + 1 - lo.2).toNat, p ∈ W := by
  rw [← inside_all hW]
  have e1 : hi.1 - lo.1 + 1 = ((hi.1 + 1 - lo.1).toNat : Int) := by omega
  have e2 : hi.2 - lo.2 + 1 = ((hi.2 + 1 - lo.2).toNat : Int) := by omega
  rw [e1, e2, ← Int.natCast_mul, Int.natCast_inj]
  have e3 : insd W lo hi = W.filter fun p => (decide (lo.1 ≤ p.1) && decide (p.1 < lo.1 + ((hi.1 + 1 - lo.1).toNat : Int))) && (decide (lo.2 ≤ p.2) && decide (p.2 < lo.2 + ((hi.2 + 1 - lo.2).toNat : Int))) := by
    unfold insd
    congr 1
    funext p
    have a : decide (p.1 ≤ hi.1) = decide (p.1 < lo.1 + ((hi.1 + 1 - lo.1).toNat : Int)) := by rw [decide_eq_decide]; omega
    have b : decide (p.2 ≤ hi.2) = decide (p.2 < lo.2 + ((hi.2 + 1 - lo.2).toNat : Int)) := by rw [decide_eq_decide]; omega
    rw [a, b]
  rw [e3]
def obL (W V : List (Int × Int)) : List Edge := V.flatMap fun lo => V.flatMap fun hi => obP W lo hi
theorem obL_mem {ts : List (Int × Int × Int)} (h : (plc ts).Nodup) {V : List (Int × Int)} (hV : ∀ p, p ∈ V ↔ p ∈ whl ts) (o : Edge) : o ∈ obL (whl ts) V ↔ RectF ts o := by
  unfold obL
  rw [List.mem_flatMap]
  constructor
  · rintro ⟨lo, hlo, ho⟩
    obtain ⟨hi, hhi, ho⟩ := List.mem_flatMap.mp ho
    have e := obP_mem ho
    unfold obP at ho
    split at ho
    · rename_i hle
      split at ho
      · rename_i hc
        rw [insd_all (whl_nodup h) hle] at hc
        rw [e, rect_cells h]
        exact ⟨⟨by show lo.1 < hi.1 + 1; omega, by show lo.2 < hi.2 + 1; omega⟩, hc⟩
      · cases ho
    · cases ho
  · intro ho
    have hr := ho
    obtain ⟨⟨h1, h2⟩, h3⟩ := (rect_cells h).mp ho
    refine ⟨o.1, (hV _).mpr ((wh_kd h _).mp hr.low), List.mem_flatMap.mpr ⟨(o.2.1 - 1, o.2.2 - 1), (hV _).mpr ((wh_kd h _).mp (hr.2.2 _ _ (by omega) (by omega) (by omega) (by omega))), ?_⟩⟩
    have hle : o.1.1 ≤ (o.2.1 - 1, o.2.2 - 1).1 ∧ o.1.2 ≤ (o.2.1 - 1, o.2.2 - 1).2 := ⟨by show o.1.1 ≤ o.2.1 - 1; omega, by show o.1.2 ≤ o.2.2 - 1; omega⟩
    have hc : ((insd (whl ts) o.1 (o.2.1 - 1, o.2.2 - 1)).length : Int) = ((o.2.1 - 1, o.2.2 - 1).1 - o.1.1 + 1) * ((o.2.1 - 1, o.2.2 - 1).2 - o.1.2 + 1) := by
      rw [insd_all (whl_nodup h) hle]
      show ∀ p ∈ cells o.1.1 o.1.2 (o.2.1 - 1 + 1 - o.1.1).toNat (o.2.2 - 1 + 1 - o.1.2).toNat, _
      rw [show o.2.1 - 1 + 1 = o.2.1 by omega, show o.2.2 - 1 + 1 = o.2.2 by omega]
      exact h3
    unfold obP
    rw [if_pos hle, if_pos hc, List.mem_singleton]
    exact Prod.ext rfl (Prod.ext (by show o.2.1 = o.2.1 - 1 + 1; omega) (by show o.2.2 = o.2.2 - 1 + 1; omega))
theorem obL_nodup {W V : List (Int × Int)} (hV : V.Nodup) : (obL W V).Nodup := by
  unfold obL List.Nodup
  rw [List.pairwise_flatMap]
  refine ⟨fun lo _ => ?_, ?_⟩
  · rw [List.pairwise_flatMap]
    refine ⟨fun hi _ => ?_, ?_⟩
    · have := obP_len W lo hi
      cases e : obP W lo hi with
      | nil => exact List.Pairwise.nil
      | cons a r =>
        rw [e, List.length_cons] at this
        cases r with
        | nil => exact List.pairwise_singleton _ _
        | cons b r => rw [List.length_cons] at this; omega
    · refine List.Pairwise.imp (fun {a b} hne x hx y hy e => ?_) hV
      rw [obP_mem hx, obP_mem hy] at e
      simp only [Prod.mk.injEq, true_and] at e
      exact hne (Prod.ext (by omega) (by omega))
  · refine List.Pairwise.imp (fun {a b} hne x hx y hy e => ?_) hV
    obtain ⟨_, _, hx⟩ := List.mem_flatMap.mp hx
    obtain ⟨_, _, hy⟩ := List.mem_flatMap.mp hy
    rw [obP_mem hx, obP_mem hy] at e
    simp only [Prod.mk.injEq] at e
    exact hne e.1
theorem obL_len {W V : List (Int × Int)} (hV : V.length ≤ 60) : (obL W V).length ≤ 3600 := by
  have key : ∀ (f : Int × Int → List Edge) (m : Nat) (l : List (Int × Int)), (∀ p, (f p).length ≤ m) → (l.flatMap f).length ≤ l.length * m := fun f m l hf => by
    induction l with
    | nil => simp
    | cons a l ih => rw [List.flatMap_cons, List.length_append, List.length_cons, Nat.succ_mul]; have := hf a; omega
  have h1 := key (fun lo => V.flatMap fun hi => obP W lo hi) 60 V fun lo => by
    have := key (fun hi => obP W lo hi) 1 V fun hi => obP_len W lo hi
    omega
  unfold obL
  omega
/-! ### the oblongs of a figure, in order -/
structure Obs (ts : List (Int × Int × Int)) (S : List Edge) : Prop where
  nd : S.Nodup
  mem : ∀ o, o ∈ S ↔ RectF ts o
  srt : S.Pairwise fun a b => leE a b = true
  len : S.length ≤ 3600
theorem obs_of {ts : List (Int × Int × Int)} (h : Fig ts) : Obs ts (srtE (obL (whl ts) (srtP (whl ts)))) := by
  have hp := srtE_perm (obL (whl ts) (srtP (whl ts)))
  have hV : (srtP (whl ts)).Nodup := (srtP_perm _).nodup_iff.mpr (whl_nodup h.nodup)
  refine ⟨hp.nodup_iff.mpr (obL_nodup hV), fun o => ?_, srtE_sorted _, ?_⟩
  · rw [hp.mem_iff]
    exact obL_mem h.nodup (fun p => (srtP_perm _).mem_iff) o
  · rw [hp.length_eq]
    refine obL_len ?_
    rw [(srtP_perm _).length_eq]
    have := whl_len ts
    have := h.len
    omega
theorem Obs.perm {ts : List (Int × Int × Int)} {S L : List Edge} (h : Obs ts S) (h1 : L.Nodup) (h2 : ∀ o, o ∈ L ↔ RectF ts o) : L.Perm S := (List.perm_ext_iff_of_nodup h1 h.nd).mpr fun o => by rw [h2, h.mem]
theorem Obs.sorted {ts : List (Int × Int × Int)} {S L : List Edge} (h : Obs ts S) (h1 : L.Nodup) (h2 : ∀ o, o ∈ L ↔ RectF ts o) (q : Edge → Bool) : srtE (L.filter q) = S.filter q :=
  sorted_eq ((srtE_perm _).trans ((h.perm h1 h2).filter q)) (srtE_sorted _) (h.srt.sublist List.filter_sublist)
/-- the first of the greatest -/
theorem first_max {S : List Edge} (hs : S.Pairwise fun a b => leE a b = true) {L : List Edge} (hp : L.Perm S) {μ k : Edge → Int} {c : Int} (hc : 0 < c) (hk : ∀ o, k o = -(c * μ o)) {M : Int} (hM : ∀ x ∈ S, μ x ≤ M) (hm : ∃ x ∈ S, μ x = M) {m : Edge} (h : Least k L m) : ∃ r, (S.filter fun e => decide (μ e = M)) = m :: r := by
  obtain ⟨x, hx, rfl⟩ := hm
  have hmS := hp.mem_iff.mp h.1
  have h1 := hM m hmS
  have h2 := h.2 x (hp.mem_iff.mpr hx)
  have e : μ m = μ x := by
    by_cases hlt : μ m < μ x
    · have := Int.mul_lt_mul_of_pos_left hlt hc
      unfold ltK at h2
      rw [← Bool.not_eq_true] at h2
      simp only [Bool.or_eq_true, Bool.and_eq_true, decide_eq_true_eq, hk] at h2
      omega
    · omega
  obtain ⟨r, hr⟩ := least_head hp.symm hs h
  refine ⟨r, ?_⟩
  rw [← hr]
  congr 1
  funext o
  rw [decide_eq_decide, ← e, hk, hk]
  constructor
  · intro g; rw [g]
  · intro g
    have := Int.eq_of_mul_eq_mul_left (show c ≠ 0 by omega) (show c * μ o = c * μ m by omega)
    exact this
end Py
end

section
set_option Elab.async false
set_option linter.all false
set_option autoImplicit false
set_option maxRecDepth 100000
/-! Statement after statement, over environments by what they hold. -/
namespace Py
open PySem (Str CmpOp)
section
variable {Φ : Calls} {ss t : List S} {e cnd : E} {env : List Slot} {c c' : Option (Int × Int)} {v w : PV} {i j n : Nat} {ex : List Nat} {s : S} {st st1 : St} {I : Flow → St → Prop}
/-- what a list of statements comes to -/
def Goes (Φ : Calls) (ss : List S) (st : St) (I : Flow → St → Prop) : Prop := ∃ f s', exs Φ ss st = .ok (f, s') ∧ I f s'
theorem go_nil (h : I .nx st) : Goes Φ [] st I := ⟨.nx, st, r_exs0, h⟩
theorem go_nm (ho : EnvOk env n ex) (hi : i < n) (h : ev Φ e ⟨env, c⟩ = .ok (v, ⟨env, c'⟩)) (rest : ∀ env', EnvOk env' n ex → Has env' i v → Keeps [i] env env' → Goes Φ ss ⟨env', c'⟩ I) : Goes Φ (.asg (.nm i) e :: ss) ⟨env, c⟩ I := by
  obtain ⟨f, s', e1, h1⟩ := rest (env.set i (.val v)) ho.set (ho.self hi) (Keeps.refl.set (by simp))
  exact ⟨f, s', (sq_nx (as_nm h)).trans e1, h1⟩
theorem go_two (ho : EnvOk env n ex) (hi : i < n) (hj : j < n) (hij : i ≠ j) (h : ev Φ e ⟨env, c⟩ = .ok (.tup [v, w], ⟨env, c'⟩)) (rest : ∀ env', EnvOk env' n ex → Has env' i v → Has env' j w → Keeps [i, j] env env' → Goes Φ ss ⟨env', c'⟩ I) : Goes Φ (.asg (.tup [.nm i, .nm j]) e :: ss) ⟨env, c⟩ I := by
  obtain ⟨f, s', e1, h1⟩ := rest ((env.set i (.val v)).set j (.val w)) ho.set.set ((ho.self hi).ne (Ne.symm hij)) (ho.set.self hj) ((Keeps.refl.set (by simp)).set (by simp))
  refine ⟨f, s', (sq_nx (as_p h ?_)).trans e1, h1⟩
  rw [bindP_tup, bindPs_cons, bindP_nm, rbind_ok, bindPs_cons, bindP_nm, rbind_ok, bindPs_nil]
theorem go_ck (h : ev Φ cnd st = .ok (.bl false, st1)) (rest : Goes Φ ss st1 I) : Goes Φ (.ite cnd t [] :: ss) st I := by
  obtain ⟨f, s', e1, h1⟩ := rest
  exact ⟨f, s', (sq_nx (if_n h)).trans e1, h1⟩
theorem go_st (h : Py.ex Φ s st = .ok (.nx, st1)) (rest : Goes Φ ss st1 I) : Goes Φ (s :: ss) st I := by
  obtain ⟨f, s', e1, h1⟩ := rest
  exact ⟨f, s', (sq_nx h).trans e1, h1⟩
/-- a block under a test that holds -/
theorem go_if {I1 : Flow → St → Prop} (h : ev Φ cnd st = .ok (.bl true, st1)) (hb : Goes Φ t st1 I1) (rest : ∀ f s', I1 f s' → f = .nx ∧ Goes Φ ss s' I) : Goes Φ (.ite cnd t [] :: ss) st I := by
  obtain ⟨f, s', e1, h1⟩ := hb
  obtain ⟨rfl, f2, s2, e2, h2⟩ := rest f s' h1
  exact ⟨f2, s2, (sq_nx ((if_t h).trans e1)).trans e2, h2⟩
theorem go_rt (h : ev Φ e st = .ok (v, st1)) (hI : I (.rt v) st1) : Goes Φ (.ret e :: ss) st I := ⟨_, _, sq_rt (rt_ok h), hI⟩
/-- a loop whose turns keep a thing true -/
theorem go_for {p : Pat} {b : List S} {xs : List PV} {J : St → Prop} (h : ev Φ e st = .ok (v, st1)) (hl : ltOf v = some xs) (h0 : J st1) (turn : ∀ x ∈ xs, ∀ s, J s → ∃ s', forTurn Φ p b x s = .ok (.nx, s') ∧ J s') (rest : ∀ s, J s → Goes Φ ss s I) : Goes Φ (.for p e b :: ss) st I := by
  obtain ⟨s', e1, h1⟩ := for_inv (turn := forTurn Φ p b) (xs := xs) J h0 turn
  obtain ⟨f2, s2, e2, h2⟩ := rest s' h1
  exact ⟨f2, s2, (sq_nx (fr_ok h hl e1)).trans e2, h2⟩
theorem goes_nx (h : Goes Φ ss st fun f s => f = .nx ∧ I f s) : ∃ s', exs Φ ss st = .ok (.nx, s') ∧ I .nx s' := by
  obtain ⟨f, s', e, rfl, h2⟩ := h
  exact ⟨s', e, h2⟩
theorem it_rng {n : Int} (h0 : 0 ≤ n) (h : n ≤ 1000000) : ev Φ (.itr .range1 [.lit (.int n)]) st = .ok (.lst (rng 0 n), st) := by
  have hr : itrV .range1 [.int n] = .ok (rng 0 n) := z_rI h0 h
  rw [r_itr, r_evs, r_lit, rbind_ok, r_evs0, rbind_ok, rbind_ok]
  show (Res.ok _).bind _ = _
  rw [rbind_ok, hr]; rfl
end
theorem start_ok {X : PV} {f : Fn} {n : Nat} (hs : startE f [X] = .val X :: List.replicate n .unk) : ∃ E, E = startE f [X] ∧ EnvOk E (n + 1) [] ∧ Has E 0 X := ⟨_, rfl, ⟨by rw [hs]; simp, fun i _ p h => by
    rw [hs] at h
    cases i with
    | zero => exact nomatch h
    | succ i =>
      rw [List.getElem?_cons_succ, List.getElem?_replicate] at h
      split at h
      · exact nomatch h
      · exact nomatch h⟩, by rw [hs]; rfl⟩
theorem small_of {m : Int} (h : 0 < m ∧ m ≤ 1000000) : small m = true := by unfold small; rw [Bool.and_eq_true]; exact ⟨decide_eq_true h.1, decide_eq_true (by omega)⟩
theorem lst_eq (ys : List PV) (h : ∀ y ∈ ys, y.plain = true ∧ y.depth ≤ 10) : cmpV .Eq (.lst ys) (.lst []) = .ok (.bl ys.isEmpty) := by
  have hf : (PV.lst ys).fine = true := by
    have key : PV.plains ys = true ∧ PV.depths ys ≤ 10 := by
      induction ys with
      | nil => exact ⟨rfl, Nat.zero_le _⟩
      | cons y ys ih =>
        obtain ⟨h1, h2⟩ := ih fun z hz => h z (List.mem_cons_of_mem _ hz)
        obtain ⟨g1, g2⟩ := h y List.mem_cons_self
        rw [PV.plains, PV.depths, g1, h1]
        exact ⟨rfl, by omega⟩
    unfold PV.fine
    rw [PV.plain, PV.depth, key.1, Bool.true_and]
    exact decide_eq_true (by omega)
  show (Res.of ((PV.lst ys).fine && (PV.lst []).fine) (Res.ok (PV.eqv (.lst ys) (.lst [])))).bind _ = _
  rw [hf, show (PV.lst []).fine = true from rfl, Bool.and_self, rof_t]
  cases ys <;> simp [PV.eqv, PV.eqvs]
theorem cut_take {α : Type} (xs : List α) (n : Nat) : cut xs none (some (n : Int)) = xs.take n := by
  show (xs.drop 0).take ((if ((n : Int) < 0) then ((n : Int) + xs.length).toNat else min (n : Int).toNat xs.length) - 0) = xs.take n
  rw [if_neg (by omega), Int.toNat_natCast, Nat.sub_zero, List.drop_zero]
  apply List.ext_getElem?
  intro i
  rw [List.getElem?_take, List.getElem?_take]
  by_cases h : i < xs.length
  · by_cases h2 : i < n
    · rw [if_pos h2, if_pos (by omega)]
    · rw [if_neg h2, if_neg (by omega)]
  · rw [List.getElem?_eq_none (by omega)]; simp
theorem op_bb {Φ : Calls} {st : St} {o : Op} {i j : Nat} {x y z : PV} (h1 : slotV st.env i = .ok x) (h2 : slotV st.env j = .ok y) (ho : opV st.cup o [x, y] = .ok z) : ev Φ (.op o [.bor i, .bor j]) st = .ok (z, st) := by
  rw [r_op, r_evs, r_bor, h1, rbind_ok, rbind_ok, r_evs, r_bor, h2, rbind_ok, rbind_ok, r_evs0, rbind_ok, rbind_ok]
  show (Res.bind (reread [.bor i, .bor j] [x, y] st) _) = _
  rw [rr_bor, h1, rbind_ok, rr_bor, h2, rbind_ok, rr_nil, rbind_ok, rbind_ok, rbind_ok, ho, rbind_ok]
theorem op_be {Φ : Calls} {st st1 : St} {o : Op} {i : Nat} {e : E} {x y z : PV} (hb : isBorE e = false) (h1 : slotV st.env i = .ok x) (h2 : ev Φ e st = .ok (y, st1)) (h3 : slotV st1.env i = .ok x) (ho : opV st1.cup o [x, y] = .ok z) : ev Φ (.op o [.bor i, e]) st = .ok (z, st1) := by
  have hr : reread [e] [y] st1 = .ok [y] := by cases e <;> first | rfl | exact nomatch hb
  rw [r_op, r_evs, r_bor, h1, rbind_ok, rbind_ok, r_evs, h2, rbind_ok, r_evs0, rbind_ok, rbind_ok, rbind_ok]
  show (Res.bind (reread [.bor i, e] [x, y] st1) _) = _
  rw [rr_bor, h3, rbind_ok, hr, rbind_ok, rbind_ok, ho, rbind_ok]
theorem op_eb {Φ : Calls} {st st1 : St} {o : Op} {i : Nat} {e : E} {x y z : PV} (hb : isBorE e = false) (h2 : ev Φ e st = .ok (y, st1)) (h3 : slotV st1.env i = .ok x) (ho : opV st1.cup o [y, x] = .ok z) : ev Φ (.op o [e, .bor i]) st = .ok (z, st1) := by
  have hr : reread [e, .bor i] [y, x] st1 = .ok [y, x] := by
    have h1 : reread [.bor i] [x] st1 = .ok [x] := by rw [rr_bor, h3, rbind_ok, rr_nil, rbind_ok]
    cases e <;> first | (show (reread [.bor i] [x] st1).bind _ = _; rw [h1]; rfl) | exact nomatch hb
  rw [r_op, r_evs, h2, rbind_ok, r_evs, r_bor, h3, rbind_ok, rbind_ok, r_evs0, rbind_ok, rbind_ok, rbind_ok, hr, rbind_ok, ho, rbind_ok]
theorem op_b {Φ : Calls} {st : St} {o : Op} {i : Nat} {x z : PV} (h1 : slotV st.env i = .ok x) (ho : opV st.cup o [x] = .ok z) : ev Φ (.op o [.bor i]) st = .ok (z, st) := by
  rw [r_op, r_evs, r_bor, h1, rbind_ok, rbind_ok, r_evs0, rbind_ok, rbind_ok]
  show (Res.bind (reread [.bor i] [x] st) _) = _
  rw [rr_bor, h1, rbind_ok, rr_nil, rbind_ok, rbind_ok, ho, rbind_ok]
theorem sl_rd {Φ : Calls} {env : List Slot} {c : Option (Int × Int)} {i : Nat} {v : PV} (h : Has env i v) : ev Φ (.bor i) ⟨env, c⟩ = .ok (v, ⟨env, c⟩) := bo_ok h
end Py
end

section
set_option Elab.async false
set_option linter.all false
set_option autoImplicit false
set_option maxRecDepth 100000
/-! What hangs together: searches, parts. -/
namespace Py
open PySem (Str CmpOp)
/-! ### reaching -/
section
variable {α : Type} (nb : α → List α)
inductive Rch (a : α) : α → Prop
  | refl : Rch a a
  | step {p q : α} : Rch a p → q ∈ nb p → Rch a q
variable {nb}
theorem Rch.trans {a b c : α} (h : Rch nb a b) (g : Rch nb b c) : Rch nb a c := by
  induction g with
  | refl => exact h
  | step _ hq ih => exact ih.step hq
theorem Rch.symm (hs : ∀ p q, q ∈ nb p → p ∈ nb q) {a b : α} (h : Rch nb a b) : Rch nb b a := by
  induction h with
  | refl => exact .refl
  | step _ hq ih => exact Rch.trans (Rch.step .refl (hs _ _ hq)) ih
theorem Rch.mono {nb' : α → List α} (h : ∀ p q, q ∈ nb p → q ∈ nb' p) {a b : α} (g : Rch nb a b) : Rch nb' a b := by
  induction g with
  | refl => exact .refl
  | step _ hq ih => exact ih.step (h _ _ hq)
theorem Rch.within {a b : α} (h : Rch nb a b) {Q : α → Prop} (ha : Q a) (hq : ∀ p q, Q p → q ∈ nb p → Q q) : Q b := by
  induction h with
  | refl => exact ha
  | step _ hm ih => exact hq _ _ ih hm
end
section
variable {α : Type} [DecidableEq α] {nb : α → List α} {V : List α} {a : α}
/-- a search's state: what is found, what is still to be asked -/
structure Bf (nb : α → List α) (V : List α) (a : α) (part line : List α) : Prop where
  nd : part.Nodup
  sub : ∀ x ∈ line, x ∈ part
  st : a ∈ part
  rc : ∀ x ∈ part, Rch nb a x
  cl : ∀ x ∈ part, x ∉ line → ∀ y ∈ nb x, y ∈ part
  inV : ∀ x ∈ part, x ∈ V
  ln : line.Nodup
def more (nb : α → List α) (part : List α) (x : α) : List α := (nb x).filter fun y => decide (y ∉ part)
theorem Bf.start (ha : a ∈ V) : Bf nb V a [a] [a] :=
  ⟨by simp, fun x h => h, by simp, fun x h => by rw [List.mem_singleton.mp h]; exact .refl, fun x h g => absurd h g, fun x h => by rw [List.mem_singleton.mp h]; exact ha, by simp⟩
/-- one is taken out of the line, its new ones are put in -/
theorem Bf.step {part line rest : List α} {x : α} (h : Bf nb V a part line) (hx : x ∈ line) (hl : ∀ y, y ∈ line → y = x ∨ y ∈ rest) (hr : ∀ y ∈ rest, y ∈ line) (hrn : rest.Nodup) (hV : ∀ p ∈ V, ∀ q ∈ nb p, q ∈ V) (hn : ∀ p ∈ V, (nb p).Nodup) :
    Bf nb V a (part ++ more nb part x) (rest ++ more nb part x) := by
  have hxp := h.sub x hx
  have hm : ∀ y, y ∈ more nb part x ↔ y ∈ nb x ∧ y ∉ part := fun y => by unfold more; rw [List.mem_filter, decide_eq_true_eq]
  refine ⟨?_, fun y hy => ?_, List.mem_append.mpr (.inl h.st), fun y hy => ?_, fun y hy hy2 z hz => ?_, fun y hy => ?_, ?_⟩
  · rw [List.nodup_append]
    refine ⟨h.nd, (hn x (h.inV x hxp)).sublist List.filter_sublist, fun y hy z hz e => ?_⟩
    subst e
    exact ((hm y).mp hz).2 hy
  · rcases List.mem_append.mp hy with hy | hy
    · exact List.mem_append.mpr (.inl (h.sub y (hr y hy)))
    · exact List.mem_append.mpr (.inr hy)
  · rcases List.mem_append.mp hy with hy | hy
    · exact h.rc y hy
    · exact (h.rc x hxp).step ((hm y).mp hy).1
  · rcases List.mem_append.mp hy with hy | hy
    · by_cases e : y = x
      · subst e
        by_cases hp : z ∈ part
        · exact List.mem_append.mpr (.inl hp)
        · exact List.mem_append.mpr (.inr ((hm z).mpr ⟨hz, hp⟩))
      · have : y ∉ line := fun hyl => by
          rcases hl y hyl with e2 | e2
          · exact e e2
          · exact hy2 (List.mem_append.mpr (.inl e2))
        exact List.mem_append.mpr (.inl (h.cl y hy this z hz))
    · exact absurd (List.mem_append.mpr (.inr hy)) hy2
  · rcases List.mem_append.mp hy with hy | hy
    · exact h.inV y hy
    · exact hV x (h.inV x hxp) y ((hm y).mp hy).1
  · rw [List.nodup_append]
    refine ⟨hrn, (hn x (h.inV x hxp)).sublist List.filter_sublist, fun y hy z hz e => ?_⟩
    subst e
    exact ((hm y).mp hz).2 (h.sub y (hr y hy))
theorem Bf.fin {part : List α} (h : Bf nb V a part []) (y : α) : y ∈ part ↔ Rch nb a y :=
  ⟨h.rc y, fun g => g.within (Q := fun y => y ∈ part) h.st fun p q hp hq => h.cl p hp (fun h => nomatch h) q hq⟩
theorem Bf.len {part line : List α} (h : Bf nb V a part line) : part.length ≤ V.length := List.Nodup.length_le_of_subset h.nd h.inV
theorem more_len {part : List α} {x : α} : (more nb part x).length ≤ (nb x).length := List.length_filter_le _ _
end
/-! ### parts -/
section
variable {α : Type}
noncomputable def rchB (nb : α → List α) (a b : α) : Bool := @decide (Rch nb a b) (Classical.propDecidable _)
theorem rchB_iff {nb : α → List α} {a b : α} : rchB nb a b = true ↔ Rch nb a b := @decide_eq_true_iff _ (Classical.propDecidable _)
noncomputable def partsF (nb : α → List α) : Nat → List α → List (List α)
  | 0, _ => []
  | _ + 1, [] => []
  | n + 1, a :: l => (a :: l.filter (rchB nb a)) :: partsF nb n (l.filter fun p => !rchB nb a p)
theorem partsF_eq (nb : α → List α) : ∀ (n m : Nat) (l : List α), l.length ≤ n → l.length ≤ m → partsF nb n l = partsF nb m l
  | 0, 0, _, _, _ => rfl
  | 0, m + 1, [], _, _ => rfl
  | 0, m + 1, a :: l, h, _ => by simp at h
  | n + 1, 0, [], _, _ => rfl
  | n + 1, 0, a :: l, _, h => by simp at h
  | n + 1, m + 1, [], _, _ => rfl
  | n + 1, m + 1, a :: l, h, g => by
    have := List.length_filter_le (fun p => !rchB nb a p) l
    rw [List.length_cons] at h g
    unfold partsF
    rw [partsF_eq nb n m _ (by omega) (by omega)]
noncomputable def partsG (nb : α → List α) (l : List α) : List (List α) := partsF nb l.length l
variable {nb : α → List α}
theorem parts_nil : partsG nb [] = [] := rfl
theorem parts_cons (a : α) (l : List α) : partsG nb (a :: l) = (a :: l.filter (rchB nb a)) :: partsG nb (l.filter fun p => !rchB nb a p) := by
  show _ :: partsF nb l.length _ = _
  rw [partsF_eq nb l.length _ _ (List.length_filter_le _ _) (Nat.le_refl _)]; rfl
theorem rch_self (a : α) : rchB nb a a = true := rchB_iff.mpr .refl
theorem parts_head (a : α) (l : List α) : a :: l.filter (rchB nb a) = (a :: l).filter (rchB nb a) := by rw [List.filter_cons, if_pos (rch_self a)]
theorem parts_ind {P : List α → Prop} (h0 : P []) (h1 : ∀ a l, P (l.filter fun p => !rchB nb a p) → P (a :: l)) : ∀ (n : Nat) (l : List α), l.length ≤ n → P l
  | 0, [], _ => h0
  | 0, a :: l, h => by simp at h
  | n + 1, [], _ => h0
  | n + 1, a :: l, h => h1 a l (parts_ind h0 h1 n _ (by have := List.length_filter_le (fun p => !rchB nb a p) l; simp at h; omega))
theorem filter_split (q : α → Bool) : ∀ l : List α, (l.filter q ++ l.filter fun x => !q x).Perm l
  | [] => .refl _
  | a :: l => by
    rw [List.filter_cons, List.filter_cons]
    cases h : q a with
    | true => exact (filter_split q l).cons a
    | false => exact (List.perm_middle).trans ((filter_split q l).cons a)
theorem parts_perm (l : List α) : (partsG nb l).flatten.Perm l := by
  refine parts_ind (nb := nb) (P := fun l => (partsG nb l).flatten.Perm l) (by rw [parts_nil]; exact .refl _) (fun a l ih => ?_) l.length l (Nat.le_refl _)
  rw [parts_cons, List.flatten_cons]
  show (a :: (l.filter (rchB nb a) ++ _)).Perm _
  exact ((ih.append_left _).trans (filter_split _ l)).cons a
theorem parts_sub (l : List α) : ∀ P ∈ partsG nb l, List.Sublist P l := by
  refine parts_ind (nb := nb) (P := fun l => ∀ P ∈ partsG nb l, List.Sublist P l) (by rw [parts_nil]; exact fun _ h => nomatch h) (fun a l ih P hP => ?_) l.length l (Nat.le_refl _)
  rw [parts_cons] at hP
  rcases List.mem_cons.mp hP with rfl | hP
  · exact List.Sublist.cons_cons a List.filter_sublist
  · exact ((ih P hP).trans List.filter_sublist).cons a
theorem parts_ne (l : List α) : ∀ P ∈ partsG nb l, P ≠ [] := by
  refine parts_ind (nb := nb) (P := fun l => ∀ P ∈ partsG nb l, P ≠ []) (by rw [parts_nil]; exact fun _ h => nomatch h) (fun a l ih P hP => ?_) l.length l (Nat.le_refl _)
  rw [parts_cons] at hP
  rcases List.mem_cons.mp hP with rfl | hP
  · exact fun h => nomatch h
  · exact ih P hP
theorem parts_len (l : List α) : (partsG nb l).length ≤ l.length := by
  refine parts_ind (nb := nb) (P := fun l => (partsG nb l).length ≤ l.length) (by rw [parts_nil]; exact Nat.le_refl _) (fun a l ih => ?_) l.length l (Nat.le_refl _)
  rw [parts_cons, List.length_cons, List.length_cons]
  have := List.length_filter_le (fun p => !rchB nb a p) l
  omega
/-- the parts are closed, where the whole is -/
theorem parts_closed (hs : ∀ p q, q ∈ nb p → p ∈ nb q) (l : List α) : (∀ p ∈ l, ∀ q ∈ nb p, q ∈ l) → ∀ P ∈ partsG nb l, ∀ p ∈ P, ∀ q ∈ nb p, q ∈ P := by
  refine parts_ind (nb := nb) (P := fun l => (∀ p ∈ l, ∀ q ∈ nb p, q ∈ l) → ∀ P ∈ partsG nb l, ∀ p ∈ P, ∀ q ∈ nb p, q ∈ P) (by rw [parts_nil]; exact fun _ _ h => nomatch h) (fun a l ih hl P hP => ?_) l.length l (Nat.le_refl _)
  rw [parts_cons] at hP
  rcases List.mem_cons.mp hP with rfl | hP
  · rw [parts_head]
    intro p hp q hq
    obtain ⟨h1, h2⟩ := List.mem_filter.mp hp
    exact List.mem_filter.mpr ⟨hl p h1 q hq, rchB_iff.mpr ((rchB_iff.mp h2).step hq)⟩
  · refine ih (fun p hp q hq => ?_) P hP
    obtain ⟨h1, h2⟩ := List.mem_filter.mp hp
    have hn : ¬ Rch nb a p := fun h => by rw [rchB_iff.mpr h] at h2; cases h2
    have hnq : ¬ Rch nb a q := fun h => hn (h.step (hs p q hq))
    have hql := hl p (List.mem_cons_of_mem _ h1) q hq
    rcases List.mem_cons.mp hql with rfl | hql
    · exact absurd .refl hnq
    · refine List.mem_filter.mpr ⟨hql, ?_⟩
      rw [Bool.not_eq_true', ← Bool.not_eq_true, rchB_iff]; exact hnq
/-- each one's part is what it reaches -/
theorem parts_one {a : α} {l : List α} (h : ∀ p ∈ l, Rch nb a p) : partsG nb (a :: l) = [a :: l] := by
  rw [parts_cons]
  have e1 : l.filter (rchB nb a) = l := List.filter_eq_self.mpr fun p hp => rchB_iff.mpr (h p hp)
  have e2 : (l.filter fun p => !rchB nb a p) = [] := List.filter_eq_nil_iff.mpr fun p hp => by rw [rchB_iff.mpr (h p hp)]; exact Bool.false_ne_true
  rw [e1, e2, parts_nil]
theorem parts_two {a : α} {l : List α} (h : ∃ p ∈ l, ¬ Rch nb a p) : 2 ≤ (partsG nb (a :: l)).length := by
  obtain ⟨p, hp, hn⟩ := h
  rw [parts_cons, List.length_cons]
  have : p ∈ l.filter fun p => !rchB nb a p := List.mem_filter.mpr ⟨hp, by rw [Bool.not_eq_true', ← Bool.not_eq_true, rchB_iff]; exact hn⟩
  cases e : l.filter fun p => !rchB nb a p with
  | nil => rw [e] at this; cases this
  | cons b r => rw [parts_cons, List.length_cons]; omega
end
/-- the parts of what ascends ascend by their first ones -/
theorem parts_asc {nb : Int × Int → List (Int × Int)} (l : List (Int × Int)) : (l.Pairwise fun a b => ltP a b = true) → (partsG nb l).Pairwise fun P Q => ∃ a as b bs, P = a :: as ∧ Q = b :: bs ∧ ltP a b = true := by
  refine parts_ind (nb := nb) (P := fun l => (l.Pairwise fun a b => ltP a b = true) → (partsG nb l).Pairwise fun P Q => ∃ a as b bs, P = a :: as ∧ Q = b :: bs ∧ ltP a b = true) (by rw [parts_nil]; exact fun _ => List.Pairwise.nil) (fun a l ih hl => ?_) l.length l (Nat.le_refl _)
  rw [parts_cons]
  have hl' := List.pairwise_cons.mp hl
  refine List.pairwise_cons.mpr ⟨fun Q hQ => ?_, ih (hl'.2.sublist List.filter_sublist)⟩
  have h1 := parts_ne _ Q hQ
  have h2 := parts_sub _ Q hQ
  cases Q with
  | nil => exact absurd rfl h1
  | cons b bs => exact ⟨a, _, b, bs, rfl, rfl, hl'.1 b (List.mem_filter.mp (h2.subset List.mem_cons_self)).1⟩
/-! ### squares side by side -/
section
variable {l : List ((Int × Int) × Int)} {p q : Int × Int} {s : Int}
def kd0 (l : List ((Int × Int) × Int)) (p : Int × Int) : Int := (aget l p).getD 0
/-- the two have the side in common -/
def adj (l : List ((Int × Int) × Int)) (p : Int × Int) (s : Int) : Bool := (sidesOf (kd0 l (bey p s))).any fun x => decide (x = (s + 2) % 4)
def near (l : List ((Int × Int) × Int)) (p : Int × Int) : List (Int × Int) := ((sidesOf (kd0 l p)).filter (adj l p)).map (bey p)
theorem sides0 : sidesOf 0 = [] := rfl
theorem sides_any {k : Int} {s : Int} (h : s ∈ sidesOf k) : 0 ≤ s ∧ s ≤ 3 := by
  unfold sidesOf at h
  split at h
  · simp only [List.mem_cons, List.not_mem_nil, or_false] at h; omega
  split at h
  · simp only [List.mem_cons, List.not_mem_nil, or_false] at h; omega
  split at h
  · simp only [List.mem_cons, List.not_mem_nil, or_false] at h; omega
  split at h
  · simp only [List.mem_cons, List.not_mem_nil, or_false] at h; omega
  split at h
  · simp only [List.mem_cons, List.not_mem_nil, or_false] at h; omega
  · cases h
theorem adj_iff : adj l p s = true ↔ (s + 2) % 4 ∈ sidesOf (kd0 l (bey p s)) := by
  unfold adj
  rw [List.any_eq_true]
  exact ⟨fun ⟨x, h1, h2⟩ => by rw [← of_decide_eq_true h2]; exact h1, fun h => ⟨_, h, by simp⟩⟩
theorem near_iff : q ∈ near l p ↔ ∃ s, s ∈ sidesOf (kd0 l p) ∧ (s + 2) % 4 ∈ sidesOf (kd0 l q) ∧ q = bey p s := by
  unfold near
  rw [List.mem_map]
  constructor
  · rintro ⟨s, hs, rfl⟩
    obtain ⟨h1, h2⟩ := List.mem_filter.mp hs
    exact ⟨s, h1, adj_iff.mp h2, rfl⟩
  · rintro ⟨s, h1, h2, rfl⟩
    exact ⟨s, List.mem_filter.mpr ⟨h1, adj_iff.mpr h2⟩, rfl⟩
theorem bey_back (h : 0 ≤ s ∧ s ≤ 3) : bey (bey p s) ((s + 2) % 4) = p := by
  rcases sides4 h with rfl | rfl | rfl | rfl <;> simp [bey]
theorem bey_inj {t : Int} (hs : 0 ≤ s ∧ s ≤ 3) (ht : 0 ≤ t ∧ t ≤ 3) (h : bey p s = bey p t) : s = t := by
  rcases sides4 hs with rfl | rfl | rfl | rfl <;> rcases sides4 ht with rfl | rfl | rfl | rfl <;> first | rfl | (simp [bey] at h; omega)
theorem near_symm : ∀ p q, q ∈ near l p → p ∈ near l q := fun p q h => by
  obtain ⟨s, h1, h2, rfl⟩ := near_iff.mp h
  have hs := sides_any h1
  refine near_iff.mpr ⟨(s + 2) % 4, h2, ?_, (bey_back hs).symm⟩
  rcases sides4 hs with rfl | rfl | rfl | rfl <;> exact h1
theorem sidesOf_nd (k : Int) : (sidesOf k).Nodup := by
  unfold sidesOf
  split; · decide
  split; · decide
  split; · decide
  split; · decide
  split; · decide
  · decide
theorem near_nodup : (near l p).Nodup := by
  unfold near List.Nodup
  rw [List.pairwise_map]
  have h := (sidesOf_nd (kd0 l p)).sublist (List.filter_sublist (p := adj l p))
  refine List.Pairwise.imp_of_mem (fun {a b} ha hb hne e => hne ?_) h
  exact bey_inj (sides_any (List.mem_filter.mp ha).1) (sides_any (List.mem_filter.mp hb).1) e
theorem kd0_some (h : ∃ s, s ∈ sidesOf (kd0 l p)) : p ∈ l.map (·.1) := by
  obtain ⟨s, hs⟩ := h
  unfold kd0 at hs
  cases e : aget l p with
  | none => rw [e] at hs; cases hs
  | some x => exact List.mem_map.mpr ⟨_, aget_mem e, rfl⟩
theorem near_in : ∀ p, ∀ q ∈ near l p, q ∈ l.map (·.1) := fun p q h => by
  obtain ⟨s, h1, h2, rfl⟩ := near_iff.mp h
  exact kd0_some ⟨_, h2⟩
theorem near_len : (near l p).length ≤ 4 := by
  unfold near
  rw [List.length_map]
  refine Nat.le_trans (List.length_filter_le _ _) ?_
  unfold sidesOf
  split; · decide
  split; · decide
  split; · decide
  split; · decide
  split; · decide
  · decide
end
/-! ### what is grown hangs together -/
theorem kd0_aset {l : List ((Int × Int) × Int)} (hn : (l.map (·.1)).Nodup) (q p : Int × Int) (j : Int) : kd0 (aset l q j) p = if q = p then j else kd0 l p := by
  unfold kd0
  rw [aget_aset hn]
  split <;> rfl
theorem kd0_none {l : List ((Int × Int) × Int)} {p : Int × Int} (h : ahas l p = false) : kd0 l p = 0 := by unfold kd0; rw [aget_none h]; rfl
theorem grw_nodup {l : List ((Int × Int) × Int)} (h : Grw l) : (l.map (·.1)).Nodup := by
  induction h with
  | one k _ => simp
  | step l p k s j _ _ _ _ _ ih => exact aset_nodup ih
theorem grw_hangs {l : List ((Int × Int) × Int)} (h : Grw l) : ∀ p ∈ l.map (·.1), Rch (near l) (0, 0) p := by
  induction h with
  | one k _ => intro p hp; simp at hp; rw [hp]; exact .refl
  | step l p k s j hw hk hs hf hj ih =>
    have hn := grw_nodup hw
    have hkd : kd0 l p = k := by unfold kd0; rw [hk]; rfl
    have hpq : bey p s ≠ p := fun e => by rw [e] at hf; have : ahas l p = true := ahas_iff.mpr (List.mem_map.mpr ⟨_, aget_mem hk, rfl⟩); rw [hf] at this; cases this
    have hmono : ∀ a b, b ∈ near l a → b ∈ near (aset l (bey p s) j) a := fun a b hb => by
      obtain ⟨t, h1, h2, rfl⟩ := near_iff.mp hb
      have n1 : bey p s ≠ a := fun e => by rw [← e, kd0_none hf] at h1; cases h1
      have n2 : bey p s ≠ bey a t := fun e => by rw [← e, kd0_none hf] at h2; cases h2
      exact near_iff.mpr ⟨t, by rw [kd0_aset hn, if_neg n1]; exact h1, by rw [kd0_aset hn, if_neg n2]; exact h2, rfl⟩
    intro q hq
    rw [aset_keys, hf, if_neg Bool.false_ne_true, List.mem_append, List.mem_singleton] at hq
    rcases hq with hq | rfl
    · exact (ih q hq).mono hmono
    · have hp : p ∈ l.map (·.1) := List.mem_map.mpr ⟨_, aget_mem hk, rfl⟩
      refine ((ih p hp).mono hmono).step (near_iff.mpr ⟨s, ?_, ?_, rfl⟩)
      · rw [kd0_aset hn, if_neg hpq, hkd]; exact hs
      · rw [kd0_aset hn, if_pos rfl]; exact hj
end Py
end

section
set_option Elab.async false
set_option linter.all false
set_option autoImplicit false
set_option maxRecDepth 100000
/-! The parts of a figure, plainly. -/
namespace Py
open PySem (Str CmpOp)
section
variable {ts : List (Int × Int × Int)} {l : List ((Int × Int) × Int)} {P : List (Int × Int)} {p : Int × Int} {s : Int}
def figF (l : List ((Int × Int) × Int)) (P : List (Int × Int)) : List (Int × Int × Int) := P.map fun p => (p.1, p.2, kd0 l p)
theorem figF_plc : plc (figF l P) = P := by
  unfold plc figF
  rw [List.map_map]
  exact List.map_id _
theorem kd0_of (hn : (plc ts).Nodup) {t : Int × Int × Int} (ht : t ∈ ts) : kd0 (kindsOf ts) (t.1, t.2.1) = t.2.2 := by
  unfold kd0
  rw [kinds_fresh hn, aget_kd hn ht]; rfl
theorem kd0_out (hn : (plc ts).Nodup) (h : p ∉ plc ts) : kd0 (kindsOf ts) p = 0 := by
  refine kd0_none ?_
  cases e : ahas (kindsOf ts) p with
  | false => rfl
  | true =>
    rw [ahas_iff, kinds_fresh hn, kd_keys] at e
    exact absurd e h
theorem figF_all (hn : (plc ts).Nodup) : figF (kindsOf ts) (plc ts) = ts := by
  unfold figF plc
  rw [List.map_map]
  have : ∀ t ∈ ts, ((fun p : Int × Int => (p.1, p.2, kd0 (kindsOf ts) p)) ∘ fun t : Int × Int × Int => (t.1, t.2.1)) t = id t := fun t ht => by
    show (t.1, t.2.1, kd0 (kindsOf ts) (t.1, t.2.1)) = t
    rw [kd0_of hn ht]
  rw [List.map_congr_left this, List.map_id]
theorem kd0_figF (hP : P.Nodup) (p : Int × Int) : kd0 (kindsOf (figF l P)) p = if p ∈ P then kd0 l p else 0 := by
  have hn : (plc (figF l P)).Nodup := by rw [figF_plc]; exact hP
  by_cases h : p ∈ P
  · rw [if_pos h]
    exact kd0_of hn (t := (p.1, p.2, kd0 l p)) (List.mem_map.mpr ⟨p, h, rfl⟩)
  · rw [if_neg h]
    exact kd0_out hn (by rw [figF_plc]; exact h)
theorem near_part (hP : P.Nodup) (hc : ∀ p ∈ P, ∀ q ∈ near l p, q ∈ P) (hp : p ∈ P) : near (kindsOf (figF l P)) p = near l p := by
  unfold near
  rw [kd0_figF hP, if_pos hp]
  congr 1
  refine List.filter_congr fun s hs => ?_
  unfold adj
  rw [kd0_figF hP]
  by_cases h : bey p s ∈ P
  · rw [if_pos h]
  · rw [if_neg h, sides0, List.any_nil]
    cases e : (sidesOf (kd0 l (bey p s))).any fun x => decide (x = (s + 2) % 4) with
    | false => rfl
    | true => exact absurd (hc p hp _ (near_iff.mpr ⟨s, hs, adj_iff.mp e, rfl⟩)) h
theorem fig_kind (hf : Fig ts) (hp : p ∈ plc ts) : 1 ≤ kd0 (kindsOf ts) p ∧ kd0 (kindsOf ts) p ≤ 5 := by
  obtain ⟨t, ht, rfl⟩ := List.mem_map.mp hp
  rw [kd0_of hf.nodup ht]
  exact (hf.rng t ht).2.2
theorem part_fig (hf : Fig ts) (h : List.Sublist P (plc ts)) : Fig (figF (kindsOf ts) P) := by
  refine ⟨?_, fun t ht => ?_, ?_⟩
  · rw [figF_plc, riseB_iff]
    exact (riseB_iff.mp hf.rise).sublist h
  · obtain ⟨p, hp, rfl⟩ := List.mem_map.mp ht
    have hm := h.subset hp
    have hk := fig_kind hf hm
    obtain ⟨t', ht', rfl⟩ := List.mem_map.mp hm
    have := hf.rng t' ht'
    exact ⟨this.1, this.2.1, hk⟩
  · unfold figF
    rw [List.length_map]
    have := h.length_le
    unfold plc at this
    rw [List.length_map] at this
    have := hf.len
    omega
theorem near_plc (hf : Fig ts) : ∀ p, ∀ q ∈ near (kindsOf ts) p, q ∈ plc ts := fun p q h => by
  have := near_in p q h
  rwa [kinds_fresh hf.nodup, kd_keys] at this
/-! ### sides that two squares have -/
theorem adj_bey (hs : 0 ≤ s ∧ s ≤ 3) : sideE (bey p s) ((s + 2) % 4) = sideE p s := by
  obtain ⟨a, b⟩ := p
  rcases sides4 hs with rfl | rfl | rfl | rfl <;> simp [bey, sideE] <;> omega
theorem side_two {q : Int × Int} {u : Int} (hs : 0 ≤ s ∧ s ≤ 3) (hu : 0 ≤ u ∧ u ≤ 3) (h : sideE p s = sideE q u) (hpq : p ≠ q) : q = bey p s ∧ u = (s + 2) % 4 := by
  rcases sideE_inj hs hu h with ⟨h1, _⟩ | ⟨rfl, rfl, rfl⟩ | ⟨rfl, rfl, rfl⟩ | ⟨rfl, rfl, rfl⟩ | ⟨rfl, rfl, rfl⟩
  · exact absurd h1 hpq
  all_goals exact ⟨by simp [bey], by decide⟩
theorem edges_app (us vs : List (Int × Int × Int)) : edges (us ++ vs) = edges us ++ edges vs := by unfold edges; rw [List.flatMap_append]
theorem edge_count (hf : Fig ts) {t : Int × Int × Int} (ht : t ∈ ts) {s : Int} (hs : s ∈ sidesOf t.2.2) : decide ((edges ts).count (sideE (t.1, t.2.1) s) = 1) = !adj (kindsOf ts) (t.1, t.2.1) s := by
  have hsr := sidesOf_rng (hf.rng t ht).2.2 s hs
  obtain ⟨us, vs, rfl⟩ := List.append_of_mem ht
  have hn := hf.nodup
  have e0 : edges (us ++ t :: vs) = edges us ++ ((sidesOf t.2.2).map (sideE (t.1, t.2.1)) ++ edges vs) := by rw [edges_app]; unfold edges; rw [List.flatMap_cons]
  have c1 : ((sidesOf t.2.2).map (sideE (t.1, t.2.1))).count (sideE (t.1, t.2.1) s) = 1 := by
    have a := count_one (p := (t.1, t.2.1)) (hf.rng t ht).2.2 (sideE (t.1, t.2.1) s)
    have b : 0 < ((sidesOf t.2.2).map (sideE (t.1, t.2.1))).count (sideE (t.1, t.2.1) s) := List.count_pos_iff.mpr (List.mem_map.mpr ⟨s, hs, rfl⟩)
    omega
  have key : adj (kindsOf (us ++ t :: vs)) (t.1, t.2.1) s = true ↔ sideE (t.1, t.2.1) s ∈ edges us ∨ sideE (t.1, t.2.1) s ∈ edges vs := by
    have other : ∀ t' ∈ us ++ t :: vs, (t'.1, t'.2.1) ≠ (t.1, t.2.1) → t' ∈ us ∨ t' ∈ vs := fun t' h1 h2 => by
      rcases List.mem_append.mp h1 with h | h
      · exact .inl h
      · rcases List.mem_cons.mp h with rfl | h
        · exact absurd rfl h2
        · exact .inr h
    have mem : ∀ {ws : List (Int × Int × Int)}, sideE (t.1, t.2.1) s ∈ edges ws ↔ ∃ t' ∈ ws, ∃ u ∈ sidesOf t'.2.2, sideE (t'.1, t'.2.1) u = sideE (t.1, t.2.1) s := fun {ws} => by
      unfold edges
      rw [List.mem_flatMap]
      exact ⟨fun ⟨t', h1, h2⟩ => by obtain ⟨u, h3, h4⟩ := List.mem_map.mp h2; exact ⟨t', h1, u, h3, h4⟩, fun ⟨t', h1, u, h3, h4⟩ => ⟨t', h1, List.mem_map.mpr ⟨u, h3, h4⟩⟩⟩
    constructor
    · intro h
      have h2 := adj_iff.mp h
      have hin : bey (t.1, t.2.1) s ∈ plc (us ++ t :: vs) := by
        have := kd0_some ⟨_, h2⟩
        rwa [kinds_fresh hn, kd_keys] at this
      obtain ⟨t', ht', e'⟩ := List.mem_map.mp hin
      have hne : (t'.1, t'.2.1) ≠ (t.1, t.2.1) := by
        rw [e']
        intro e
        rcases sides4 hsr with rfl | rfl | rfl | rfl <;> simp [bey] at e <;> omega
      rw [← e', kd0_of hn ht'] at h2
      have hE : sideE (t'.1, t'.2.1) ((s + 2) % 4) = sideE (t.1, t.2.1) s := by rw [e']; exact adj_bey hsr
      rcases other t' ht' hne with h | h
      · exact .inl (mem.mpr ⟨t', h, _, h2, hE⟩)
      · exact .inr (mem.mpr ⟨t', h, _, h2, hE⟩)
    · intro h
      obtain ⟨t', ht', hne, u, hu, hE⟩ : ∃ t' ∈ us ++ t :: vs, (t.1, t.2.1) ≠ (t'.1, t'.2.1) ∧ ∃ u ∈ sidesOf t'.2.2, sideE (t'.1, t'.2.1) u = sideE (t.1, t.2.1) s := by
        have hpl : (plc us ++ (t.1, t.2.1) :: plc vs).Nodup := by
          have : plc (us ++ t :: vs) = plc us ++ (t.1, t.2.1) :: plc vs := by unfold plc; rw [List.map_append]; rfl
          rw [← this]; exact hn
        rw [List.nodup_append] at hpl
        rcases h with h | h
        · obtain ⟨t', h1, u, h2, h3⟩ := mem.mp h
          exact ⟨t', List.mem_append.mpr (.inl h1), fun e => hpl.2.2 _ (List.mem_map.mpr ⟨t', h1, rfl⟩) (t.1, t.2.1) List.mem_cons_self e.symm, u, h2, h3⟩
        · obtain ⟨t', h1, u, h2, h3⟩ := mem.mp h
          exact ⟨t', List.mem_append.mpr (.inr (List.mem_cons_of_mem _ h1)), fun e => (List.nodup_cons.mp hpl.2.1).1 (by rw [e]; exact List.mem_map.mpr ⟨t', h1, rfl⟩), u, h2, h3⟩
      obtain ⟨h1, h2⟩ := side_two hsr (sidesOf_rng (hf.rng t' ht').2.2 u hu) hE.symm hne
      rw [adj_iff, ← h1, kd0_of hn ht', ← h2]
      exact hu
  rw [e0, List.count_append, List.count_append, c1]
  cases ha : adj (kindsOf (us ++ t :: vs)) (t.1, t.2.1) s with
  | false =>
    have hno : ¬ (sideE (t.1, t.2.1) s ∈ edges us ∨ sideE (t.1, t.2.1) s ∈ edges vs) := fun h => by rw [key.mpr h] at ha; cases ha
    rw [not_or] at hno
    rw [List.count_eq_zero.mpr hno.1, List.count_eq_zero.mpr hno.2]
    rfl
  | true =>
    rcases key.mp ha with h | h
    · have := List.count_pos_iff.mpr h
      exact decide_eq_false (by omega)
    · have := List.count_pos_iff.mpr h
      exact decide_eq_false (by omega)
theorem filter_neg (q : Int → Bool) : ∀ L : List Int, (L.filter q).length + (L.filter fun x => !q x).length = L.length
  | [] => rfl
  | a :: L => by
    have := filter_neg q L
    rw [List.filter_cons, List.filter_cons]
    cases q a <;> simp <;> omega
/-- what is told of sides: had by one, or between two -/
theorem singles_near (hf : Fig ts) : (singles ts).length + ((plc ts).map fun p => (near (kindsOf ts) p).length).sum = (edges ts).length := by
  have h1 : (singles ts).length = ((edges ts).filter fun e => decide ((edges ts).count e = 1)).length := by
    have hs : singles ts = ((cntD (edges ts)).map (·.1)).filter fun e => decide ((edges ts).count e = 1) := by
      unfold singles
      refine List.filter_congr fun e he => ?_
      have := cnt_get (edges ts) (l := []) e nil_nodup
      rw [aget_nil] at this
      have h0 : (aget (cntD (edges ts)) e).getD 0 = ((edges ts).count e : Int) := by
        unfold cntD; rw [this]; show 0 + _ = _; omega
      rw [h0, decide_eq_decide]
      omega
    rw [hs]
    refine same_len ((cnt_nodup (edges ts) nil_nodup).sublist List.filter_sublist) (List.nodup_iff_count.mpr fun e => ?_) fun e => ?_
    · by_cases h : (edges ts).count e = 1
      · have hq : (fun e => decide ((edges ts).count e = 1)) e = true := decide_eq_true h
        rw [List.count_filter (p := fun e => decide ((edges ts).count e = 1)) (a := e) hq]; omega
      · have hz : ((edges ts).filter fun e => decide ((edges ts).count e = 1)).count e = 0 := List.count_eq_zero.mpr fun hm => h (of_decide_eq_true (List.mem_filter.mp hm).2)
        omega
    · rw [List.mem_filter, List.mem_filter]
      have := cnt_mem (edges ts) (l := []) (e := e)
      unfold cntD
      rw [this]
      simp
  have h2 : ∀ us : List (Int × Int × Int), (∀ t ∈ us, t ∈ ts) → ((edges us).filter fun e => decide ((edges ts).count e = 1)).length + ((plc us).map fun p => (near (kindsOf ts) p).length).sum = (edges us).length := fun us => by
    induction us with
    | nil => exact fun _ => rfl
    | cons t us ih =>
      intro hu
      have ih' := ih fun x hx => hu x (List.mem_cons_of_mem _ hx)
      have ht := hu t List.mem_cons_self
      have e0 : edges (t :: us) = (sidesOf t.2.2).map (sideE (t.1, t.2.1)) ++ edges us := by unfold edges; rw [List.flatMap_cons]
      have e1 : plc (t :: us) = (t.1, t.2.1) :: plc us := rfl
      have e2 : (((sidesOf t.2.2).map (sideE (t.1, t.2.1))).filter fun e => decide ((edges ts).count e = 1)).length = ((sidesOf t.2.2).filter fun s => !adj (kindsOf ts) (t.1, t.2.1) s).length := by
        rw [List.filter_map, List.length_map]
        congr 1
        refine List.filter_congr fun s hs => ?_
        exact edge_count hf ht hs
      have e3 : (near (kindsOf ts) (t.1, t.2.1)).length = ((sidesOf t.2.2).filter (adj (kindsOf ts) (t.1, t.2.1))).length := by
        unfold near
        rw [List.length_map, kd0_of hf.nodup ht]
      have e4 := filter_neg (adj (kindsOf ts) (t.1, t.2.1)) (sidesOf t.2.2)
      rw [e0, List.filter_append, List.length_append, List.length_append, e1, List.map_cons, List.sum_cons, e2, e3, List.length_map]
      omega
  rw [h1]
  exact h2 ts fun _ h => h
/-! ### sums over the parts -/
theorem sum_flat (w : Int × Int → Nat) : ∀ Ps : List (List (Int × Int)), (Ps.map fun P => (P.map w).sum).sum = (Ps.flatten.map w).sum
  | [] => rfl
  | P :: Ps => by rw [List.map_cons, List.sum_cons, sum_flat w Ps, List.flatten_cons, List.map_append, List.sum_append]
theorem perm_sumN {l m : List Nat} (h : l.Perm m) : l.sum = m.sum := by
  induction h with
  | nil => rfl
  | cons x _ ih => rw [List.sum_cons, List.sum_cons, ih]
  | swap x y l => simp only [List.sum_cons]; omega
  | trans _ _ i1 i2 => rw [i1, i2]
/-- the parts of a figure -/
noncomputable def partsP (ts : List (Int × Int × Int)) : List (List (Int × Int)) := partsG (near (kindsOf ts)) (plc ts)
noncomputable def partsT (ts : List (Int × Int × Int)) : List (List (Int × Int × Int)) := (partsP ts).map (figF (kindsOf ts))
theorem parts_sum (w : Int × Int → Nat) : ((partsP ts).map fun P => (P.map w).sum).sum = ((plc ts).map w).sum := by
  rw [sum_flat]
  exact perm_sumN ((parts_perm _).map w)
theorem partsP_fig (hf : Fig ts) {P : List (Int × Int)} (h : P ∈ partsP ts) : Fig (figF (kindsOf ts) P) ∧ P.Nodup ∧ (∀ p ∈ P, ∀ q ∈ near (kindsOf ts) p, q ∈ P) ∧ P ≠ [] := by
  have hs := parts_sub _ P h
  exact ⟨part_fig hf hs, hf.nodup.sublist hs, parts_closed near_symm _ (fun p _ q hq => near_plc hf p q hq) P h, parts_ne _ P h⟩
theorem edges_kd (P : List (Int × Int)) : (edges (figF l P)).length = (P.map fun p => (sidesOf (kd0 l p)).length).sum := by
  induction P with
  | nil => rfl
  | cons p P ih =>
    have e0 : edges (figF l (p :: P)) = (sidesOf (kd0 l p)).map (sideE (p.1, p.2)) ++ edges (figF l P) := by unfold edges figF; rw [List.map_cons, List.flatMap_cons]
    rw [e0, List.length_append, List.length_map, ih, List.map_cons, List.sum_cons]
theorem slants_kd (P : List (Int × Int)) : (slants (figF l P)).length = (P.map fun p => if kd0 l p = 5 then 0 else 1).sum := by
  induction P with
  | nil => rfl
  | cons p P ih =>
    have e0 : figF l (p :: P) = (p.1, p.2, kd0 l p) :: figF l P := rfl
    rw [List.map_cons, List.sum_cons, ← ih, e0]
    unfold slants
    rw [List.length_map, List.length_map, List.filter_cons]
    by_cases h : kd0 l p = 5 <;> simp [h] <;> omega
theorem area_kd (P : List (Int × Int)) : areaOf (figF l P) = ((P.map fun p => if kd0 l p = 5 then 2 else 1).sum : Nat) := by
  induction P with
  | nil => rfl
  | cons p P ih =>
    have e0 : figF l (p :: P) = (p.1, p.2, kd0 l p) :: figF l P := rfl
    rw [List.map_cons, List.sum_cons, e0]
    unfold areaOf at ih ⊢
    rw [List.map_cons, List.sum_cons, ih]
    by_cases h : kd0 l p = 5 <;> simp [h]
theorem areas_parts (hf : Fig ts) : ((partsT ts).map areaOf).sum = areaOf ts := by
  have h1 : areaOf ts = (((plc ts).map fun p => if kd0 (kindsOf ts) p = 5 then 2 else 1).sum : Nat) := by
    rw [← area_kd (l := kindsOf ts), figF_all hf.nodup]
  rw [h1, ← parts_sum]
  unfold partsT
  rw [List.map_map]
  generalize partsP ts = Ps
  induction Ps with
  | nil => rfl
  | cons P Ps ih => rw [List.map_cons, List.sum_cons, ih, List.map_cons, List.sum_cons]; show areaOf (figF _ P) + _ = _; rw [area_kd]; omega
theorem slants_parts (hf : Fig ts) : ((partsT ts).map fun us => (slants us).length).sum = (slants ts).length := by
  have h1 : (slants ts).length = ((plc ts).map fun p => if kd0 (kindsOf ts) p = 5 then 0 else 1).sum := by
    rw [← slants_kd (l := kindsOf ts), figF_all hf.nodup]
  rw [h1, ← parts_sum]
  unfold partsT
  rw [List.map_map]
  congr 1
  exact List.map_congr_left fun P _ => slants_kd P
theorem singles_parts (hf : Fig ts) : ((partsT ts).map fun us => (singles us).length).sum = (singles ts).length := by
  have h0 := singles_near hf
  have h1 : (edges ts).length = ((plc ts).map fun p => (sidesOf (kd0 (kindsOf ts) p)).length).sum := by
    rw [← edges_kd (l := kindsOf ts), figF_all hf.nodup]
  rw [h1, ← parts_sum, ← parts_sum] at h0
  have key : ∀ Ps : List (List (Int × Int)), (∀ P ∈ Ps, P ∈ partsP ts) → ((Ps.map (figF (kindsOf ts))).map fun us => (singles us).length).sum + (Ps.map fun P => (P.map fun p => (near (kindsOf ts) p).length).sum).sum = (Ps.map fun P => (P.map fun p => (sidesOf (kd0 (kindsOf ts) p)).length).sum).sum := fun Ps => by
    induction Ps with
    | nil => exact fun _ => rfl
    | cons P Ps ih =>
      intro h
      have ih' := ih fun Q hQ => h Q (List.mem_cons_of_mem _ hQ)
      obtain ⟨g1, g2, g3, _⟩ := partsP_fig hf (h P List.mem_cons_self)
      have e := singles_near g1
      rw [figF_plc, edges_kd] at e
      have e2 : (P.map fun p => (near (kindsOf (figF (kindsOf ts) P)) p).length) = P.map fun p => (near (kindsOf ts) p).length := List.map_congr_left fun p hp => by rw [near_part g2 g3 hp]
      rw [e2] at e
      simp only [List.map_cons, List.sum_cons]
      omega
  have h2 := key (partsP ts) fun _ h => h
  unfold partsT
  omega
end
end Py
end

section
set_option Elab.async false
set_option linter.all false
set_option autoImplicit false
set_option maxRecDepth 100000
/-! The parts of a figure, run. -/
namespace Py
open PySem (Str CmpOp)
abbrev DP (l : List ((Int × Int) × Int)) : PV := .dct (encD prK PV.int l)
abbrev TSq (ts : List (Int × Int × Int)) : PV := .tup (ts.map sq)
/-- the kinds are kinds -/
structure KdOk (l : List ((Int × Int) × Int)) : Prop where
  nd : (l.map (·.1)).Nodup
  all : ∀ e ∈ l, 1 ≤ e.2 ∧ e.2 ≤ 5
theorem Fig.kdok {ts : List (Int × Int × Int)} (h : Fig ts) : KdOk (kindsOf ts) := ⟨kinds_nodup h.nodup, fun e he => by
  rw [kinds_fresh h.nodup] at he
  obtain ⟨t, ht, rfl⟩ := List.mem_map.mp he
  exact (h.rng t ht).2.2⟩
theorem Fig.keys {ts : List (Int × Int × Int)} (h : Fig ts) : (kindsOf ts).map (·.1) = plc ts := by rw [kinds_fresh h.nodup, kd_keys]
section
variable {F : List Fn} {d : Nat} {cup c : Option (Int × Int)} {Φ : Calls} {l : List ((Int × Int) × Int)} {p q : Int × Int} {s k : Int}
theorem get_kd (h : p ∈ l.map (·.1)) : aget l p = some (kd0 l p) := by
  obtain ⟨x, hx⟩ := aget_of_key h
  unfold kd0
  rw [hx]; rfl
theorem KdOk.rng (h : KdOk l) (hp : p ∈ l.map (·.1)) : 1 ≤ kd0 l p ∧ kd0 l p ≤ 5 := h.all _ (aget_mem (get_kd hp))
theorem idx_kd {cu : Option (Int × Int)} (h : p ∈ l.map (·.1)) : idxV cu (DP l) (pr p) = .ok (.int (kd0 l p)) := idx_D prK PV.int l p (get_kd h)
/-! lists of places -/
theorem prs_plain (L : List (Int × Int)) : ∀ y ∈ L.map pr, y.plain = true ∧ y.depth ≤ 10 := fun y hy => by
  obtain ⟨a, _, rfl⟩ := List.mem_map.mp hy
  exact ⟨by simp [pr, PV.plain, PV.plains], by simp [pr, PV.depth, PV.depths]⟩
theorem c_ne_prs (L : List (Int × Int)) : cmpV .NotEq (.lst (L.map pr)) (.lst []) = .ok (.bl (!L.isEmpty)) := by
  rw [lst_ne _ (prs_plain L), List.isEmpty_map]
theorem inB_prs (p : Int × Int) (L : List (Int × Int)) : inV (pr p) (.lst (L.map pr)) = .ok (decide (p ∈ L)) := by
  show Res.of ((L.map pr).all PV.fine && (pr p).fine) (Res.ok ((L.map pr).any fun z => z.eqv (pr p))) = _
  have h1 : (L.map pr).all PV.fine = true := by rw [List.all_map, List.all_eq_true]; exact fun a _ => fine_pr a
  rw [h1, fine_pr, Bool.and_self, rof_t, List.any_map]
  congr 1
  rw [Bool.eq_iff_iff, List.any_eq_true, decide_eq_true_eq]
  constructor
  · rintro ⟨a, ha, e⟩
    have e : (pr a).eqv (pr p) = true := e
    rw [pr_eqv, decide_eq_true_eq] at e
    rw [← e]; exact ha
  · intro h
    exact ⟨p, h, by show (pr p).eqv (pr p) = true; rw [pr_eqv, decide_eq_true rfl]⟩
theorem c_in_prs (p : Int × Int) (L : List (Int × Int)) : cmpV .In (pr p) (.lst (L.map pr)) = .ok (.bl (decide (p ∈ L))) := by
  show (inV (pr p) (.lst (L.map pr))).bind _ = _
  rw [inB_prs]; rfl
theorem c_nin_prs (p : Int × Int) (L : List (Int × Int)) : cmpV .NotIn (pr p) (.lst (L.map pr)) = .ok (.bl (decide (p ∉ L))) := by
  show ((inV (pr p) (.lst (L.map pr))).bind fun b => Res.ok (!b)).bind _ = _
  rw [inB_prs]
  show Res.ok (PV.bl (!decide (p ∈ L))) = _
  by_cases h : p ∈ L <;> simp [h]
/-! ### beyond a side -/
def stepE (j : Int) : E := (.op .idx [(.op .idx [(.con "STEPS" (.tup [.tup [.int 0, .int (-1)], .tup [.int 1, .int 0], .tup [.int 0, .int 1], .tup [.int (-1), .int 0]])), (.bor 1)]), (.lit (.int j))])
def stepB : List S := [(.ret (.op .tup [(.op .add [(.op .idx [(.bor 0), (.lit (.int 0))]), stepE 0]), (.op .add [(.op .idx [(.bor 0), (.lit (.int 1))]), stepE 1])]))]
theorem step_run {k : Nat} (h : FnIs F k 2 2 stepB) (p : Int × Int) (hs : 0 ≤ s ∧ s ≤ 3) : callN F (d + 1) k [pr p, .int s] cup = .ok (pr (bey p s), cup) := by
  obtain ⟨f, hk, hn, hss, hb⟩ := h
  have hst : startE f [pr p, .int s] = [.val (pr p), .val (.int s)] := by simp [startE, hss]
  refine fn_rt (st1 := ⟨[.val (pr p), .val (.int s)], cup⟩) hk (by rw [hn]; rfl) ?_
  rw [hb, hst]
  refine sq_rt (rt_ok ?_)
  have a0 : ev (callN F d) (.op .idx [(.bor 0), (.lit (.int 0))]) ⟨[.val (pr p), .val (.int s)], cup⟩ = .ok (.int p.1, ⟨[.val (pr p), .val (.int s)], cup⟩) := by simp [pr, idxV, atI, ixN]
  have a1 : ev (callN F d) (.op .idx [(.bor 0), (.lit (.int 1))]) ⟨[.val (pr p), .val (.int s)], cup⟩ = .ok (.int p.2, ⟨[.val (pr p), .val (.int s)], cup⟩) := by simp [pr, idxV, atI, ixN]
  have key : ∀ (x y : Int), ev (callN F d) (stepE 0) ⟨[.val (pr p), .val (.int s)], cup⟩ = .ok (.int x, ⟨[.val (pr p), .val (.int s)], cup⟩) → ev (callN F d) (stepE 1) ⟨[.val (pr p), .val (.int s)], cup⟩ = .ok (.int y, ⟨[.val (pr p), .val (.int s)], cup⟩) → bey p s = (p.1 + x, p.2 + y) →
      ev (callN F d) (.op .tup [(.op .add [(.op .idx [(.bor 0), (.lit (.int 0))]), stepE 0]), (.op .add [(.op .idx [(.bor 0), (.lit (.int 1))]), stepE 1])]) ⟨[.val (pr p), .val (.int s)], cup⟩ = .ok (pr (bey p s), ⟨[.val (pr p), .val (.int s)], cup⟩) := fun x y e1 e2 e3 => by
    rw [e3]
    exact op2 rfl rfl (op2 rfl rfl a0 e1 rfl) (op2 rfl rfl a1 e2 rfl) rfl
  rcases sides4 hs with rfl | rfl | rfl | rfl
  · exact key 0 (-1) (by simp [stepE, atI, ixN]) (by simp [stepE, atI, ixN]) (by simp [bey]; omega)
  · exact key 1 0 (by simp [stepE, atI, ixN]) (by simp [stepE, atI, ixN]) (by simp [bey])
  · exact key 0 1 (by simp [stepE, atI, ixN]) (by simp [stepE, atI, ixN]) (by simp [bey])
  · exact key (-1) 0 (by simp [stepE, atI, ixN]) (by simp [stepE, atI, ixN]) (by simp [bey]; omega)
/-! ### squares side by side -/
def sidesD : E := (.con "SIDES" (.dct [(.int 1, .tup [.int 0, .int 3]), (.int 2, .tup [.int 0, .int 1]), (.int 3, .tup [.int 1, .int 2]), (.int 4, .tup [.int 2, .int 3]), (.int 5, .tup [.int 0, .int 1, .int 2, .int 3])]))
theorem sidesD_idx {cu : Option (Int × Int)} (hk : 1 ≤ k ∧ k ≤ 5) : idxV cu (.dct [(.int 1, .tup [.int 0, .int 3]), (.int 2, .tup [.int 0, .int 1]), (.int 3, .tup [.int 1, .int 2]), (.int 4, .tup [.int 2, .int 3]), (.int 5, .tup [.int 0, .int 1, .int 2, .int 3])]) (.int k) = .ok (.tup ((sidesOf k).map .int)) := by
  rcases kinds5 hk with rfl | rfl | rfl | rfl | rfl <;> rfl
theorem sidesD_run {e : E} {st st1 : St} (hb : isBorE e = false) (hk : 1 ≤ k ∧ k ≤ 5) (h : ev Φ e st = .ok (.int k, st1)) : ev Φ (.op .idx [sidesD, e]) st = .ok (.tup ((sidesOf k).map .int), st1) := op2 rfl hb (r_con _ _) h (by rw [o_idx, sidesD_idx hk])
theorem c_in_ints (x : Int) (L : List Int) : cmpV .In (.int x) (.tup (L.map .int)) = .ok (.bl (L.any fun y => decide (y = x))) ∧ cmpV .In (.int x) (.lst (L.map .int)) = .ok (.bl (L.any fun y => decide (y = x))) := by
  have h1 : ((L.map PV.int).all PV.fine) = true := by rw [List.all_map, List.all_eq_true]; exact fun _ _ => rfl
  have h2 : ((L.map PV.int).any fun z => z.eqv (.int x)) = L.any fun y => decide (y = x) := by rw [List.any_map]; rfl
  constructor
  · show ((Res.of ((L.map PV.int).all PV.fine && (PV.int x).fine) (Res.ok ((L.map PV.int).any fun z => z.eqv (.int x))))).bind _ = _
    rw [h1, fine_int, h2]; rfl
  · show ((Res.of ((L.map PV.int).all PV.fine && (PV.int x).fine) (Res.ok ((L.map PV.int).any fun z => z.eqv (.int x))))).bind _ = _
    rw [h1, fine_int, h2]; rfl
def turnS : E := (.op .mod [(.op .add [(.bor 3), (.lit (.int 2))]), (.lit (.int 4))])
def joinC : E := (.and (.op (.cmp .In) [(.bor 4), (.bor 0)]) (.op (.cmp .In) [turnS, (.op .idx [sidesD, (.op .idx [(.bor 0), (.bor 4)])])]))
def joinT (ks : Nat) : List S := [(.asg (.nm 4) (.call ks [(.var 1), (.var 3)])), (.ite joinC [(.app 2 (.var 4))] [])]
def joinB (ks : Nat) : List S := [(.asgo 2 (.op .lst [])), (.for (.nm 3) (.op .idx [sidesD, (.op .idx [(.bor 0), (.bor 1)])]) (joinT ks)), (.ret (.var 2))]
def nearF (l : List ((Int × Int) × Int)) (p : Int × Int) (a : List (Int × Int)) (s : Int) : List (Int × Int) := a ++ if adj l p s = true then [bey p s] else []
theorem nearF_all (l : List ((Int × Int) × Int)) (p : Int × Int) : ∀ (ss : List Int) (a : List (Int × Int)), ss.foldl (nearF l p) a = a ++ (ss.filter (adj l p)).map (bey p)
  | [], a => by simp
  | s :: ss, a => by
    rw [List.foldl_cons, nearF_all l p ss]
    unfold nearF
    rw [List.filter_cons]
    cases adj l p s <;> simp
theorem adj_ahas (hl : KdOk l) (h : ahas l (bey p s) = true) : adj l p s = (sidesOf (kd0 l (bey p s))).any (fun x => decide (x = (s + 2) % 4)) ∧ bey p s ∈ l.map (·.1) := ⟨rfl, ahas_iff.mp h⟩
theorem adj_no (h : ahas l (bey p s) = false) : adj l p s = false := by
  unfold adj
  rw [kd0_none h]; rfl
theorem joined_run {k ks : Nat} (h : FnIs F k 2 5 (joinB ks)) (hst : FnIs F ks 2 2 stepB) (hl : KdOk l) (hp : p ∈ l.map (·.1)) : callN F (d + 2) k [DP l, pr p] cup = .ok (.lst ((near l p).map pr), cup) := by
  obtain ⟨f, hk, hn, hss, hb⟩ := h
  have e0 : startE f [DP l, pr p] = [.val (DP l), .val (pr p), .unk, .unk, .unk] := by simp [startE, hss]
  have hkr := hl.rng hp
  obtain ⟨st', loop, s3, s4, rfl⟩ := for_fold (turn := forTurn (callN F (d + 1)) (.nm 3) (joinT ks)) PV.int (fun (a : List (Int × Int)) st => ∃ s3 s4, st = ⟨[.val (DP l), .val (pr p), .own (.lst (a.map pr)), s3, s4], cup⟩) (nearF l p) (xs := sidesOf (kd0 l p)) (a := [])
    (st := ⟨[.val (DP l), .val (pr p), .own (.lst []), .unk, .unk], cup⟩) ⟨.unk, .unk, rfl⟩ fun us s ws eu st ⟨s3, s4, es⟩ => by
      subst es
      have hsm : s ∈ sidesOf (kd0 l p) := by rw [eu]; simp
      have hs := sides_any hsm
      have hal : (us.foldl (nearF l p) []).length ≤ 4 := by
        rw [nearF_all, List.nil_append, List.length_map]
        have a := List.length_filter_le (adj l p) us
        have b := sidesOf_len hkr
        rw [eu, List.length_append] at b
        omega
      generalize us.foldl (nearF l p) [] = a at *
      rw [ft_nm]
      show ∃ s', exs (callN F (d + 1)) (joinT ks) ⟨[.val (DP l), .val (pr p), .own (.lst (a.map pr)), .val (.int s), s4], cup⟩ = _ ∧ _
      have kA : ev (callN F (d + 1)) (.call ks [(.var 1), (.var 3)]) ⟨[.val (DP l), .val (pr p), .own (.lst (a.map pr)), .val (.int s), s4], cup⟩ = .ok (pr (bey p s), ⟨[.val (DP l), .val (pr p), .own (.lst (a.map pr)), .val (.int s), s4], cup⟩) := ca_2 (va_ok rfl) (va_ok rfl) (step_run (d := d) hst p hs)
      have kI : ev (callN F (d + 1)) (.op (.cmp .In) [(.bor 4), (.bor 0)]) ⟨[.val (DP l), .val (pr p), .own (.lst (a.map pr)), .val (.int s), .val (pr (bey p s))], cup⟩ = .ok (.bl (ahas l (bey p s)), ⟨[.val (DP l), .val (pr p), .own (.lst (a.map pr)), .val (.int s), .val (pr (bey p s))], cup⟩) := by
        have e : cmpV .In (pr (bey p s)) (DP l) = .ok (.bl (ahas l (bey p s))) := c_in_D prK PV.int l (bey p s)
        generalize DP l = D at *
        generalize PV.lst (a.map pr) = X at *
        generalize pr (bey p s) = Q at *
        simp [e]
      have kC : ev (callN F (d + 1)) joinC ⟨[.val (DP l), .val (pr p), .own (.lst (a.map pr)), .val (.int s), .val (pr (bey p s))], cup⟩ = .ok (.bl (adj l p s), ⟨[.val (DP l), .val (pr p), .own (.lst (a.map pr)), .val (.int s), .val (pr (bey p s))], cup⟩) := by
        cases hh : ahas l (bey p s) with
        | false => rw [hh] at kI; rw [adj_no hh]; exact an_f kI
        | true =>
          rw [hh] at kI
          refine an_t kI ?_
          obtain ⟨ea, hin⟩ := adj_ahas hl hh
          have kD : ev (callN F (d + 1)) (.op .idx [(.bor 0), (.bor 4)]) ⟨[.val (DP l), .val (pr p), .own (.lst (a.map pr)), .val (.int s), .val (pr (bey p s))], cup⟩ = .ok (.int (kd0 l (bey p s)), ⟨[.val (DP l), .val (pr p), .own (.lst (a.map pr)), .val (.int s), .val (pr (bey p s))], cup⟩) := by
            have e : idxV cup (DP l) (pr (bey p s)) = .ok (.int (kd0 l (bey p s))) := idx_kd hin
            generalize DP l = D at *
            generalize PV.lst (a.map pr) = X at *
            generalize pr (bey p s) = Q at *
            simp [e]
          have kT : ev (callN F (d + 1)) turnS ⟨[.val (DP l), .val (pr p), .own (.lst (a.map pr)), .val (.int s), .val (pr (bey p s))], cup⟩ = .ok (.int ((s + 2) % 4), ⟨[.val (DP l), .val (pr p), .own (.lst (a.map pr)), .val (.int s), .val (pr (bey p s))], cup⟩) := by
            generalize DP l = D at *
            generalize PV.lst (a.map pr) = X at *
            simp [turnS]
          rw [ea]
          exact op2 rfl rfl kT (sidesD_run rfl (hl.rng hin) kD) (by rw [o_cmp]; exact (c_in_ints _ _).1)
      cases ha : adj l p s with
      | false =>
        rw [ha] at kC
        refine ⟨_, (sq_nx (as_nm kA)).trans ((sq_nx (if_n kC)).trans r_exs0), .val (.int s), .val (pr (bey p s)), ?_⟩
        unfold nearF
        rw [ha, if_neg Bool.false_ne_true, List.append_nil]
      | true =>
        rw [ha] at kC
        have kP := r_appL (Φ := callN F (d + 1)) (i := 2) (e := .var 4) (x := pr (bey p s)) (ys := a.map pr) (xs := a.map pr) (st := ⟨[.val (DP l), .val (pr p), .own (.lst (a.map pr)), .val (.int s), .val (pr (bey p s))], cup⟩) rfl (va_ok rfl) rfl (fitsL_k (by rw [List.length_map]; omega))
        refine ⟨_, (sq_nx (as_nm kA)).trans ((sq_nx ((if_t kC).trans ((sq_nx kP).trans r_exs0))).trans r_exs0), .val (.int s), .val (pr (bey p s)), ?_⟩
        unfold nearF
        rw [ha, if_pos rfl, List.map_append]
        rfl
  rw [nearF_all, List.nil_append] at loop
  have kD : ev (callN F (d + 1)) (.op .idx [(.bor 0), (.bor 1)]) ⟨[.val (DP l), .val (pr p), .own (.lst []), .unk, .unk], cup⟩ = .ok (.int (kd0 l p), ⟨[.val (DP l), .val (pr p), .own (.lst []), .unk, .unk], cup⟩) := by
    have e : idxV cup (DP l) (pr p) = .ok (.int (kd0 l p)) := idx_kd hp
    generalize DP l = D at *
    generalize pr p = Q at *
    simp [e]
  refine fn_rt (st1 := ⟨[.val (DP l), .val (pr p), .val (.lst (((sidesOf (kd0 l p)).filter (adj l p)).map (bey p) |>.map pr)), s3, s4], cup⟩) hk (by rw [hn]; rfl) ?_
  rw [hb, e0]
  exact (sq_nx (as_o op0l)).trans ((sq_nx (fr_ok (sidesD_run rfl hkr kD) rfl loop)).trans (sq_rt (rt_ok (va_own rfl))))
/-! ### the figure of a dict -/
theorem sqs_lcV {env : List Slot} {cu : Option (Int × Int)} {i j : Nat} {l : List ((Int × Int) × Int)} (h0 : slotV env i = .ok (DP l)) (hij : i ≠ j) (hj : j < env.length) (hc : cleanE env [j]) (hlen : l.length ≤ 1000) :
    ev Φ (.lc [j] (.nm j) (.op (.bif .sorted) [(.bor i)]) (.lit (.bl true)) (.op .add [(.bor j), (.op .tup [(.op .idx [(.bor i), (.bor j)])])])) ⟨env, cu⟩ = .ok (.lst ((figF l (srtP (l.map (·.1)))).map sq), ⟨env, cu⟩) := by
  have hsort : ev Φ (.op (.bif .sorted) [(.bor i)]) ⟨env, cu⟩ = .ok (.lst ((srtP (l.map (·.1))).map pr), ⟨env, cu⟩) := by
    have e : bifV .sorted [DP l] = .ok (.lst ((srtP (l.map (·.1))).map pr)) := b_sorted_d PV.int l
    generalize DP l = D at *
    simp [h0, e]
  have e := lc_all (Φ := Φ) (j := j) (elt := (.op .add [(.bor j), (.op .tup [(.op .idx [(.bor i), (.bor j)])])])) pr (fun p => sq (p.1, p.2, kd0 l p)) hsort rfl hc (by rw [(srtP_perm _).length_eq, List.length_map]; omega) fun p hp => by
    have hk := (srtP_perm _).mem_iff.mp hp
    have hi : idxV cu (DP l) (pr p) = .ok (.int (kd0 l p)) := idx_kd hk
    have s1 : slotV (env.set j (.val (pr p))) j = .ok (pr p) := sl_self hj
    have s2 : slotV (env.set j (.val (pr p))) i = .ok (DP l) := by rw [sl_ne (Ne.symm hij)]; exact h0
    have ha : addV (pr p) (.tup [.int (kd0 l p)]) = .ok (sq (p.1, p.2, kd0 l p)) := rfl
    generalize DP l = D at *
    generalize pr p = Q at *
    simp [s1, s2, hi, ha]
  unfold figF
  rw [List.map_map]
  exact e
def figOfB : List S := [(.ret (.op (.bif .tuple) [(.lc [1] (.nm 1) (.op (.bif .sorted) [(.bor 0)]) (.lit (.bl true)) (.op .add [(.bor 1), (.op .tup [(.op .idx [(.bor 0), (.bor 1)])])]))]))]
theorem fig_of_run {k : Nat} (h : FnIs F k 1 2 figOfB) {l : List ((Int × Int) × Int)} (hlen : l.length ≤ 1000) : callN F (d + 1) k [DP l] cup = .ok (TSq (figF l (srtP (l.map (·.1)))), cup) := by
  obtain ⟨f, hk, hn, hss, hb⟩ := h
  have e0 : startE f [DP l] = [.val (DP l), .unk] := by simp [startE, hss]
  have e := sqs_lcV (Φ := callN F d) (env := [.val (DP l), .unk]) (cu := cup) (i := 0) (j := 1) (l := l) rfl (by decide) (by simp) (by intro i hi p; simp at hi; subst hi; simp) hlen
  refine fn_rt (st1 := ⟨[.val (DP l), .unk], cup⟩) hk (by rw [hn]; rfl) ?_
  rw [hb, e0]
  exact sq_rt (rt_ok (op1 rfl e rfl))
end
end Py
end

section
set_option Elab.async false
set_option linter.all false
set_option autoImplicit false
set_option maxRecDepth 100000
/-! The walk over the parts, run. -/
namespace Py
open PySem (Str CmpOp)
theorem sortedP_eq {l m : List (Int × Int)} (h : l.Perm m) (h1 : l.Pairwise fun a b => leP a b = true) (h2 : m.Pairwise fun a b => leP a b = true) : l = m :=
  List.Perm.eq_of_pairwise (le := fun a b => leP a b = true) (fun a b _ _ h g => leP_anti h g) h1 h2 h
section
variable {F : List Fn} {d : Nat} {cup c : Option (Int × Int)} {Φ : Calls} {ts : List (Int × Int × Int)} {left part : List (Int × Int)} {found : List (List (Int × Int))} {a : Int × Int}
abbrev nbT (ts : List (Int × Int × Int)) : Int × Int → List (Int × Int) := near (kindsOf ts)
structure Ou (ts : List (Int × Int × Int)) (left : List (Int × Int)) (found : List (List (Int × Int))) : Prop where
  all : found ++ partsG (nbT ts) left = partsP ts
  sub : List.Sublist left (plc ts)
  clo : ∀ p ∈ left, ∀ q ∈ nbT ts p, q ∈ left
theorem Ou.start (hf : Fig ts) : Ou ts (plc ts) [] := ⟨rfl, List.Sublist.refl _, fun p _ q hq => near_plc hf p q hq⟩
theorem Ou.fin (h : Ou ts [] found) : found = partsP ts := by
  have := h.all
  rwa [parts_nil, List.append_nil] at this
theorem Ou.step {l' : List (Int × Int)} (hf : Fig ts) (h : Ou ts (a :: l') found) (hp : ∀ y, y ∈ part ↔ Rch (nbT ts) a y) (hn : part.Nodup) :
    ((a :: l').filter fun p => decide (p ∉ part)) = l'.filter (fun p => !rchB (nbT ts) a p) ∧ srtP part = a :: l'.filter (rchB (nbT ts) a) ∧ Ou ts (l'.filter fun p => !rchB (nbT ts) a p) (found ++ [a :: l'.filter (rchB (nbT ts) a)]) := by
  have e1 : ∀ p, decide (p ∉ part) = !rchB (nbT ts) a p := fun p => by
    cases hr : rchB (nbT ts) a p with
    | true => exact decide_eq_false fun g => g ((hp p).mpr (rchB_iff.mp hr))
    | false => exact decide_eq_true fun g => by rw [rchB_iff.mpr ((hp p).mp g)] at hr; cases hr
  have e2 : ((a :: l').filter fun p => decide (p ∉ part)) = l'.filter (fun p => !rchB (nbT ts) a p) := by
    rw [List.filter_congr fun p _ => e1 p, List.filter_cons, rch_self, if_neg (by simp)]
  have hcl : ∀ y, Rch (nbT ts) a y → y ∈ a :: l' := fun y g => g.within (Q := fun y => y ∈ a :: l') List.mem_cons_self fun p q h1 h2 => h.clo p h1 q h2
  have hasc := (riseB_iff.mp hf.rise).sublist h.sub
  refine ⟨e2, ?_, ⟨?_, ?_, ?_⟩⟩
  · rw [parts_head]
    refine sortedP_eq ((srtP_perm part).trans ((List.perm_ext_iff_of_nodup hn ((hf.nodup.sublist h.sub).sublist List.filter_sublist)).mpr fun y => ?_)) (srtP_sorted _) ((hasc.sublist List.filter_sublist).imp fun x => ltP_le x)
    rw [hp, List.mem_filter, rchB_iff]
    exact ⟨fun g => ⟨hcl y g, g⟩, fun g => g.2⟩
  · rw [List.append_assoc, ← h.all, parts_cons]; rfl
  · exact (List.filter_sublist.trans (List.sublist_cons_self _ _)).trans h.sub
  · intro p hp2 q hq
    obtain ⟨h1, h2⟩ := List.mem_filter.mp hp2
    have hnp : ¬ Rch (nbT ts) a p := fun g => by rw [rchB_iff.mpr g] at h2; cases h2
    have hnq : ¬ Rch (nbT ts) a q := fun g => hnp (g.step (near_symm p q hq))
    have hq2 := h.clo p (List.mem_cons_of_mem _ h1) q hq
    rcases List.mem_cons.mp hq2 with rfl | hq2
    · exact absurd .refl hnq
    · refine List.mem_filter.mpr ⟨hq2, ?_⟩
      rw [Bool.not_eq_true', ← Bool.not_eq_true, rchB_iff]; exact hnq
theorem bf_step {line rest : List (Int × Int)} {x : Int × Int} (hf : Fig ts) (h : Bf (nbT ts) (plc ts) a part line) (hx : x ∈ line) (hl : ∀ y, y ∈ line → y = x ∨ y ∈ rest) (hr : ∀ y ∈ rest, y ∈ line) (hrn : rest.Nodup) (hlen : rest.length + 1 = line.length) :
    Bf (nbT ts) (plc ts) a (part ++ more (nbT ts) part x) (rest ++ more (nbT ts) part x) ∧ 2 * (60 - (part ++ more (nbT ts) part x).length) + (rest ++ more (nbT ts) part x).length < 2 * (60 - part.length) + line.length := by
  have h2 := h.step hx hl hr hrn (fun p _ q hq => near_plc hf p q hq) (fun p _ => near_nodup)
  have l1 := h2.len
  have l2 : (plc ts).length ≤ 60 := by unfold plc; rw [List.length_map]; exact hf.len
  refine ⟨h2, ?_⟩
  rw [List.length_append] at l1 ⊢
  rw [List.length_append]
  omega
theorem more_eq {part : List (Int × Int)} {x : Int × Int} : more (nbT ts) part x = (near (kindsOf ts) x).filter fun y => decide (y ∉ part) := by
  unfold more
  refine List.filter_congr fun y _ => ?_
  by_cases h : y ∈ part <;> simp [h]
theorem plc_len (hf : Fig ts) : (plc ts).length ≤ 60 := by unfold plc; rw [List.length_map]; exact hf.len
theorem bf_small {line : List (Int × Int)} (hf : Fig ts) (h : Bf (nbT ts) (plc ts) a part line) : part.length ≤ 60 := Nat.le_trans h.len (plc_len hf)
/-! ### the package's -/
def piMore (kj : Nat) : E := (.lc [9] (.nm 9) (.call kj [(.var 1), (.pop 5)]) (.op (.cmp .NotIn) [(.bor 9), (.bor 4)]) (.var 9))
def piIn (kj : Nat) : List S := [(.asg (.nm 6) (piMore kj)), (.asgs [(4, false), (5, true)] [(.op .add [(.bor 4), (.bor 6)]), (.op .cat [(.bor 5), (.bor 6)])])]
def piDc : E := (.dc [8] (.nm 8) (.var 4) (.lit (.bl true)) (.var 8) (.op .idx [(.bor 1), (.bor 8)]))
def piOut (kj kf : Nat) : List S := [(.asgs [(4, false), (5, true)] [(.op .lst [(.op .idx [(.bor 2), (.lit (.int 0))])]), (.op .lst [(.op .idx [(.bor 2), (.lit (.int 0))])])]),
  (.while (.op (.cmp .NotEq) [(.bor 5), (.op .lst [])]) (piIn kj)),
  (.asg (.nm 2) (.lc [8] (.nm 8) (.var 2) (.op (.cmp .NotIn) [(.bor 8), (.bor 4)]) (.var 8))),
  (.app 3 (.call kf [piDc]))]
def piB (kk kj kf : Nat) : List S := [(.asgs [(1, false), (2, false), (3, true)] [(.call kk [(.var 0)]), (.lc [7] (.nm 7) (.var 0) (.lit (.bl true)) (.op (.slc false true) [(.bor 7), (.lit (.int 2))])), (.op .lst [])]),
  (.while (.op (.cmp .NotEq) [(.bor 2), (.op .lst [])]) (piOut kj kf)), (.ret (.var 3))]
def piE (ts : List (Int × Int × Int)) (left : List (Int × Int)) (found : List (List (Int × Int))) (s4 s5 s6 : Slot) : List Slot := [.val (TSq ts), .val (DP (kindsOf ts)), .val (.lst (left.map pr)), .own (.lst (found.map fun P => TSq (figF (kindsOf ts) P))), s4, s5, s6, .unk, .unk, .unk]
theorem neE_run {i : Nat} {st : St} {L : List (Int × Int)} (h : slotV st.env i = .ok (.lst (L.map pr))) : ev Φ (.op (.cmp .NotEq) [(.bor i), (.op .lst [])]) st = .ok (.bl (!L.isEmpty), st) := by
  have e := c_ne_prs L
  generalize PV.lst (L.map pr) = X at *
  simp [h, e]
theorem idx_hd {cu : Option (Int × Int)} (x : PV) (xs : List PV) : idxV cu (.lst (x :: xs)) (.int 0) = .ok x := by
  rw [idx_lst]
  have : atI (x :: xs) 0 = some x := by
    unfold atI ixN
    rw [if_pos (Int.le_refl 0), if_pos (by rw [List.length_cons]; omega)]; rfl
  rw [this]; rfl
theorem pop_ok {env : List Slot} {i : Nat} {xs : List PV} {x : PV} (h : env[i]? = some (.own (.lst (xs ++ [x])))) : ev Φ (.pop i) ⟨env, cup⟩ = .ok (x, ⟨env.set i (.own (.lst xs)), cup⟩) := by
  rw [ev]
  simp only [h]
  rw [List.getLast?_append]
  show (Res.ok x).bind _ = _
  rw [rbind_ok, List.dropLast_concat]
/-- a search -/
theorem piIn_run {kj ks : Nat} (hj : FnIs F kj 2 5 (joinB ks)) (hst : FnIs F ks 2 2 stepB) (hf : Fig ts) (ha : a ∈ plc ts) {s6 : Slot} {found : List (List (Int × Int))} : ∃ (part : List (Int × Int)) (s6' : Slot), part.Nodup ∧ part.length ≤ 60 ∧ (∀ y, y ∈ part ↔ Rch (nbT ts) a y) ∧ (∀ y ∈ part, y ∈ plc ts) ∧
    ex (callN F (d + 2)) (.while (.op (.cmp .NotEq) [(.bor 5), (.op .lst [])]) (piIn kj)) ⟨piE ts left found (.val (.lst ([a].map pr))) (.own (.lst ([a].map pr))) s6, c⟩ = .ok (.nx, ⟨piE ts left found (.val (.lst (part.map pr))) (.own (.lst [])) s6', c⟩) := by
  obtain ⟨st', e, part, s6', rfl, hB⟩ := ex_while (Φ := callN F (d + 2)) (c := .op (.cmp .NotEq) [(.bor 5), (.op .lst [])]) (b := piIn kj)
    (fun (x : List (Int × Int) × List (Int × Int)) st => ∃ s6, st = ⟨piE ts left found (.val (.lst (x.1.map pr))) (.own (.lst (x.2.map pr))) s6, c⟩ ∧ Bf (nbT ts) (plc ts) a x.1 x.2) (fun x => 2 * (60 - x.1.length) + x.2.length)
    (fun st => ∃ part s6', st = ⟨piE ts left found (.val (.lst (part.map pr))) (.own (.lst [])) s6', c⟩ ∧ Bf (nbT ts) (plc ts) a part [])
    (a := ([a], [a])) (st := ⟨piE ts left found (.val (.lst ([a].map pr))) (.own (.lst ([a].map pr))) s6, c⟩) ⟨s6, rfl, Bf.start ha⟩ (by simp) fun ⟨part, line⟩ s ⟨s6, es, hB⟩ => by
      subst es
      dsimp only at hB ⊢
      have kN := neE_run (Φ := callN F (d + 2)) (i := 5) (st := ⟨piE ts left found (.val (.lst (part.map pr))) (.own (.lst (line.map pr))) s6, c⟩) (L := line) rfl
      cases hE : line.isEmpty with
      | true =>
        rw [hE] at kN
        have : line = [] := List.isEmpty_iff.mp hE
        subst this
        exact .inl ⟨_, kN, part, s6, rfl, hB⟩
      | false =>
        rw [hE] at kN
        obtain ⟨rest, x, rfl⟩ : ∃ rest x, line = rest ++ [x] := by
          have hne : line ≠ [] := fun h => by rw [h] at hE; cases hE
          exact ⟨line.dropLast, line.getLast hne, (List.dropLast_concat_getLast hne).symm⟩
        obtain ⟨hB2, hμ⟩ := bf_step hf hB (x := x) (rest := rest) (by simp) (fun y hy => by simpa [or_comm] using hy) (fun y hy => by simp [hy]) (List.nodup_append.mp hB.ln).1 (by simp)
        have hpl := bf_small hf hB
        have hpl2 := bf_small hf hB2
        have hxV : x ∈ plc ts := hB.inV x (hB.sub x (by simp))
        have hxk : x ∈ (kindsOf ts).map (·.1) := by rw [hf.keys]; exact hxV
        have kP : ev (callN F (d + 2)) (.pop 5) ⟨piE ts left found (.val (.lst (part.map pr))) (.own (.lst ((rest ++ [x]).map pr))) s6, c⟩ = .ok (pr x, ⟨piE ts left found (.val (.lst (part.map pr))) (.own (.lst (rest.map pr))) s6, c⟩) := by
          have := pop_ok (Φ := callN F (d + 2)) (cup := c) (env := piE ts left found (.val (.lst (part.map pr))) (.own (.lst ((rest ++ [x]).map pr))) s6) (i := 5) (xs := rest.map pr) (x := pr x) (by rw [List.map_append]; rfl)
          exact this
        have kJ : ev (callN F (d + 2)) (.call kj [(.var 1), (.pop 5)]) ⟨piE ts left found (.val (.lst (part.map pr))) (.own (.lst ((rest ++ [x]).map pr))) s6, c⟩ = .ok (.lst ((near (kindsOf ts) x).map pr), ⟨piE ts left found (.val (.lst (part.map pr))) (.own (.lst (rest.map pr))) s6, c⟩) := ca_2 (va_ok rfl) kP (joined_run (d := d) hj hst hf.kdok hxk)
        have kM : ev (callN F (d + 2)) (piMore kj) ⟨piE ts left found (.val (.lst (part.map pr))) (.own (.lst ((rest ++ [x]).map pr))) s6, c⟩ = .ok (.lst ((more (nbT ts) part x).map pr), ⟨piE ts left found (.val (.lst (part.map pr))) (.own (.lst (rest.map pr))) s6, c⟩) := by
          rw [more_eq]
          exact lc_nm (Φ := callN F (d + 2)) (j := 9) (c := .op (.cmp .NotIn) [(.bor 9), (.bor 4)]) (elt := .var 9) pr pr (fun y => decide (y ∉ part)) kJ rfl (by intro i hi q; simp at hi; subst hi; simp [piE]) (by have := near_len (l := kindsOf ts) (p := x); omega) fun y _ =>
            ⟨op_bb rfl rfl (by rw [o_cmp]; exact c_nin_prs y part), fun _ => va_ok rfl⟩
        have hml : (more (nbT ts) part x).length ≤ 4 := Nat.le_trans more_len near_len
        have hrl : rest.length ≤ 60 := by
          have := List.Nodup.length_le_of_subset hB.ln hB.sub
          rw [List.length_append] at this
          omega
        refine .inr ⟨(part ++ more (nbT ts) part x, rest ++ more (nbT ts) part x), _, ⟨piE ts left found (.val (.lst ((part ++ more (nbT ts) part x).map pr))) (.own (.lst ((rest ++ more (nbT ts) part x).map pr))) (.val (.lst ((more (nbT ts) part x).map pr))), c⟩, kN, ?_, ⟨_, rfl, hB2⟩, hμ⟩
        have kA : ev (callN F (d + 2)) (.op .add [(.bor 4), (.bor 6)]) ⟨piE ts left found (.val (.lst (part.map pr))) (.own (.lst (rest.map pr))) (.val (.lst ((more (nbT ts) part x).map pr))), c⟩ = .ok (.lst ((part ++ more (nbT ts) part x).map pr), ⟨piE ts left found (.val (.lst (part.map pr))) (.own (.lst (rest.map pr))) (.val (.lst ((more (nbT ts) part x).map pr))), c⟩) := by
          have hfit : fits ((part.map pr).length + ((more (nbT ts) part x).map pr).length) = true := fits_k (by rw [List.length_map, List.length_map]; omega)
          exact op_bb rfl rfl (by rw [o_add, add_lst, hfit, List.map_append]; rfl)
        have kB : ev (callN F (d + 2)) (.op .cat [(.bor 5), (.bor 6)]) ⟨piE ts left found (.val (.lst (part.map pr))) (.own (.lst (rest.map pr))) (.val (.lst ((more (nbT ts) part x).map pr))), c⟩ = .ok (.lst ((rest ++ more (nbT ts) part x).map pr), ⟨piE ts left found (.val (.lst (part.map pr))) (.own (.lst (rest.map pr))) (.val (.lst ((more (nbT ts) part x).map pr))), c⟩) := by
          have hcat : ∀ cu, opV cu .cat [.lst (rest.map pr), .lst ((more (nbT ts) part x).map pr)] = .ok (.lst ((rest ++ more (nbT ts) part x).map pr)) := fun cu => by
            show Res.of (fits ((rest.map pr).length + ((more (nbT ts) part x).map pr).length)) _ = _
            rw [fits_k (by rw [List.length_map, List.length_map]; omega), List.map_append]; rfl
          exact op_bb rfl rfl (hcat _)
        have kS : ex (callN F (d + 2)) (.asgs [(4, false), (5, true)] [(.op .add [(.bor 4), (.bor 6)]), (.op .cat [(.bor 5), (.bor 6)])]) ⟨piE ts left found (.val (.lst (part.map pr))) (.own (.lst (rest.map pr))) (.val (.lst ((more (nbT ts) part x).map pr))), c⟩ = .ok (.nx, ⟨piE ts left found (.val (.lst ((part ++ more (nbT ts) part x).map pr))) (.own (.lst ((rest ++ more (nbT ts) part x).map pr))) (.val (.lst ((more (nbT ts) part x).map pr))), c⟩) := by
          rw [r_asgs, r_evs, kA, rbind_ok, r_evs, kB, rbind_ok, r_evs0]; rfl
        exact (sq_nx (as_nm kM)).trans ((sq_nx kS).trans r_exs0)
  exact ⟨part, s6', hB.nd, bf_small hf hB, hB.fin, hB.inV, e⟩
end
end Py
end

section
set_option Elab.async false
set_option linter.all false
set_option autoImplicit false
set_option maxRecDepth 100000
/-! The parts, run to the end; the law's own. -/
namespace Py
open PySem (Str CmpOp)
section
variable {F : List Fn} {d : Nat} {cup c : Option (Int × Int)} {Φ : Calls} {ts : List (Int × Int × Int)} {left part : List (Int × Int)} {found : List (List (Int × Int))} {a : Int × Int} {l : List ((Int × Int) × Int)}
/-- a dict of some of the places -/
def subD (l : List ((Int × Int) × Int)) (part : List (Int × Int)) : List ((Int × Int) × Int) := part.map fun p => (p, kd0 l p)
theorem subD_keys : (subD l part).map (·.1) = part := by unfold subD; rw [List.map_map]; exact List.map_id _
theorem subD_kd (hp : ∀ p ∈ part, p ∈ l.map (·.1)) : ∀ p ∈ part, kd0 (subD l part) p = kd0 l p := fun p h => by
  obtain ⟨x, hx⟩ := aget_of_key (l := subD l part) (k := p) (by rw [subD_keys]; exact h)
  obtain ⟨q, hq, e⟩ := List.mem_map.mp (aget_mem hx)
  unfold kd0 at *
  rw [hx]
  simp only [Prod.mk.injEq] at e
  rw [← e.2, ← e.1]; rfl
theorem figF_sub (hp : ∀ p ∈ part, p ∈ l.map (·.1)) {P : List (Int × Int)} (hs : ∀ p ∈ P, p ∈ part) : figF (subD l part) P = figF l P := by
  unfold figF
  exact List.map_congr_left fun p h => by rw [subD_kd hp p (hs p h)]
theorem piDc_run {env : List Slot} (h1 : Has env 1 (DP l)) (h4 : Has env 4 (.lst (part.map pr))) (hl : 8 < env.length) (hc : cleanE env [8]) (hn : part.Nodup) (hlen : part.length ≤ 1000) (hp : ∀ p ∈ part, p ∈ l.map (·.1)) : ev Φ piDc ⟨env, c⟩ = .ok (DP (subD l part), ⟨env, c⟩) := by
  have key := dc_mp prK PV.int (Φ := Φ) (own := [8]) (p := .nm 8) (it := .var 4) (c := .lit (.bl true)) (k := .var 8) (v := .op .idx [(.bor 1), (.bor 8)]) (st := ⟨env, c⟩) (xs := part.map pr)
    (fun x => match x with | .tup [.int a, .int b] => ((a, b), kd0 l (a, b)) | _ => ((0, 0), 0)) (va_ok h4) rfl hc (by rw [List.length_map]; omega) fun x hx => by
      obtain ⟨p, hm, rfl⟩ := List.mem_map.mp hx
      have hw : (wipeE env [8]).set 8 (.val (pr p)) = env.set 8 (.val (pr p)) := by
        show (env.set 8 .unk).set 8 _ = _
        rw [List.set_set]
      have g8 : Has (env.set 8 (.val (pr p))) 8 (pr p) := Has.self hl
      have g1 : Has (env.set 8 (.val (pr p))) 1 (DP l) := h1.ne (by omega)
      refine ⟨env.set 8 (.val (pr p)), env.set 8 (.val (pr p)), env.set 8 (.val (pr p)), ?_, r_lit _, va_ok g8, op_bb g1.sl g8.sl (idx_kd (cu := c) (hp p hm)), wipe_set⟩
      rw [bindP_nm, hw]
  have e : (part.map pr).map (fun x => match x with | .tup [.int a, .int b] => ((a, b), kd0 l (a, b)) | _ => ((0, 0), 0)) = subD l part := by
    unfold subD
    rw [List.map_map]; rfl
  rw [e, aof_fresh (by rw [List.nil_append, subD_keys]; exact hn), List.nil_append] at key
  exact key
theorem figs_len (hO : Ou ts left found) : found.length ≤ (plc ts).length := by
  have h := congrArg List.length hO.all
  rw [List.length_append] at h
  have := parts_len (nb := near (kindsOf ts)) (plc ts)
  unfold partsP at h
  omega
theorem piOut_run {kj ks kf : Nat} (hj : FnIs F kj 2 5 (joinB ks)) (hst : FnIs F ks 2 2 stepB) (hfo : FnIs F kf 1 2 figOfB) (hf : Fig ts) {s4 s5 s6 : Slot} : ∃ s4' s5' s6', ex (callN F (d + 2)) (.while (.op (.cmp .NotEq) [(.bor 2), (.op .lst [])]) (piOut kj kf)) ⟨piE ts (plc ts) [] s4 s5 s6, c⟩ = .ok (.nx, ⟨piE ts [] (partsP ts) s4' s5' s6', c⟩) := by
  obtain ⟨st', e, s4', s5', s6', rfl⟩ := ex_while (Φ := callN F (d + 2)) (c := .op (.cmp .NotEq) [(.bor 2), (.op .lst [])]) (b := piOut kj kf)
    (fun (x : List (Int × Int) × List (List (Int × Int))) st => ∃ s4 s5 s6, st = ⟨piE ts x.1 x.2 s4 s5 s6, c⟩ ∧ Ou ts x.1 x.2) (fun x => x.1.length)
    (fun st => ∃ s4 s5 s6, st = ⟨piE ts [] (partsP ts) s4 s5 s6, c⟩)
    (a := (plc ts, [])) (st := ⟨piE ts (plc ts) [] s4 s5 s6, c⟩) ⟨s4, s5, s6, rfl, Ou.start hf⟩ (by have := plc_len hf; show (plc ts).length < _; omega) fun ⟨left, found⟩ s ⟨s4, s5, s6, es, hO⟩ => by
      subst es
      dsimp only at hO ⊢
      have kN := neE_run (Φ := callN F (d + 2)) (i := 2) (st := ⟨piE ts left found s4 s5 s6, c⟩) (L := left) rfl
      cases left with
      | nil => exact .inl ⟨_, kN, s4, s5, s6, by rw [hO.fin]⟩
      | cons a l' =>
        have kH : ∀ {st : St}, slotV st.env 2 = .ok (.lst ((a :: l').map pr)) → ev (callN F (d + 2)) (.op .lst [.op .idx [(.bor 2), (.lit (.int 0))]]) st = .ok (.lst [pr a], st) := fun h => op1 rfl (op_be rfl h (r_lit _) h (by rw [o_idx]; exact idx_hd _ _)) rfl
        have kS : ex (callN F (d + 2)) (.asgs [(4, false), (5, true)] [(.op .lst [(.op .idx [(.bor 2), (.lit (.int 0))])]), (.op .lst [(.op .idx [(.bor 2), (.lit (.int 0))])])]) ⟨piE ts (a :: l') found s4 s5 s6, c⟩ = .ok (.nx, ⟨piE ts (a :: l') found (.val (.lst ([a].map pr))) (.own (.lst ([a].map pr))) s6, c⟩) := by
          rw [r_asgs, r_evs, kH rfl, rbind_ok, r_evs, kH rfl, rbind_ok, r_evs0]; rfl
        obtain ⟨part, s6', h1, h2, h3, h4, e1⟩ := piIn_run (d := d) (c := c) (left := a :: l') (found := found) hj hst hf (hO.sub.subset List.mem_cons_self) (s6 := s6)
        obtain ⟨f1, f2, f3⟩ := Ou.step hf hO h3 h1
        have hfl := figs_len hO
        have hpl := plc_len hf
        have hll : (a :: l').length ≤ 60 := Nat.le_trans hO.sub.length_le hpl
        have kL : ev (callN F (d + 2)) (.lc [8] (.nm 8) (.var 2) (.op (.cmp .NotIn) [(.bor 8), (.bor 4)]) (.var 8)) ⟨piE ts (a :: l') found (.val (.lst (part.map pr))) (.own (.lst [])) s6', c⟩ = .ok (.lst ((l'.filter fun p => !rchB (nbT ts) a p).map pr), ⟨piE ts (a :: l') found (.val (.lst (part.map pr))) (.own (.lst [])) s6', c⟩) := by
          rw [← f1]
          exact lc_nm (Φ := callN F (d + 2)) (j := 8) (c := .op (.cmp .NotIn) [(.bor 8), (.bor 4)]) (elt := .var 8) pr pr (fun y => decide (y ∉ part)) (va_ok rfl) rfl (by intro i hi q; simp at hi; subst hi; simp [piE]) (by omega) fun y _ => ⟨op_bb rfl rfl (by rw [o_cmp]; exact c_nin_prs y part), fun _ => va_ok rfl⟩
        generalize hl2 : (l'.filter fun p => !rchB (nbT ts) a p) = left2 at *
        have hpk : ∀ p ∈ part, p ∈ (kindsOf ts).map (·.1) := fun p hp => by rw [hf.keys]; exact h4 p hp
        have kD := piDc_run (Φ := callN F (d + 2)) (c := c) (l := kindsOf ts) (part := part) (env := piE ts left2 found (.val (.lst (part.map pr))) (.own (.lst [])) s6') rfl rfl (by simp [piE]) (by intro i hi q; simp at hi; subst hi; simp [piE]) h1 (by omega) hpk
        have kF := fig_of_run (d := d + 1) (cup := c) hfo (l := subD (kindsOf ts) part) (by unfold subD; rw [List.length_map]; omega)
        rw [subD_keys, figF_sub hpk (fun p hp => (srtP_perm _).mem_iff.mp hp), f2] at kF
        have kA := r_appL (Φ := callN F (d + 2)) (i := 3) (e := .call kf [piDc]) (st := ⟨piE ts left2 found (.val (.lst (part.map pr))) (.own (.lst [])) s6', c⟩) (ys := found.map fun P => TSq (figF (kindsOf ts) P)) (xs := found.map fun P => TSq (figF (kindsOf ts) P)) rfl (ca_1 kD kF) rfl (fitsL_k (by rw [List.length_map]; omega))
        refine .inr ⟨(left2, found ++ [a :: l'.filter (rchB (nbT ts) a)]), _, ⟨piE ts left2 (found ++ [a :: l'.filter (rchB (nbT ts) a)]) (.val (.lst (part.map pr))) (.own (.lst [])) s6', c⟩, kN, ?_, ⟨_, _, _, rfl, f3⟩, ?_⟩
        · refine (sq_nx kS).trans ((sq_nx e1).trans ((sq_nx (as_nm kL)).trans ((sq_nx kA).trans ?_)))
          rw [r_exs0]
          unfold piE
          rw [List.map_append]
          rfl
        · show left2.length < (a :: l').length
          rw [← hl2, List.length_cons]
          have := List.length_filter_le (fun p => !rchB (nbT ts) a p) l'
          omega
  exact ⟨s4', s5', s6', e⟩
theorem parts_in_run {k kk kj ks kf : Nat} (h : FnIs F k 1 10 (piB kk kj kf)) (hkk : FnIs F kk 1 2 kindsB) (hj : FnIs F kj 2 5 (joinB ks)) (hst : FnIs F ks 2 2 stepB) (hfo : FnIs F kf 1 2 figOfB) (hf : Fig ts) : callN F (d + 3) k [TSq ts] cup = .ok (.lst ((partsT ts).map TSq), cup) := by
  obtain ⟨f, hk, hn, hss, hb⟩ := h
  have e0 : startE f [TSq ts] = [.val (TSq ts), .unk, .unk, .unk, .unk, .unk, .unk, .unk, .unk, .unk] := by simp [startE, hss]
  have hlen := hf.len
  obtain ⟨s4, s5, s6, e⟩ := piOut_run (d := d) (c := cup) hj hst hfo hf (s4 := .unk) (s5 := .unk) (s6 := .unk)
  have k1 : ev (callN F (d + 2)) (.call kk [(.var 0)]) ⟨[.val (TSq ts), .unk, .unk, .unk, .unk, .unk, .unk, .unk, .unk, .unk], cup⟩ = .ok (DP (kindsOf ts), ⟨[.val (TSq ts), .unk, .unk, .unk, .unk, .unk, .unk, .unk, .unk, .unk], cup⟩) := ca_1 (va_ok rfl) (kinds_run (d := d + 1) hkk (by omega))
  have k2 := places_lc (Φ := callN F (d + 2)) (cup := cup) (env := [.val (TSq ts), .unk, .unk, .unk, .unk, .unk, .unk, .unk, .unk, .unk]) (i := 0) (j := 7) (ts := ts) rfl (by simp) (by intro i hi q; simp at hi; subst hi; simp) (by omega)
  have kS : ex (callN F (d + 2)) (.asgs [(1, false), (2, false), (3, true)] [(.call kk [(.var 0)]), (.lc [7] (.nm 7) (.var 0) (.lit (.bl true)) (.op (.slc false true) [(.bor 7), (.lit (.int 2))])), (.op .lst [])]) ⟨[.val (TSq ts), .unk, .unk, .unk, .unk, .unk, .unk, .unk, .unk, .unk], cup⟩ = .ok (.nx, ⟨piE ts (plc ts) [] .unk .unk .unk, cup⟩) := by
    rw [r_asgs, r_evs, k1, rbind_ok, r_evs, k2, rbind_ok, r_evs, op0l, rbind_ok, r_evs0]; rfl
  have hv : (partsP ts).map (fun P => TSq (figF (kindsOf ts) P)) = (partsT ts).map TSq := by unfold partsT; rw [List.map_map]; rfl
  refine fn_rt (st1 := ⟨[.val (TSq ts), .val (DP (kindsOf ts)), .val (.lst []), .val (.lst ((partsT ts).map TSq)), s4, s5, s6, .unk, .unk, .unk], cup⟩) hk (by rw [hn]; rfl) ?_
  rw [hb, e0, ← hv]
  exact (sq_nx kS).trans ((sq_nx e).trans (sq_rt (rt_ok (va_own rfl))))
/-! ### the law's own -/
def lnC (kd : Nat) : E := (.and (.op (.cmp .In) [(.bor 4), (.bor 0)]) (.op (.cmp .In) [turnS, (.call kd [(.op .idx [(.bor 0), (.bor 4)])])]))
def lnT (kd kb : Nat) : List S := [(.asg (.nm 4) (.call kb [(.var 1), (.var 3)])), (.asg (.nm 2) (.op .add [(.bor 2), (.ite (lnC kd) (.op .lst [(.var 4)]) (.op .lst []))]))]
def lnB (kd kb : Nat) : List S := [(.asg (.nm 2) (.op .lst [])), (.for (.nm 3) (.call kd [(.op .idx [(.bor 0), (.bor 1)])]) (lnT kd kb)), (.ret (.var 2))]
theorem lnear_run {k kd kb : Nat} (h : FnIs F k 2 5 (lnB kd kb)) (Sd : SidesOk F kd) (B : BeyOk F kb) (hl : KdOk l) {p : Int × Int} (hp : p ∈ l.map (·.1)) : callN F (d + 2) k [DP l, pr p] cup = .ok (.lst ((near l p).map pr), cup) := by
  obtain ⟨f, hk, hn, hss, hb⟩ := h
  have e0 : startE f [DP l, pr p] = [.val (DP l), .val (pr p), .unk, .unk, .unk] := by simp [startE, hss]
  have hkr := hl.rng hp
  have k0 : ∀ (x : List PV) (s3 s4 : Slot), ev (callN F (d + 1)) (.call kd [(.op .idx [(.bor 0), (.bor 1)])]) ⟨[.val (DP l), .val (pr p), .val (.lst x), s3, s4], cup⟩ = .ok (.lst ((sidesOf (kd0 l p)).map .int), ⟨[.val (DP l), .val (pr p), .val (.lst x), s3, s4], cup⟩) := fun x s3 s4 => ca_1 (op_bb rfl rfl (by rw [o_idx]; exact idx_kd hp)) (sides_run Sd d cup hkr)
  obtain ⟨st', loop, s3, s4, rfl⟩ := for_fold (turn := forTurn (callN F (d + 1)) (.nm 3) (lnT kd kb)) PV.int (fun (a : List (Int × Int)) st => ∃ s3 s4, st = ⟨[.val (DP l), .val (pr p), .val (.lst (a.map pr)), s3, s4], cup⟩) (nearF l p) (xs := sidesOf (kd0 l p)) (a := [])
    (st := ⟨[.val (DP l), .val (pr p), .val (.lst []), .unk, .unk], cup⟩) ⟨.unk, .unk, rfl⟩ fun us s ws eu st ⟨s3, s4, es⟩ => by
      subst es
      have hsm : s ∈ sidesOf (kd0 l p) := by rw [eu]; simp
      have hs := sides_any hsm
      have hal : (us.foldl (nearF l p) []).length ≤ 4 := by
        rw [nearF_all, List.nil_append, List.length_map]
        have a := List.length_filter_le (adj l p) us
        have b := sidesOf_len hkr
        rw [eu, List.length_append] at b
        omega
      generalize us.foldl (nearF l p) [] = a at *
      rw [ft_nm]
      show ∃ s', exs (callN F (d + 1)) (lnT kd kb) ⟨[.val (DP l), .val (pr p), .val (.lst (a.map pr)), .val (.int s), s4], cup⟩ = _ ∧ _
      have kA : ev (callN F (d + 1)) (.call kb [(.var 1), (.var 3)]) ⟨[.val (DP l), .val (pr p), .val (.lst (a.map pr)), .val (.int s), s4], cup⟩ = .ok (pr (bey p s), ⟨[.val (DP l), .val (pr p), .val (.lst (a.map pr)), .val (.int s), s4], cup⟩) := ca_2 (va_ok rfl) (va_ok rfl) (bey_run B d cup p hs)
      let E1 : List Slot := [.val (DP l), .val (pr p), .val (.lst (a.map pr)), .val (.int s), .val (pr (bey p s))]
      have kI : ev (callN F (d + 1)) (.op (.cmp .In) [(.bor 4), (.bor 0)]) ⟨E1, cup⟩ = .ok (.bl (ahas l (bey p s)), ⟨E1, cup⟩) := op_bb rfl rfl (c_in_D prK PV.int l (bey p s))
      have kC : ev (callN F (d + 1)) (lnC kd) ⟨E1, cup⟩ = .ok (.bl (adj l p s), ⟨E1, cup⟩) := by
        cases hh : ahas l (bey p s) with
        | false => rw [hh] at kI; rw [adj_no hh]; exact an_f kI
        | true =>
          rw [hh] at kI
          refine an_t kI ?_
          obtain ⟨ea, hin⟩ := adj_ahas hl hh
          have kT : ev (callN F (d + 1)) turnS ⟨E1, cup⟩ = .ok (.int ((s + 2) % 4), ⟨E1, cup⟩) := op2 rfl rfl (op_be rfl rfl (r_lit _) rfl rfl) (r_lit _) (by rw [o_mod]; rfl)
          have kD : ev (callN F (d + 1)) (.call kd [(.op .idx [(.bor 0), (.bor 4)])]) ⟨E1, cup⟩ = .ok (.lst ((sidesOf (kd0 l (bey p s))).map .int), ⟨E1, cup⟩) := ca_1 (op_bb rfl rfl (by rw [o_idx]; exact idx_kd hin)) (sides_run Sd d cup (hl.rng hin))
          rw [ea]
          exact op2 rfl rfl kT kD (by rw [o_cmp]; exact (c_in_ints _ _).2)
      have kE : ev (callN F (d + 1)) (.ite (lnC kd) (.op .lst [(.var 4)]) (.op .lst [])) ⟨E1, cup⟩ = .ok (.lst ((if adj l p s = true then [bey p s] else []).map pr), ⟨E1, cup⟩) := by
        cases ha : adj l p s with
        | false => rw [ha] at kC; exact ie_f kC op0l
        | true => rw [ha] at kC; exact ie_t kC (op1 rfl (va_ok rfl) rfl)
      have hol : ((if adj l p s = true then [bey p s] else []) : List (Int × Int)).length ≤ 1 := by split <;> simp
      have kF : ev (callN F (d + 1)) (.op .add [(.bor 2), (.ite (lnC kd) (.op .lst [(.var 4)]) (.op .lst []))]) ⟨E1, cup⟩ = .ok (.lst ((nearF l p a s).map pr), ⟨E1, cup⟩) := op_be rfl rfl kE rfl (by
        rw [o_add, add_lst, fits_k (by rw [List.length_map, List.length_map]; omega)]
        unfold nearF
        rw [List.map_append]; rfl)
      exact ⟨_, (sq_nx (as_nm kA)).trans ((sq_nx (as_nm kF)).trans r_exs0), .val (.int s), .val (pr (bey p s)), rfl⟩
  rw [nearF_all, List.nil_append] at loop
  refine fn_rt (st1 := ⟨[.val (DP l), .val (pr p), .val (.lst (((sidesOf (kd0 l p)).filter (adj l p)).map (bey p) |>.map pr)), s3, s4], cup⟩) hk (by rw [hn]; rfl) ?_
  rw [hb, e0]
  exact (sq_nx (as_nm op0l)).trans ((sq_nx (fr_ok (k0 [] .unk .unk) rfl loop)).trans (sq_rt (rt_ok (va_ok rfl))))
end
end Py
end

section
set_option Elab.async false
set_option linter.all false
set_option autoImplicit false
set_option maxRecDepth 100000
/-! The laws' own parts, run. -/
namespace Py
open PySem (Str CmpOp)
theorem cut_tl {α : Type} (x : α) (xs : List α) : cut (x :: xs) (some 1) none = xs := by
  show ((x :: xs).drop (if ((1 : Int) < 0) then ((1 : Int) + ((x :: xs).length : Int)).toNat else min (1 : Int).toNat (x :: xs).length)).take ((x :: xs).length - (if ((1 : Int) < 0) then ((1 : Int) + ((x :: xs).length : Int)).toNat else min (1 : Int).toNat (x :: xs).length)) = xs
  have e : (if ((1 : Int) < 0) then ((1 : Int) + ((x :: xs).length : Int)).toNat else min (1 : Int).toNat (x :: xs).length) = 1 := by
    rw [if_neg (by omega), List.length_cons]
    show min 1 _ = 1
    omega
  rw [e]
  show xs.take ((x :: xs).length - 1) = xs
  rw [List.length_cons, Nat.add_sub_cancel, List.take_length]
/-! ### lists of figures, in order -/
theorem sq_lt {t u : Int × Int × Int} (h : ltP (t.1, t.2.1) (u.1, u.2.1) = true) : (sq u).eqv (sq t) = false ∧ (sq u).lt (sq t) = false := by
  rw [ltP_iff] at h
  obtain ⟨a, b, k⟩ := t
  obtain ⟨a', b', k'⟩ := u
  simp only at h
  constructor
  · simp [sq, PV.eqv, PV.eqvs]
    omega
  · by_cases h1 : a' = a
    · subst h1
      have h2 : ¬ b' = b := by omega
      simp [sq, PV.lt, PV.lts, PV.eqv, h2]
      omega
    · simp [sq, PV.lt, PV.lts, PV.eqv, h1]
      omega
theorem sqs_alike : ∀ ts us : List (Int × Int × Int), PV.alikes (ts.map sq) (us.map sq) = true
  | [], _ => by simp [PV.alikes]
  | _ :: _, [] => by simp [PV.alikes]
  | t :: ts, u :: us => by
    rw [List.map_cons, List.map_cons, PV.alikes, sqs_alike ts us, Bool.and_true]
    simp [sq, PV.alike, PV.alikes]
theorem sqs_plain : ∀ ts : List (Int × Int × Int), PV.plains (ts.map sq) = true ∧ PV.depths (ts.map sq) ≤ 1
  | [] => by simp [PV.plains, PV.depths]
  | t :: ts => by
    obtain ⟨h1, h2⟩ := sqs_plain ts
    rw [List.map_cons, PV.plains, PV.depths, h1]
    have : (sq t).depth = 1 := by simp [sq, PV.depth, PV.depths]
    exact ⟨by simp [sq, PV.plain, PV.plains], by omega⟩
theorem tsq_plain (ts : List (Int × Int × Int)) : (TSq ts).plain = true ∧ (TSq ts).depth ≤ 2 := by
  obtain ⟨h1, h2⟩ := sqs_plain ts
  exact ⟨h1, by show PV.depths (ts.map sq) + 1 ≤ 2; omega⟩
theorem b_sorted_figs {L : List (List (Int × Int × Int))} (hne : ∀ ts ∈ L, ts ≠ []) (hs : L.Pairwise fun ts us => ∃ t ts' u us', ts = t :: ts' ∧ us = u :: us' ∧ ltP (t.1, t.2.1) (u.1, u.2.1) = true) : bifV .sorted [.lst (L.map TSq)] = .ok (.lst (L.map TSq)) := by
  show Res.of (sortable (L.map TSq)) (Res.ok (PV.lst (sortV (L.map TSq)))) = _
  have h1 : sortable (L.map TSq) = true := by
    unfold sortable
    rw [Bool.and_eq_true]
    constructor
    · unfold allAlike
      rw [List.all_eq_true]
      intro x hx
      obtain ⟨ts, _, rfl⟩ := List.mem_map.mp hx
      rw [Bool.and_eq_true, List.all_eq_true]
      obtain ⟨g1, g2⟩ := tsq_plain ts
      refine ⟨?_, fun y hy => ?_⟩
      · unfold PV.fine
        rw [g1, Bool.true_and]
        exact decide_eq_true (by omega)
      · obtain ⟨us, _, rfl⟩ := List.mem_map.mp hy
        show PV.alike (.tup _) (.tup _) = true
        rw [PV.alike]
        exact sqs_alike ts us
    · rw [Bool.or_eq_true]
      refine .inl ?_
      rw [List.all_eq_true]
      intro x hx
      obtain ⟨ts, hm, rfl⟩ := List.mem_map.mp hx
      have := hne ts hm
      cases ts with
      | nil => exact absurd rfl this
      | cons t ts => rfl
  have h2 : sortV (L.map TSq) = L.map TSq := by
    refine List.mergeSort_of_pairwise ?_
    rw [List.pairwise_map]
    refine hs.imp fun {a b} ⟨t, ts', u, us', e1, e2, h⟩ => ?_
    subst e1 e2
    obtain ⟨q1, q2⟩ := sq_lt h
    show (!(PV.lts (sq u :: us'.map sq) (sq t :: ts'.map sq))) = true
    rw [PV.lts, q1, if_neg Bool.false_ne_true, q2]; rfl
  rw [h1, h2]; rfl
theorem partsT_ne {ts : List (Int × Int × Int)} : ∀ us ∈ partsT ts, us ≠ [] := fun us h => by
  obtain ⟨P, hP, rfl⟩ := List.mem_map.mp h
  have := parts_ne _ P hP
  cases P with
  | nil => exact absurd rfl this
  | cons p P => exact fun h => nomatch h
theorem partsT_asc {ts : List (Int × Int × Int)} (hf : Fig ts) : (partsT ts).Pairwise fun ts us => ∃ t ts' u us', ts = t :: ts' ∧ us = u :: us' ∧ ltP (t.1, t.2.1) (u.1, u.2.1) = true := by
  unfold partsT
  rw [List.pairwise_map]
  refine (parts_asc (nb := near (kindsOf ts)) (plc ts) (riseB_iff.mp hf.rise)).imp fun {P Q} ⟨a, as, b, bs, e1, e2, h⟩ => ?_
  subst e1 e2
  exact ⟨_, _, _, _, rfl, rfl, h⟩
section
variable {F : List Fn} {d : Nat} {cup c : Option (Int × Int)} {Φ : Calls} {ts : List (Int × Int × Int)} {left part : List (Int × Int)} {found : List (List (Int × Int))} {a : Int × Int} {l : List ((Int × Int) × Int)}
/-- dict([(square[:2], square[2]) for square in figure]) -/
def dkE (i j : Nat) : E := (.op (.bif .dict) [(.lc [j] (.nm j) (.var i) (.lit (.bl true)) (.op .tup [(.op (.slc false true) [(.bor j), (.lit (.int 2))]), (.op .idx [(.bor j), (.lit (.int 2))])]))])
theorem dkE_run {env : List Slot} {i j : Nat} (h0 : Has env i (TSq ts)) (hj : j < env.length) (hc : cleanE env [j]) (hl : ts.length ≤ 1000) : ev Φ (dkE i j) ⟨env, c⟩ = .ok (DP (kindsOf ts), ⟨env, c⟩) := by
  have e := lc_all (Φ := Φ) (j := j) (elt := (.op .tup [(.op (.slc false true) [(.bor j), (.lit (.int 2))]), (.op .idx [(.bor j), (.lit (.int 2))])])) (cup := c) sq (fun t => .tup [pr (t.1, t.2.1), .int t.2.2]) (va_ok h0) rfl hc (by omega) fun t _ => by
    have s1 : slotV (env.set j (.val (sq t))) j = .ok (sq t) := sl_self hj
    exact op2 rfl rfl (op_be rfl s1 (r_lit _) s1 (cut2 t)) (op_be rfl s1 (r_lit _) s1 (y := .int 2) (z := .int t.2.2) rfl) rfl
  have hd := b_dict_l prK PV.int (ts.map kd)
  rw [List.map_map] at hd
  exact op1 rfl e hd
def lpIn (kn : Nat) : List S := [(.asg (.nm 6) (.lc [9] (.nm 9) (.call kn [(.var 2), (.op .idx [(.bor 5), (.lit (.int 0))])]) (.op (.cmp .NotIn) [(.bor 9), (.bor 4)]) (.var 9))),
  (.asg (.tup [(.nm 4), (.nm 5)]) (.op .tup [(.op .add [(.bor 4), (.bor 6)]), (.op .add [(.op (.slc true false) [(.bor 5), (.lit (.int 1))]), (.bor 6)])]))]
def lpSq : E := (.lc [7] (.nm 7) (.op (.bif .sorted) [(.bor 4)]) (.lit (.bl true)) (.op .add [(.bor 7), (.op .tup [(.op .idx [(.bor 2), (.bor 7)])])]))
def lpOut (kn : Nat) : List S := [(.asg (.tup [(.nm 4), (.nm 5)]) (.op .tup [(.op .lst [(.op .idx [(.bor 1), (.lit (.int 0))])]), (.op .lst [(.op .idx [(.bor 1), (.lit (.int 0))])])])),
  (.while (.op (.cmp .NotEq) [(.bor 5), (.op .lst [])]) (lpIn kn)),
  (.asg (.nm 1) (.lc [7] (.nm 7) (.var 1) (.op (.cmp .NotIn) [(.bor 7), (.bor 4)]) (.var 7))),
  (.app 3 (.op (.bif .tuple) [lpSq]))]
def lpB (kn : Nat) : List S := [(.asgs [(2, false), (3, true)] [dkE 0 8, (.op .lst [])]), (.asg (.nm 1) (.op (.bif .sorted) [(.bor 2)])), (.while (.op (.cmp .NotEq) [(.bor 1), (.op .lst [])]) (lpOut kn)), (.ret (.op (.bif .sorted) [(.bor 3)]))]
def lpE (ts : List (Int × Int × Int)) (left : List (Int × Int)) (found : List (List (Int × Int))) (s4 s5 s6 : Slot) : List Slot := [.val (TSq ts), .val (.lst (left.map pr)), .val (DP (kindsOf ts)), .own (.lst (found.map fun P => TSq (figF (kindsOf ts) P))), s4, s5, s6, .unk, .unk, .unk]
theorem lpIn_run {kn kd kb : Nat} (hnr : FnIs F kn 2 5 (lnB kd kb)) (Sd : SidesOk F kd) (B : BeyOk F kb) (hf : Fig ts) (ha : a ∈ plc ts) {s6 : Slot} {found : List (List (Int × Int))} : ∃ (part : List (Int × Int)) (s6' : Slot), part.Nodup ∧ part.length ≤ 60 ∧ (∀ y, y ∈ part ↔ Rch (nbT ts) a y) ∧ (∀ y ∈ part, y ∈ plc ts) ∧
    ex (callN F (d + 2)) (.while (.op (.cmp .NotEq) [(.bor 5), (.op .lst [])]) (lpIn kn)) ⟨lpE ts left found (.val (.lst ([a].map pr))) (.val (.lst ([a].map pr))) s6, c⟩ = .ok (.nx, ⟨lpE ts left found (.val (.lst (part.map pr))) (.val (.lst [])) s6', c⟩) := by
  obtain ⟨st', e, part, s6', rfl, hB⟩ := ex_while (Φ := callN F (d + 2)) (c := .op (.cmp .NotEq) [(.bor 5), (.op .lst [])]) (b := lpIn kn)
    (fun (x : List (Int × Int) × List (Int × Int)) st => ∃ s6, st = ⟨lpE ts left found (.val (.lst (x.1.map pr))) (.val (.lst (x.2.map pr))) s6, c⟩ ∧ Bf (nbT ts) (plc ts) a x.1 x.2) (fun x => 2 * (60 - x.1.length) + x.2.length)
    (fun st => ∃ (part : List (Int × Int)) (s6' : Slot), st = ⟨lpE ts left found (.val (.lst (part.map pr))) (.val (.lst [])) s6', c⟩ ∧ Bf (nbT ts) (plc ts) a part [])
    (a := ([a], [a])) (st := ⟨lpE ts left found (.val (.lst ([a].map pr))) (.val (.lst ([a].map pr))) s6, c⟩) ⟨s6, rfl, Bf.start ha⟩ (by simp) fun ⟨part, line⟩ s ⟨s6, es, hB⟩ => by
      subst es
      dsimp only at hB ⊢
      have kN := neE_run (Φ := callN F (d + 2)) (i := 5) (st := ⟨lpE ts left found (.val (.lst (part.map pr))) (.val (.lst (line.map pr))) s6, c⟩) (L := line) rfl
      cases line with
      | nil => exact .inl ⟨_, kN, part, s6, rfl, hB⟩
      | cons x rest =>
        obtain ⟨hB2, hμ⟩ := bf_step hf hB (x := x) (rest := rest) (by simp) (fun y hy => by simpa using hy) (fun y hy => by simp [hy]) (List.nodup_cons.mp hB.ln).2 (by simp)
        have hpl := bf_small hf hB
        have hpl2 := bf_small hf hB2
        have hxV : x ∈ plc ts := hB.inV x (hB.sub x (by simp))
        have hxk : x ∈ (kindsOf ts).map (·.1) := by rw [hf.keys]; exact hxV
        have kJ : ev (callN F (d + 2)) (.call kn [(.var 2), (.op .idx [(.bor 5), (.lit (.int 0))])]) ⟨lpE ts left found (.val (.lst (part.map pr))) (.val (.lst ((x :: rest).map pr))) s6, c⟩ = .ok (.lst ((near (kindsOf ts) x).map pr), ⟨lpE ts left found (.val (.lst (part.map pr))) (.val (.lst ((x :: rest).map pr))) s6, c⟩) := ca_2 (va_ok rfl) (op_be rfl rfl (r_lit _) rfl (by rw [o_idx]; exact idx_hd _ _)) (lnear_run (d := d) hnr Sd B hf.kdok hxk)
        have kM : ev (callN F (d + 2)) (.lc [9] (.nm 9) (.call kn [(.var 2), (.op .idx [(.bor 5), (.lit (.int 0))])]) (.op (.cmp .NotIn) [(.bor 9), (.bor 4)]) (.var 9)) ⟨lpE ts left found (.val (.lst (part.map pr))) (.val (.lst ((x :: rest).map pr))) s6, c⟩ = .ok (.lst ((more (nbT ts) part x).map pr), ⟨lpE ts left found (.val (.lst (part.map pr))) (.val (.lst ((x :: rest).map pr))) s6, c⟩) := by
          rw [more_eq]
          exact lc_nm (Φ := callN F (d + 2)) (j := 9) (c := .op (.cmp .NotIn) [(.bor 9), (.bor 4)]) (elt := .var 9) pr pr (fun y => decide (y ∉ part)) kJ rfl (by intro i hi q; simp at hi; subst hi; simp [lpE]) (by have := near_len (l := kindsOf ts) (p := x); omega) fun y _ =>
            ⟨op_bb rfl rfl (by rw [o_cmp]; exact c_nin_prs y part), fun _ => va_ok rfl⟩
        have hml : (more (nbT ts) part x).length ≤ 4 := Nat.le_trans more_len near_len
        have hrl : (x :: rest).length ≤ 60 := Nat.le_trans (List.Nodup.length_le_of_subset hB.ln hB.sub) hpl
        rw [List.length_cons] at hrl
        refine .inr ⟨(part ++ more (nbT ts) part x, rest ++ more (nbT ts) part x), _, ⟨lpE ts left found (.val (.lst ((part ++ more (nbT ts) part x).map pr))) (.val (.lst ((rest ++ more (nbT ts) part x).map pr))) (.val (.lst ((more (nbT ts) part x).map pr))), c⟩, kN, ?_, ⟨_, rfl, hB2⟩, hμ⟩
        have kA : ev (callN F (d + 2)) (.op .add [(.bor 4), (.bor 6)]) ⟨lpE ts left found (.val (.lst (part.map pr))) (.val (.lst ((x :: rest).map pr))) (.val (.lst ((more (nbT ts) part x).map pr))), c⟩ = .ok (.lst ((part ++ more (nbT ts) part x).map pr), ⟨lpE ts left found (.val (.lst (part.map pr))) (.val (.lst ((x :: rest).map pr))) (.val (.lst ((more (nbT ts) part x).map pr))), c⟩) :=
          op_bb rfl rfl (by rw [o_add, add_lst, fits_k (by rw [List.length_map, List.length_map]; omega), List.map_append]; rfl)
        have kT : ev (callN F (d + 2)) (.op (.slc true false) [(.bor 5), (.lit (.int 1))]) ⟨lpE ts left found (.val (.lst (part.map pr))) (.val (.lst ((x :: rest).map pr))) (.val (.lst ((more (nbT ts) part x).map pr))), c⟩ = .ok (.lst (rest.map pr), ⟨lpE ts left found (.val (.lst (part.map pr))) (.val (.lst ((x :: rest).map pr))) (.val (.lst ((more (nbT ts) part x).map pr))), c⟩) :=
          op_be rfl rfl (r_lit _) rfl (by rw [o_slc_tf, slc_lst, List.map_cons, cut_tl])
        have kB : ev (callN F (d + 2)) (.op .add [(.op (.slc true false) [(.bor 5), (.lit (.int 1))]), (.bor 6)]) ⟨lpE ts left found (.val (.lst (part.map pr))) (.val (.lst ((x :: rest).map pr))) (.val (.lst ((more (nbT ts) part x).map pr))), c⟩ = .ok (.lst ((rest ++ more (nbT ts) part x).map pr), ⟨lpE ts left found (.val (.lst (part.map pr))) (.val (.lst ((x :: rest).map pr))) (.val (.lst ((more (nbT ts) part x).map pr))), c⟩) :=
          op_eb rfl kT rfl (by rw [o_add, add_lst, fits_k (by rw [List.length_map, List.length_map]; omega), List.map_append]; rfl)
        exact (sq_nx (as_nm kM)).trans ((sq_nx (as_p (op2 rfl rfl kA kB rfl) rfl)).trans r_exs0)
  exact ⟨part, s6', hB.nd, bf_small hf hB, hB.fin, hB.inV, e⟩
theorem lpSq_run {env : List Slot} (h2 : Has env 2 (DP l)) (h4 : Has env 4 (.lst (part.map pr))) (hj : 7 < env.length) (hc : cleanE env [7]) (hlen : part.length ≤ 1000) (hp : ∀ p ∈ part, p ∈ l.map (·.1)) : ev Φ lpSq ⟨env, c⟩ = .ok (.lst ((figF l (srtP part)).map sq), ⟨env, c⟩) := by
  have hsort : ev Φ (.op (.bif .sorted) [(.bor 4)]) ⟨env, c⟩ = .ok (.lst ((srtP part).map pr), ⟨env, c⟩) := op_b h4.sl (b_sorted_l part)
  have e := lc_all (Φ := Φ) (j := 7) (elt := (.op .add [(.bor 7), (.op .tup [(.op .idx [(.bor 2), (.bor 7)])])])) pr (fun p => sq (p.1, p.2, kd0 l p)) hsort rfl hc (by rw [(srtP_perm _).length_eq]; omega) fun p hm => by
    have hk := hp p ((srtP_perm _).mem_iff.mp hm)
    have g7 : Has (env.set 7 (.val (pr p))) 7 (pr p) := Has.self hj
    have g2 : Has (env.set 7 (.val (pr p))) 2 (DP l) := h2.ne (by omega)
    exact op_be rfl g7.sl (op1 rfl (op_bb g2.sl g7.sl (by rw [o_idx]; exact idx_kd hk)) rfl) g7.sl rfl
  unfold figF
  rw [List.map_map]
  exact e
theorem lpOut_run {kn kd kb : Nat} (hnr : FnIs F kn 2 5 (lnB kd kb)) (Sd : SidesOk F kd) (B : BeyOk F kb) (hf : Fig ts) {s4 s5 s6 : Slot} : ∃ s4' s5' s6', ex (callN F (d + 2)) (.while (.op (.cmp .NotEq) [(.bor 1), (.op .lst [])]) (lpOut kn)) ⟨lpE ts (plc ts) [] s4 s5 s6, c⟩ = .ok (.nx, ⟨lpE ts [] (partsP ts) s4' s5' s6', c⟩) := by
  obtain ⟨st', e, s4', s5', s6', rfl⟩ := ex_while (Φ := callN F (d + 2)) (c := .op (.cmp .NotEq) [(.bor 1), (.op .lst [])]) (b := lpOut kn)
    (fun (x : List (Int × Int) × List (List (Int × Int))) st => ∃ s4 s5 s6, st = ⟨lpE ts x.1 x.2 s4 s5 s6, c⟩ ∧ Ou ts x.1 x.2) (fun x => x.1.length)
    (fun st => ∃ s4 s5 s6, st = ⟨lpE ts [] (partsP ts) s4 s5 s6, c⟩)
    (a := (plc ts, [])) (st := ⟨lpE ts (plc ts) [] s4 s5 s6, c⟩) ⟨s4, s5, s6, rfl, Ou.start hf⟩ (by have := plc_len hf; show (plc ts).length < _; omega) fun ⟨left, found⟩ s ⟨s4, s5, s6, es, hO⟩ => by
      subst es
      dsimp only at hO ⊢
      have kN := neE_run (Φ := callN F (d + 2)) (i := 1) (st := ⟨lpE ts left found s4 s5 s6, c⟩) (L := left) rfl
      cases left with
      | nil => exact .inl ⟨_, kN, s4, s5, s6, by rw [hO.fin]⟩
      | cons a l' =>
        have kH : ∀ {st : St}, slotV st.env 1 = .ok (.lst ((a :: l').map pr)) → ev (callN F (d + 2)) (.op .lst [.op .idx [(.bor 1), (.lit (.int 0))]]) st = .ok (.lst [pr a], st) := fun h => op1 rfl (op_be rfl h (r_lit _) h (by rw [o_idx]; exact idx_hd _ _)) rfl
        have kS : ex (callN F (d + 2)) (.asg (.tup [(.nm 4), (.nm 5)]) (.op .tup [(.op .lst [(.op .idx [(.bor 1), (.lit (.int 0))])]), (.op .lst [(.op .idx [(.bor 1), (.lit (.int 0))])])])) ⟨lpE ts (a :: l') found s4 s5 s6, c⟩ = .ok (.nx, ⟨lpE ts (a :: l') found (.val (.lst ([a].map pr))) (.val (.lst ([a].map pr))) s6, c⟩) := as_p (op2 rfl rfl (kH rfl) (kH rfl) rfl) rfl
        obtain ⟨part, s6', h1, h2, h3, h4, e1⟩ := lpIn_run (d := d) (c := c) (left := a :: l') (found := found) hnr Sd B hf (hO.sub.subset List.mem_cons_self) (s6 := s6)
        obtain ⟨f1, f2, f3⟩ := Ou.step hf hO h3 h1
        have hfl := figs_len hO
        have hpl := plc_len hf
        have hll : (a :: l').length ≤ 60 := Nat.le_trans hO.sub.length_le hpl
        have kL : ev (callN F (d + 2)) (.lc [7] (.nm 7) (.var 1) (.op (.cmp .NotIn) [(.bor 7), (.bor 4)]) (.var 7)) ⟨lpE ts (a :: l') found (.val (.lst (part.map pr))) (.val (.lst [])) s6', c⟩ = .ok (.lst ((l'.filter fun p => !rchB (nbT ts) a p).map pr), ⟨lpE ts (a :: l') found (.val (.lst (part.map pr))) (.val (.lst [])) s6', c⟩) := by
          rw [← f1]
          exact lc_nm (Φ := callN F (d + 2)) (j := 7) (c := .op (.cmp .NotIn) [(.bor 7), (.bor 4)]) (elt := .var 7) pr pr (fun y => decide (y ∉ part)) (va_ok rfl) rfl (by intro i hi q; simp at hi; subst hi; simp [lpE]) (by omega) fun y _ => ⟨op_bb rfl rfl (by rw [o_cmp]; exact c_nin_prs y part), fun _ => va_ok rfl⟩
        generalize hl2 : (l'.filter fun p => !rchB (nbT ts) a p) = left2 at *
        have hpk : ∀ p ∈ part, p ∈ (kindsOf ts).map (·.1) := fun p hp => by rw [hf.keys]; exact h4 p hp
        have kD := lpSq_run (Φ := callN F (d + 2)) (c := c) (l := kindsOf ts) (part := part) (env := lpE ts left2 found (.val (.lst (part.map pr))) (.val (.lst [])) s6') rfl rfl (by simp [lpE]) (by intro i hi q; simp at hi; subst hi; simp [lpE]) (by omega) hpk
        rw [f2] at kD
        have kA := r_appL (Φ := callN F (d + 2)) (i := 3) (e := .op (.bif .tuple) [lpSq]) (st := ⟨lpE ts left2 found (.val (.lst (part.map pr))) (.val (.lst [])) s6', c⟩) (ys := found.map fun P => TSq (figF (kindsOf ts) P)) (xs := found.map fun P => TSq (figF (kindsOf ts) P)) rfl (op1 rfl kD rfl) rfl (fitsL_k (by rw [List.length_map]; omega))
        refine .inr ⟨(left2, found ++ [a :: l'.filter (rchB (nbT ts) a)]), _, ⟨lpE ts left2 (found ++ [a :: l'.filter (rchB (nbT ts) a)]) (.val (.lst (part.map pr))) (.val (.lst [])) s6', c⟩, kN, ?_, ⟨_, _, _, rfl, f3⟩, ?_⟩
        · refine (sq_nx kS).trans ((sq_nx e1).trans ((sq_nx (as_nm kL)).trans ((sq_nx kA).trans ?_)))
          rw [r_exs0]
          unfold lpE
          rw [List.map_append]
          rfl
        · show left2.length < (a :: l').length
          rw [← hl2, List.length_cons]
          have := List.length_filter_le (fun p => !rchB (nbT ts) a p) l'
          omega
  exact ⟨s4', s5', s6', e⟩
theorem lparts_run {k kn kd kb : Nat} (h : FnIs F k 1 10 (lpB kn)) (hnr : FnIs F kn 2 5 (lnB kd kb)) (Sd : SidesOk F kd) (B : BeyOk F kb) (hf : Fig ts) : callN F (d + 3) k [TSq ts] cup = .ok (.lst ((partsT ts).map TSq), cup) := by
  obtain ⟨f, hk, hn, hss, hb⟩ := h
  have e0 : startE f [TSq ts] = [.val (TSq ts), .unk, .unk, .unk, .unk, .unk, .unk, .unk, .unk, .unk] := by simp [startE, hss]
  have hlen := hf.len
  obtain ⟨s4, s5, s6, e⟩ := lpOut_run (d := d) (c := cup) hnr Sd B hf (s4 := .unk) (s5 := .unk) (s6 := .unk)
  have k1 := dkE_run (Φ := callN F (d + 2)) (c := cup) (env := [.val (TSq ts), .unk, .unk, .unk, .unk, .unk, .unk, .unk, .unk, .unk]) (i := 0) (j := 8) (ts := ts) rfl (by simp) (by intro i hi q; simp at hi; subst hi; simp) (by omega)
  have kS : ex (callN F (d + 2)) (.asgs [(2, false), (3, true)] [dkE 0 8, (.op .lst [])]) ⟨[.val (TSq ts), .unk, .unk, .unk, .unk, .unk, .unk, .unk, .unk, .unk], cup⟩ = .ok (.nx, ⟨[.val (TSq ts), .unk, .val (DP (kindsOf ts)), .own (.lst []), .unk, .unk, .unk, .unk, .unk, .unk], cup⟩) := by
    rw [r_asgs, r_evs, k1, rbind_ok, r_evs, op0l, rbind_ok, r_evs0]; rfl
  have hsr : srtP ((kindsOf ts).map (·.1)) = plc ts := by rw [hf.keys]; exact srtP_of ((riseB_iff.mp hf.rise).imp ltP_le)
  have kO : ex (callN F (d + 2)) (.asg (.nm 1) (.op (.bif .sorted) [(.bor 2)])) ⟨[.val (TSq ts), .unk, .val (DP (kindsOf ts)), .own (.lst []), .unk, .unk, .unk, .unk, .unk, .unk], cup⟩ = .ok (.nx, ⟨lpE ts (plc ts) [] .unk .unk .unk, cup⟩) := as_nm (op_b rfl (by rw [o_bif]; have := b_sorted_d PV.int (kindsOf ts); rw [hsr] at this; exact this))
  have hv : (partsP ts).map (fun P => TSq (figF (kindsOf ts) P)) = (partsT ts).map TSq := by unfold partsT; rw [List.map_map]; rfl
  refine fn_rt (st1 := ⟨lpE ts [] (partsP ts) s4 s5 s6, cup⟩) hk (by rw [hn]; rfl) ?_
  rw [hb, e0]
  refine (sq_nx kS).trans ((sq_nx kO).trans ((sq_nx e).trans (sq_rt (rt_ok (op_b (x := .lst ((partsP ts).map fun P => TSq (figF (kindsOf ts) P))) rfl ?_)))))
  rw [o_bif, hv]
  exact b_sorted_figs partsT_ne (partsT_asc hf)
end
end Py
end

section
set_option Elab.async false
set_option linter.all false
set_option autoImplicit false
set_option maxRecDepth 100000
/-! Lengths of borders, run. -/
namespace Py
open PySem (Str CmpOp)
def straight (e : Edge) : Bool := decide (e.1.1 = e.2.1) || decide (e.1.2 = e.2.2)
theorem side_straight (p : Int × Int) {s : Int} (hs : 0 ≤ s ∧ s ≤ 3) : straight (sideE p s) = true := by
  rcases sides4 hs with rfl | rfl | rfl | rfl <;> simp [straight, sideE]
theorem slant_not (t : Int × Int × Int) : straight (slantE t) = false := by
  unfold straight slantE
  split <;> simp <;> omega
theorem singles_str {ts : List (Int × Int × Int)} (h : Fig ts) : ∀ e ∈ singles ts, straight e = true := fun e he => by
  have h1 := (List.mem_filter.mp he).1
  have h2 := (cnt_mem (edges ts) (l := []) (e := e)).mp h1
  have h3 : e ∈ edges ts := by simpa using h2
  obtain ⟨t, ht, he⟩ := List.mem_flatMap.mp h3
  obtain ⟨s, hs, rfl⟩ := List.mem_map.mp he
  exact side_straight _ (sidesOf_rng (h.rng t ht).2.2 s hs)
theorem slants_not (ts : List (Int × Int × Int)) : ∀ e ∈ slants ts, straight e = false := fun e he => by
  obtain ⟨t, _, rfl⟩ := List.mem_map.mp he
  exact slant_not t
theorem border_many {ts : List (Int × Int × Int)} (h : Fig ts) {L : List Edge} (hp : L.Perm (singles ts ++ slants ts)) : (L.filter straight).length = (singles ts).length ∧ L.length = (singles ts).length + (slants ts).length := by
  refine ⟨?_, by rw [hp.length_eq, List.length_append]⟩
  rw [(hp.filter straight).length_eq, List.filter_append, List.filter_eq_self.mpr (singles_str h), List.filter_eq_nil_iff.mpr fun e he => by rw [slants_not ts e he]; exact Bool.false_ne_true, List.append_nil]
theorem singles_len {ts : List (Int × Int × Int)} (h : Fig ts) : (singles ts).length ≤ 240 := by
  have h1 := stepC_len (edges ts) []
  have h2 := edges_len ts fun t ht => (h.rng t ht).2.2
  have h3 := h.len
  unfold singles
  refine Nat.le_trans (List.length_filter_le _ _) ?_
  rw [List.length_map]
  show ((edges ts).foldl stepC []).length ≤ 240
  simp at h1; omega
theorem slants_len {ts : List (Int × Int × Int)} (h : Fig ts) : (slants ts).length ≤ 60 := by
  unfold slants
  rw [List.length_map]
  exact Nat.le_trans (List.length_filter_le _ _) h.len
def blenB (kn kb : Nat) : List S := [(.expr (.call kn [(.var 0)])), (.asg (.nm 1) (.call kb [(.var 0)])),
  (.asg (.nm 2) (.op (.bif .len) [(.lc [3, 4] (.tup [(.nm 3), (.nm 4)]) (.var 1) (.or (.op (.cmp .Eq) [(.op .idx [(.bor 3), (.lit (.int 0))]), (.op .idx [(.bor 4), (.lit (.int 0))])]) (.op (.cmp .Eq) [(.op .idx [(.bor 3), (.lit (.int 1))]), (.op .idx [(.bor 4), (.lit (.int 1))])])) (.lit (.int 1)))])),
  (.ret (.op .tup [(.var 2), (.op .sub [(.op (.bif .len) [(.bor 1)]), (.bor 2)])]))]
def blenV (ts : List (Int × Int × Int)) : PV := .tup [.int ((singles ts).length : Int), .int ((slants ts).length : Int)]
theorem blen_run {F : List Fn} {d : Nat} {cup : Option (Int × Int)} (hF : FigF F) {k kn kb ka kc : Nat} (h : FnIs F k 1 5 (blenB kn kb)) (hn : FnIs F kn 1 1 needFigB) (hb : FnIs F kb 1 6 (borderB ka kc)) (A : FnIs F ka 2 4 sideB) (B : FnIs F kc 1 4 slantB) {ts : List (Int × Int × Int)} (hf : Fig ts) : callN F (d + 7) k [TSq ts] cup = .ok (blenV ts, cup) := by
  obtain ⟨f, hk, hna, hss, hbd⟩ := h
  have e0 : startE f [TSq ts] = [.val (TSq ts), .unk, .unk, .unk, .unk] := by simp [startE, hss]
  obtain ⟨L, hp, hL⟩ := sort_ed (singles ts ++ slants ts)
  have hL' : borderP ts = L.map ed := hL
  have k1 : ev (callN F (d + 6)) (.call kb [.var 0]) ⟨[.val (TSq ts), .unk, .unk, .unk, .unk], cup⟩ = .ok (.lst (L.map ed), ⟨[.val (TSq ts), .unk, .unk, .unk, .unk], cup⟩) := by
    rw [← hL']
    exact ca_1 (va_ok rfl) (border_in_run (d := d + 4) hb A B hf)
  obtain ⟨m1, m2⟩ := border_many hf hp
  have hl1 := singles_len hf
  have hl2 := slants_len hf
  have hnf := need_fig (d := d) (cup := cup) hF hn hf
  have k2 := lc_two (Φ := callN F (d + 6)) (it := .var 1) (c := .or (.op (.cmp .Eq) [(.op .idx [(.bor 3), (.lit (.int 0))]), (.op .idx [(.bor 4), (.lit (.int 0))])]) (.op (.cmp .Eq) [(.op .idx [(.bor 3), (.lit (.int 1))]), (.op .idx [(.bor 4), (.lit (.int 1))])])) (elt := .lit (.int 1)) (st := ⟨[.val (TSq ts), .val (.lst (L.map ed)), .unk, .unk, .unk], cup⟩) (i := 3) (j := 4) ed (fun e => pr e.1) (fun e => pr e.2) (fun _ => .int 1) (fun _ => rfl) straight (by decide) (va_ok rfl) rfl (by intro i hi p; simp at hi; rcases hi with rfl | rfl <;> simp) (by omega) fun e _ => by
    have i0 : ∀ a : Int × Int, idxV cup (pr a) (.int 0) = .ok (.int a.1) := fun _ => rfl
    have i1 : ∀ a : Int × Int, idxV cup (pr a) (.int 1) = .ok (.int a.2) := fun _ => rfl
    refine ⟨?_, fun _ => r_lit _⟩
    generalize L.map ed = LL
    generalize TSq ts = V
    simp [i0, i1]
    unfold straight
    by_cases h1 : e.1.1 = e.2.1 <;> simp [h1]
  have k3 := b_len_of rfl k2
  rw [List.length_map, m1] at k3
  have hlen : bifV .len [.lst (L.map ed)] = .ok (.int (((singles ts).length : Int) + ((slants ts).length : Int))) := by
    rw [b_len_l, List.length_map, m2]; rfl
  have k4 : ev (callN F (d + 6)) (.op .tup [(.var 2), (.op .sub [(.op (.bif .len) [(.bor 1)]), (.bor 2)])]) ⟨[.val (TSq ts), .val (.lst (L.map ed)), .val (.int ((singles ts).length : Int)), .unk, .unk], cup⟩ = .ok (blenV ts, ⟨[.val (TSq ts), .val (.lst (L.map ed)), .val (.int ((singles ts).length : Int)), .unk, .unk], cup⟩) :=
    op2 rfl rfl (va_ok rfl) (op_eb rfl (op_b rfl hlen) rfl (o_sub _ _ _)) (by
      show Res.ok (PV.tup [.int _, .int _]) = _
      unfold blenV
      rw [show ((singles ts).length : Int) + ((slants ts).length : Int) - ((singles ts).length : Int) = ((slants ts).length : Int) by omega])
  refine fn_rt (st1 := ⟨[.val (TSq ts), .val (.lst (L.map ed)), .val (.int ((singles ts).length : Int)), .unk, .unk], cup⟩) hk (by rw [hna]; rfl) ?_
  rw [hbd, e0]
  exact (sq_nx (xp_ok (ca_1 (va_ok rfl) hnf))).trans ((sq_nx (as_nm k1)).trans ((sq_nx (as_nm k3)).trans (sq_rt (rt_ok k4))))
end Py
end

section
set_option Elab.async false
set_option linter.all false
set_option maxRecDepth 100000
set_option maxHeartbeats 0
namespace K02
open PySem PySem.Spec PyProof.Rows L2 Py
abbrev Pm : Program := PySem.Challenge.pw_halfyard_k02_whole_parts
abbrev top (i : Nat) : Stmt := Pm.main.body.getD i (.Pass ⟨0, 0, 0, 0⟩)
def d_is_whole : He.DefD := ⟨("is_whole", none), "is_whole", "is_whole", defArgs (top 10), defBody (top 10), defScope (top 10), [], []⟩
def d_fits_whole : He.DefD := ⟨("fits_whole", none), "fits_whole", "fits_whole", defArgs (top 11), defBody (top 11), defScope (top 11), [], []⟩
def d_is_tuple_of : He.DefD := ⟨("is_tuple_of", none), "is_tuple_of", "is_tuple_of", defArgs (top 12), defBody (top 12), defScope (top 12), [], []⟩
def d_is_rising : He.DefD := ⟨("is_rising", none), "is_rising", "is_rising", defArgs (top 13), defBody (top 13), defScope (top 13), [], []⟩
def d_fits_place : He.DefD := ⟨("fits_place", none), "fits_place", "fits_place", defArgs (top 14), defBody (top 14), defScope (top 14), [], []⟩
def d_fits_square : He.DefD := ⟨("fits_square", none), "fits_square", "fits_square", defArgs (top 15), defBody (top 15), defScope (top 15), [], []⟩
def d_fits_figure : He.DefD := ⟨("fits_figure", none), "fits_figure", "fits_figure", defArgs (top 16), defBody (top 16), defScope (top 16), [], []⟩
def d_need_place : He.DefD := ⟨("need_place", none), "need_place", "need_place", defArgs (top 17), defBody (top 17), defScope (top 17), [], []⟩
def d_need_figure : He.DefD := ⟨("need_figure", none), "need_figure", "need_figure", defArgs (top 18), defBody (top 18), defScope (top 18), [], []⟩
def d_kinds_in : He.DefD := ⟨("kinds_in", none), "kinds_in", "kinds_in", defArgs (top 19), defBody (top 19), defScope (top 19), [], []⟩
def d_figure_of : He.DefD := ⟨("figure_of", none), "figure_of", "figure_of", defArgs (top 20), defBody (top 20), defScope (top 20), [], []⟩
def d_area_in : He.DefD := ⟨("area_in", none), "area_in", "area_in", defArgs (top 21), defBody (top 21), defScope (top 21), [], []⟩
def d_stepped : He.DefD := ⟨("stepped", none), "stepped", "stepped", defArgs (top 22), defBody (top 22), defScope (top 22), [], []⟩
def d_joined_to : He.DefD := ⟨("joined_to", none), "joined_to", "joined_to", defArgs (top 23), defBody (top 23), defScope (top 23), [], []⟩
def d_parts_in : He.DefD := ⟨("parts_in", none), "parts_in", "parts_in", defArgs (top 24), defBody (top 24), defScope (top 24), [], []⟩
def d_slant_of : He.DefD := ⟨("slant_of", none), "slant_of", "slant_of", defArgs (top 25), defBody (top 25), defScope (top 25), [], []⟩
def d_side_of : He.DefD := ⟨("side_of", none), "side_of", "side_of", defArgs (top 26), defBody (top 26), defScope (top 26), [], []⟩
def d_border_in : He.DefD := ⟨("border_in", none), "border_in", "border_in", defArgs (top 27), defBody (top 27), defScope (top 27), [], []⟩
def d_area_of : He.DefD := ⟨("area_of", none), "area_of", "area_of", defArgs (top 28), defBody (top 28), defScope (top 28), [], []⟩
def d_figure_parts : He.DefD := ⟨("figure_parts", none), "figure_parts", "figure_parts", defArgs (top 29), defBody (top 29), defScope (top 29), [], []⟩
def d_hangs_together : He.DefD := ⟨("hangs_together", none), "hangs_together", "hangs_together", defArgs (top 30), defBody (top 30), defScope (top 30), [], []⟩
def d_joined_squares : He.DefD := ⟨("joined_squares", none), "joined_squares", "joined_squares", defArgs (top 31), defBody (top 31), defScope (top 31), [], []⟩
def d_border_length : He.DefD := ⟨("border_length", none), "border_length", "border_length", defArgs (top 32), defBody (top 32), defScope (top 32), [], []⟩
def d__law_cup : He.DefD := ⟨("_law_cup", none), "_law_cup", "_law_cup", defArgs (top 34), defBody (top 34), defScope (top 34), [], []⟩
def d__law_roll : He.DefD := ⟨("_law_roll", none), "_law_roll", "_law_roll", defArgs (top 35), defBody (top 35), defScope (top 35), [], []⟩
def d__law_some : He.DefD := ⟨("_law_some", none), "_law_some", "_law_some", defArgs (top 36), defBody (top 36), defScope (top 36), [], []⟩
def d__law_same : He.DefD := ⟨("_law_same", none), "_law_same", "_law_same", defArgs (top 37), defBody (top 37), defScope (top 37), [], []⟩
def d__law_sides : He.DefD := ⟨("_law_sides", none), "_law_sides", "_law_sides", defArgs (top 38), defBody (top 38), defScope (top 38), [], []⟩
def d__law_figure : He.DefD := ⟨("_law_figure", none), "_law_figure", "_law_figure", defArgs (top 39), defBody (top 39), defScope (top 39), [], []⟩
def d__law_beyond : He.DefD := ⟨("_law_beyond", none), "_law_beyond", "_law_beyond", defArgs (top 40), defBody (top 40), defScope (top 40), [], []⟩
def d__law_near : He.DefD := ⟨("_law_near", none), "_law_near", "_law_near", defArgs (top 41), defBody (top 41), defScope (top 41), [], []⟩
def d__law_grown : He.DefD := ⟨("_law_grown", none), "_law_grown", "_law_grown", defArgs (top 42), defBody (top 42), defScope (top 42), [], []⟩
def d__law_parts : He.DefD := ⟨("_law_parts", none), "_law_parts", "_law_parts", defArgs (top 43), defBody (top 43), defScope (top 43), [], []⟩
def d_law : He.DefD := ⟨("law", none), "law", "law", defArgs (top 44), defBody (top 44), defScope (top 44), [], []⟩
def r_is_whole : FR := ⟨d_is_whole, ["value"], ["value"], []⟩
def r_fits_whole : FR := ⟨d_fits_whole, ["value", "low", "high"], ["value", "low", "high"], []⟩
def r_is_tuple_of : FR := ⟨d_is_tuple_of, ["value", "least", "most"], ["value", "least", "most"], []⟩
def r_is_rising : FR := ⟨d_is_rising, ["values"], ["values", "one", "other"], []⟩
def r_fits_place : FR := ⟨d_fits_place, ["value"], ["value", "one"], []⟩
def r_fits_square : FR := ⟨d_fits_square, ["value"], ["value"], []⟩
def r_fits_figure : FR := ⟨d_fits_figure, ["value"], ["value", "one"], []⟩
def r_need_place : FR := ⟨d_need_place, ["value"], ["value"], []⟩
def r_need_figure : FR := ⟨d_need_figure, ["value"], ["value"], []⟩
def r_kinds_in : FR := ⟨d_kinds_in, ["figure"], ["figure", "square"], []⟩
def r_figure_of : FR := ⟨d_figure_of, ["kinds"], ["kinds", "place"], []⟩
def r_area_in : FR := ⟨d_area_in, ["figure"], ["figure", "square"], []⟩
def r_stepped : FR := ⟨d_stepped, ["place", "side"], ["place", "side"], []⟩
def r_joined_to : FR := ⟨d_joined_to, ["kinds", "place"], ["kinds", "place", "found", "side", "there"], ["found"]⟩
def r_parts_in : FR := ⟨d_parts_in, ["figure"], ["figure", "kinds", "left", "found", "part", "line", "more", "square", "place", "one"], ["found", "line"]⟩
def r_slant_of : FR := ⟨d_slant_of, ["square"], ["square", "right", "up", "kind"], []⟩
def r_side_of : FR := ⟨d_side_of, ["place", "side"], ["place", "side", "right", "up"], []⟩
def r_border_in : FR := ⟨d_border_in, ["figure"], ["figure", "counts", "square", "slants", "side", "own"], ["counts"]⟩
def r_area_of : FR := ⟨d_area_of, ["figure"], ["figure"], []⟩
def r_figure_parts : FR := ⟨d_figure_parts, ["figure"], ["figure"], []⟩
def r_hangs_together : FR := ⟨d_hangs_together, ["figure"], ["figure"], []⟩
def r_joined_squares : FR := ⟨d_joined_squares, ["figure", "place"], ["figure", "place", "kinds"], []⟩
def r_border_length : FR := ⟨d_border_length, ["figure"], ["figure", "rows", "many", "one", "other"], []⟩
def r__law_cup : FR := ⟨d__law_cup, ["script"], ["script", "cell"], []⟩
def r__law_roll : FR := ⟨d__law_roll, ["cup", "many"], ["cup", "many", "deep", "found"], []⟩
def r__law_some : FR := ⟨d__law_some, ["cup", "things"], ["cup", "things"], []⟩
def r__law_same : FR := ⟨d__law_same, ["told", "due"], ["told", "due", "at"], []⟩
def r__law_sides : FR := ⟨d__law_sides, ["kind"], ["kind"], []⟩
def r__law_figure : FR := ⟨d__law_figure, ["cup", "many", "size"], ["cup", "many", "size", "found", "turn", "place"], ["found"]⟩
def r__law_beyond : FR := ⟨d__law_beyond, ["place", "side"], ["place", "side", "right", "up"], []⟩
def r__law_near : FR := ⟨d__law_near, ["kinds", "place"], ["kinds", "place", "found", "side", "there"], []⟩
def r__law_grown : FR := ⟨d__law_grown, ["cup", "many"], ["cup", "many", "kinds", "turn", "rows", "place", "side", "there", "kind"], ["kinds"]⟩
def r__law_parts : FR := ⟨d__law_parts, ["figure"], ["figure", "left", "kinds", "found", "part", "line", "more", "place", "square", "one"], ["found"]⟩
def r_law : FR := ⟨d_law, ["script"], ["script", "cup", "turn", "one", "figure", "kinds", "parts", "common", "place", "lengths", "grown", "other", "near", "part", "square", "own"], []⟩
def frs : List FR := [r_is_whole, r_fits_whole, r_is_tuple_of, r_is_rising, r_fits_place, r_fits_square, r_fits_figure, r_need_place, r_need_figure, r_kinds_in, r_figure_of, r_area_in, r_stepped, r_joined_to, r_parts_in, r_slant_of, r_side_of, r_border_in, r_area_of, r_figure_parts, r_hangs_together, r_joined_squares, r_border_length, r__law_cup, r__law_roll, r__law_some, r__law_same, r__law_sides, r__law_figure, r__law_beyond, r__law_near, r__law_grown, r__law_parts, r_law]
def cons : List (Str × PV) := [("FAR", .int (50)), ("MANY", .int (60)), ("WHOLE", .int (5)), ("SIDES", .dct [(.int (1), .tup [.int (0), .int (3)]), (.int (2), .tup [.int (0), .int (1)]), (.int (3), .tup [.int (1), .int (2)]), (.int (4), .tup [.int (2), .int (3)]), (.int (5), .tup [.int (0), .int (1), .int (2), .int (3)])]), ("STEPS", .tup [.tup [.int (0), .int (-1)], .tup [.int (1), .int (0)], .tup [.int (0), .int (1)], .tup [.int (-1), .int (0)]])]
def free : List Str := ["len", "abs", "int", "tuple", "list", "sorted", "dict", "sum", "all", "isinstance", "range", "zip", "bool", "str"]
def md : Md := ⟨frs, cons, free⟩
theorem sc_is_whole : FnScope r_is_whole.N r_is_whole.ps r_is_whole.d.scope := ⟨rfl, rfl, rfl, by decide +kernel, rfl, by decide +kernel, by decide +kernel⟩
theorem sc_fits_whole : FnScope r_fits_whole.N r_fits_whole.ps r_fits_whole.d.scope := ⟨rfl, rfl, rfl, by decide +kernel, rfl, by decide +kernel, by decide +kernel⟩
theorem sc_is_tuple_of : FnScope r_is_tuple_of.N r_is_tuple_of.ps r_is_tuple_of.d.scope := ⟨rfl, rfl, rfl, by decide +kernel, rfl, by decide +kernel, by decide +kernel⟩
theorem sc_is_rising : FnScope r_is_rising.N r_is_rising.ps r_is_rising.d.scope := ⟨rfl, rfl, rfl, by decide +kernel, rfl, by decide +kernel, by decide +kernel⟩
theorem sc_fits_place : FnScope r_fits_place.N r_fits_place.ps r_fits_place.d.scope := ⟨rfl, rfl, rfl, by decide +kernel, rfl, by decide +kernel, by decide +kernel⟩
theorem sc_fits_square : FnScope r_fits_square.N r_fits_square.ps r_fits_square.d.scope := ⟨rfl, rfl, rfl, by decide +kernel, rfl, by decide +kernel, by decide +kernel⟩
theorem sc_fits_figure : FnScope r_fits_figure.N r_fits_figure.ps r_fits_figure.d.scope := ⟨rfl, rfl, rfl, by decide +kernel, rfl, by decide +kernel, by decide +kernel⟩
theorem sc_need_place : FnScope r_need_place.N r_need_place.ps r_need_place.d.scope := ⟨rfl, rfl, rfl, by decide +kernel, rfl, by decide +kernel, by decide +kernel⟩
theorem sc_need_figure : FnScope r_need_figure.N r_need_figure.ps r_need_figure.d.scope := ⟨rfl, rfl, rfl, by decide +kernel, rfl, by decide +kernel, by decide +kernel⟩
theorem sc_kinds_in : FnScope r_kinds_in.N r_kinds_in.ps r_kinds_in.d.scope := ⟨rfl, rfl, rfl, by decide +kernel, rfl, by decide +kernel, by decide +kernel⟩
theorem sc_figure_of : FnScope r_figure_of.N r_figure_of.ps r_figure_of.d.scope := ⟨rfl, rfl, rfl, by decide +kernel, rfl, by decide +kernel, by decide +kernel⟩
theorem sc_area_in : FnScope r_area_in.N r_area_in.ps r_area_in.d.scope := ⟨rfl, rfl, rfl, by decide +kernel, rfl, by decide +kernel, by decide +kernel⟩
theorem sc_stepped : FnScope r_stepped.N r_stepped.ps r_stepped.d.scope := ⟨rfl, rfl, rfl, by decide +kernel, rfl, by decide +kernel, by decide +kernel⟩
theorem sc_joined_to : FnScope r_joined_to.N r_joined_to.ps r_joined_to.d.scope := ⟨rfl, rfl, rfl, by decide +kernel, rfl, by decide +kernel, by decide +kernel⟩
theorem sc_parts_in : FnScope r_parts_in.N r_parts_in.ps r_parts_in.d.scope := ⟨rfl, rfl, rfl, by decide +kernel, rfl, by decide +kernel, by decide +kernel⟩
theorem sc_slant_of : FnScope r_slant_of.N r_slant_of.ps r_slant_of.d.scope := ⟨rfl, rfl, rfl, by decide +kernel, rfl, by decide +kernel, by decide +kernel⟩
theorem sc_side_of : FnScope r_side_of.N r_side_of.ps r_side_of.d.scope := ⟨rfl, rfl, rfl, by decide +kernel, rfl, by decide +kernel, by decide +kernel⟩
theorem sc_border_in : FnScope r_border_in.N r_border_in.ps r_border_in.d.scope := ⟨rfl, rfl, rfl, by decide +kernel, rfl, by decide +kernel, by decide +kernel⟩
theorem sc_area_of : FnScope r_area_of.N r_area_of.ps r_area_of.d.scope := ⟨rfl, rfl, rfl, by decide +kernel, rfl, by decide +kernel, by decide +kernel⟩
theorem sc_figure_parts : FnScope r_figure_parts.N r_figure_parts.ps r_figure_parts.d.scope := ⟨rfl, rfl, rfl, by decide +kernel, rfl, by decide +kernel, by decide +kernel⟩
theorem sc_hangs_together : FnScope r_hangs_together.N r_hangs_together.ps r_hangs_together.d.scope := ⟨rfl, rfl, rfl, by decide +kernel, rfl, by decide +kernel, by decide +kernel⟩
theorem sc_joined_squares : FnScope r_joined_squares.N r_joined_squares.ps r_joined_squares.d.scope := ⟨rfl, rfl, rfl, by decide +kernel, rfl, by decide +kernel, by decide +kernel⟩
theorem sc_border_length : FnScope r_border_length.N r_border_length.ps r_border_length.d.scope := ⟨rfl, rfl, rfl, by decide +kernel, rfl, by decide +kernel, by decide +kernel⟩
theorem sc__law_cup : FnScope r__law_cup.N r__law_cup.ps r__law_cup.d.scope := ⟨rfl, rfl, rfl, by decide +kernel, rfl, by decide +kernel, by decide +kernel⟩
theorem sc__law_roll : FnScope r__law_roll.N r__law_roll.ps r__law_roll.d.scope := ⟨rfl, rfl, rfl, by decide +kernel, rfl, by decide +kernel, by decide +kernel⟩
theorem sc__law_some : FnScope r__law_some.N r__law_some.ps r__law_some.d.scope := ⟨rfl, rfl, rfl, by decide +kernel, rfl, by decide +kernel, by decide +kernel⟩
theorem sc__law_same : FnScope r__law_same.N r__law_same.ps r__law_same.d.scope := ⟨rfl, rfl, rfl, by decide +kernel, rfl, by decide +kernel, by decide +kernel⟩
theorem sc__law_sides : FnScope r__law_sides.N r__law_sides.ps r__law_sides.d.scope := ⟨rfl, rfl, rfl, by decide +kernel, rfl, by decide +kernel, by decide +kernel⟩
theorem sc__law_figure : FnScope r__law_figure.N r__law_figure.ps r__law_figure.d.scope := ⟨rfl, rfl, rfl, by decide +kernel, rfl, by decide +kernel, by decide +kernel⟩
theorem sc__law_beyond : FnScope r__law_beyond.N r__law_beyond.ps r__law_beyond.d.scope := ⟨rfl, rfl, rfl, by decide +kernel, rfl, by decide +kernel, by decide +kernel⟩
theorem sc__law_near : FnScope r__law_near.N r__law_near.ps r__law_near.d.scope := ⟨rfl, rfl, rfl, by decide +kernel, rfl, by decide +kernel, by decide +kernel⟩
theorem sc__law_grown : FnScope r__law_grown.N r__law_grown.ps r__law_grown.d.scope := ⟨rfl, rfl, rfl, by decide +kernel, rfl, by decide +kernel, by decide +kernel⟩
theorem sc__law_parts : FnScope r__law_parts.N r__law_parts.ps r__law_parts.d.scope := ⟨rfl, rfl, rfl, by decide +kernel, rfl, by decide +kernel, by decide +kernel⟩
theorem sc_law : FnScope r_law.N r_law.ps r_law.d.scope := ⟨rfl, rfl, rfl, by decide +kernel, rfl, by decide +kernel, by decide +kernel⟩
def fnl : List He.DefD := [d_is_whole, d_fits_whole, d_is_tuple_of, d_is_rising, d_fits_place, d_fits_square, d_fits_figure, d_need_place, d_need_figure, d_kinds_in, d_figure_of, d_area_in, d_stepped, d_joined_to, d_parts_in, d_slant_of, d_side_of, d_border_in, d_area_of, d_figure_parts, d_hangs_together, d_joined_squares, d_border_length, d__law_cup, d__law_roll, d__law_some, d__law_same, d__law_sides, d__law_figure, d__law_beyond, d__law_near, d__law_grown, d__law_parts, d_law]
def fal : List He.Fa := [.glo "is_whole", .glo "fits_whole", .glo "is_tuple_of", .glo "is_rising", .glo "fits_place", .glo "fits_square", .glo "fits_figure", .glo "need_place", .glo "need_figure", .glo "kinds_in", .glo "figure_of", .glo "area_in", .glo "stepped", .glo "joined_to", .glo "parts_in", .glo "slant_of", .glo "side_of", .glo "border_in", .glo "area_of", .glo "figure_parts", .glo "hangs_together", .glo "joined_squares", .glo "border_length", .glo "_law_cup", .glo "_law_roll", .glo "_law_some", .glo "_law_same", .glo "_law_sides", .glo "_law_figure", .glo "_law_beyond", .glo "_law_near", .glo "_law_grown", .glo "_law_parts", .glo "law", .free "len", .free "abs", .free "int", .free "tuple", .free "list", .free "sorted", .free "dict", .free "sum", .free "all", .free "isinstance", .free "range", .free "zip", .free "bool", .free "str"]
abbrev Ro : PySem.W.OpenRow := PySem.W.OpenLaw.row PySem.Challenge.rw_halfyard_k02_whole_parts
abbrev hk : PySem.W.Hook := Py.hookC 5 fal fnl cons
def ob (s : PySem.W.SharedT) : Py.AlC := Py.obsC 5 fal fnl cons (HandSHeadRun.getT s)
theorem ob_eq (s : PySem.W.SharedT) : ob s = hk.obs s.abs := Py.obsC_eq (HandSHeadRun.getT_eq s)
def loose0 : List Str := ["HalfError", "InvalidSquare", "InvalidFigure", "FAR", "MANY", "WHOLE", "SIDES", "STEPS", "is_whole", "fits_whole", "is_tuple_of", "is_rising", "fits_place", "fits_square", "fits_figure", "need_place", "need_figure", "kinds_in", "figure_of", "area_in", "stepped", "joined_to", "parts_in", "slant_of", "side_of"]
def loose1 : List Str := ["border_in", "area_of", "figure_parts", "hangs_together", "joined_squares", "border_length", "_law_cup", "_law_roll", "_law_some", "_law_same", "_law_sides", "_law_figure", "_law_beyond", "_law_near", "_law_grown", "_law_parts"]
def loose : List Str := loose0 ++ loose1
theorem run (w : World) : HandSHeadRun.RunEq Ro (PySem.W.view Ro.prog [44]) hk ob 3000 loose w := PySem.W.byRow2 "special-get-raises" (P := HandSHeadRun.RunEq Ro (PySem.W.view Ro.prog [44]) hk ob 3000 loose)
  (fun w => by intro os; kernel_rfl) (fun w => by intro os; kernel_rfl) w
theorem fr_is_whole {K : PySem.W.Frag} {h : Heap} {mg : Str → Option Value} (X : K.In h) (G : h.Ns mainGlobals mg) (c : He.SaysD fal fnl K) : FrOk K mg r_is_whole := by
  obtain ⟨fd, F⟩ := c.def_ 0 (d := d_is_whole) rfl
  exact ⟨sc_is_whole, _, fd, F, He.glo_ok X G (c.fact 0 (f := .glo "is_whole") rfl), FunD.bindsN F fun _ _ _ _ _ _ us hl => match us, hl with | [_], _ => rfl⟩
theorem fr_fits_whole {K : PySem.W.Frag} {h : Heap} {mg : Str → Option Value} (X : K.In h) (G : h.Ns mainGlobals mg) (c : He.SaysD fal fnl K) : FrOk K mg r_fits_whole := by
  obtain ⟨fd, F⟩ := c.def_ 1 (d := d_fits_whole) rfl
  exact ⟨sc_fits_whole, _, fd, F, He.glo_ok X G (c.fact 1 (f := .glo "fits_whole") rfl), FunD.bindsN F fun _ _ _ _ _ _ us hl => match us, hl with | [_, _, _], _ => rfl⟩
theorem fr_is_tuple_of {K : PySem.W.Frag} {h : Heap} {mg : Str → Option Value} (X : K.In h) (G : h.Ns mainGlobals mg) (c : He.SaysD fal fnl K) : FrOk K mg r_is_tuple_of := by
  obtain ⟨fd, F⟩ := c.def_ 2 (d := d_is_tuple_of) rfl
  exact ⟨sc_is_tuple_of, _, fd, F, He.glo_ok X G (c.fact 2 (f := .glo "is_tuple_of") rfl), FunD.bindsN F fun _ _ _ _ _ _ us hl => match us, hl with | [_, _, _], _ => rfl⟩
theorem fr_is_rising {K : PySem.W.Frag} {h : Heap} {mg : Str → Option Value} (X : K.In h) (G : h.Ns mainGlobals mg) (c : He.SaysD fal fnl K) : FrOk K mg r_is_rising := by
  obtain ⟨fd, F⟩ := c.def_ 3 (d := d_is_rising) rfl
  exact ⟨sc_is_rising, _, fd, F, He.glo_ok X G (c.fact 3 (f := .glo "is_rising") rfl), FunD.bindsN F fun _ _ _ _ _ _ us hl => match us, hl with | [_], _ => rfl⟩
theorem fr_fits_place {K : PySem.W.Frag} {h : Heap} {mg : Str → Option Value} (X : K.In h) (G : h.Ns mainGlobals mg) (c : He.SaysD fal fnl K) : FrOk K mg r_fits_place := by
  obtain ⟨fd, F⟩ := c.def_ 4 (d := d_fits_place) rfl
  exact ⟨sc_fits_place, _, fd, F, He.glo_ok X G (c.fact 4 (f := .glo "fits_place") rfl), FunD.bindsN F fun _ _ _ _ _ _ us hl => match us, hl with | [_], _ => rfl⟩
theorem fr_fits_square {K : PySem.W.Frag} {h : Heap} {mg : Str → Option Value} (X : K.In h) (G : h.Ns mainGlobals mg) (c : He.SaysD fal fnl K) : FrOk K mg r_fits_square := by
  obtain ⟨fd, F⟩ := c.def_ 5 (d := d_fits_square) rfl
  exact ⟨sc_fits_square, _, fd, F, He.glo_ok X G (c.fact 5 (f := .glo "fits_square") rfl), FunD.bindsN F fun _ _ _ _ _ _ us hl => match us, hl with | [_], _ => rfl⟩
theorem fr_fits_figure {K : PySem.W.Frag} {h : Heap} {mg : Str → Option Value} (X : K.In h) (G : h.Ns mainGlobals mg) (c : He.SaysD fal fnl K) : FrOk K mg r_fits_figure := by
  obtain ⟨fd, F⟩ := c.def_ 6 (d := d_fits_figure) rfl
  exact ⟨sc_fits_figure, _, fd, F, He.glo_ok X G (c.fact 6 (f := .glo "fits_figure") rfl), FunD.bindsN F fun _ _ _ _ _ _ us hl => match us, hl with | [_], _ => rfl⟩
theorem fr_need_place {K : PySem.W.Frag} {h : Heap} {mg : Str → Option Value} (X : K.In h) (G : h.Ns mainGlobals mg) (c : He.SaysD fal fnl K) : FrOk K mg r_need_place := by
  obtain ⟨fd, F⟩ := c.def_ 7 (d := d_need_place) rfl
  exact ⟨sc_need_place, _, fd, F, He.glo_ok X G (c.fact 7 (f := .glo "need_place") rfl), FunD.bindsN F fun _ _ _ _ _ _ us hl => match us, hl with | [_], _ => rfl⟩
theorem fr_need_figure {K : PySem.W.Frag} {h : Heap} {mg : Str → Option Value} (X : K.In h) (G : h.Ns mainGlobals mg) (c : He.SaysD fal fnl K) : FrOk K mg r_need_figure := by
  obtain ⟨fd, F⟩ := c.def_ 8 (d := d_need_figure) rfl
  exact ⟨sc_need_figure, _, fd, F, He.glo_ok X G (c.fact 8 (f := .glo "need_figure") rfl), FunD.bindsN F fun _ _ _ _ _ _ us hl => match us, hl with | [_], _ => rfl⟩
theorem fr_kinds_in {K : PySem.W.Frag} {h : Heap} {mg : Str → Option Value} (X : K.In h) (G : h.Ns mainGlobals mg) (c : He.SaysD fal fnl K) : FrOk K mg r_kinds_in := by
  obtain ⟨fd, F⟩ := c.def_ 9 (d := d_kinds_in) rfl
  exact ⟨sc_kinds_in, _, fd, F, He.glo_ok X G (c.fact 9 (f := .glo "kinds_in") rfl), FunD.bindsN F fun _ _ _ _ _ _ us hl => match us, hl with | [_], _ => rfl⟩
theorem fr_figure_of {K : PySem.W.Frag} {h : Heap} {mg : Str → Option Value} (X : K.In h) (G : h.Ns mainGlobals mg) (c : He.SaysD fal fnl K) : FrOk K mg r_figure_of := by
  obtain ⟨fd, F⟩ := c.def_ 10 (d := d_figure_of) rfl
  exact ⟨sc_figure_of, _, fd, F, He.glo_ok X G (c.fact 10 (f := .glo "figure_of") rfl), FunD.bindsN F fun _ _ _ _ _ _ us hl => match us, hl with | [_], _ => rfl⟩
theorem fr_area_in {K : PySem.W.Frag} {h : Heap} {mg : Str → Option Value} (X : K.In h) (G : h.Ns mainGlobals mg) (c : He.SaysD fal fnl K) : FrOk K mg r_area_in := by
  obtain ⟨fd, F⟩ := c.def_ 11 (d := d_area_in) rfl
  exact ⟨sc_area_in, _, fd, F, He.glo_ok X G (c.fact 11 (f := .glo "area_in") rfl), FunD.bindsN F fun _ _ _ _ _ _ us hl => match us, hl with | [_], _ => rfl⟩
theorem fr_stepped {K : PySem.W.Frag} {h : Heap} {mg : Str → Option Value} (X : K.In h) (G : h.Ns mainGlobals mg) (c : He.SaysD fal fnl K) : FrOk K mg r_stepped := by
  obtain ⟨fd, F⟩ := c.def_ 12 (d := d_stepped) rfl
  exact ⟨sc_stepped, _, fd, F, He.glo_ok X G (c.fact 12 (f := .glo "stepped") rfl), FunD.bindsN F fun _ _ _ _ _ _ us hl => match us, hl with | [_, _], _ => rfl⟩
theorem fr_joined_to {K : PySem.W.Frag} {h : Heap} {mg : Str → Option Value} (X : K.In h) (G : h.Ns mainGlobals mg) (c : He.SaysD fal fnl K) : FrOk K mg r_joined_to := by
  obtain ⟨fd, F⟩ := c.def_ 13 (d := d_joined_to) rfl
  exact ⟨sc_joined_to, _, fd, F, He.glo_ok X G (c.fact 13 (f := .glo "joined_to") rfl), FunD.bindsN F fun _ _ _ _ _ _ us hl => match us, hl with | [_, _], _ => rfl⟩
theorem fr_parts_in {K : PySem.W.Frag} {h : Heap} {mg : Str → Option Value} (X : K.In h) (G : h.Ns mainGlobals mg) (c : He.SaysD fal fnl K) : FrOk K mg r_parts_in := by
  obtain ⟨fd, F⟩ := c.def_ 14 (d := d_parts_in) rfl
  exact ⟨sc_parts_in, _, fd, F, He.glo_ok X G (c.fact 14 (f := .glo "parts_in") rfl), FunD.bindsN F fun _ _ _ _ _ _ us hl => match us, hl with | [_], _ => rfl⟩
theorem fr_slant_of {K : PySem.W.Frag} {h : Heap} {mg : Str → Option Value} (X : K.In h) (G : h.Ns mainGlobals mg) (c : He.SaysD fal fnl K) : FrOk K mg r_slant_of := by
  obtain ⟨fd, F⟩ := c.def_ 15 (d := d_slant_of) rfl
  exact ⟨sc_slant_of, _, fd, F, He.glo_ok X G (c.fact 15 (f := .glo "slant_of") rfl), FunD.bindsN F fun _ _ _ _ _ _ us hl => match us, hl with | [_], _ => rfl⟩
theorem fr_side_of {K : PySem.W.Frag} {h : Heap} {mg : Str → Option Value} (X : K.In h) (G : h.Ns mainGlobals mg) (c : He.SaysD fal fnl K) : FrOk K mg r_side_of := by
  obtain ⟨fd, F⟩ := c.def_ 16 (d := d_side_of) rfl
  exact ⟨sc_side_of, _, fd, F, He.glo_ok X G (c.fact 16 (f := .glo "side_of") rfl), FunD.bindsN F fun _ _ _ _ _ _ us hl => match us, hl with | [_, _], _ => rfl⟩
theorem fr_border_in {K : PySem.W.Frag} {h : Heap} {mg : Str → Option Value} (X : K.In h) (G : h.Ns mainGlobals mg) (c : He.SaysD fal fnl K) : FrOk K mg r_border_in := by
  obtain ⟨fd, F⟩ := c.def_ 17 (d := d_border_in) rfl
  exact ⟨sc_border_in, _, fd, F, He.glo_ok X G (c.fact 17 (f := .glo "border_in") rfl), FunD.bindsN F fun _ _ _ _ _ _ us hl => match us, hl with | [_], _ => rfl⟩
theorem fr_area_of {K : PySem.W.Frag} {h : Heap} {mg : Str → Option Value} (X : K.In h) (G : h.Ns mainGlobals mg) (c : He.SaysD fal fnl K) : FrOk K mg r_area_of := by
  obtain ⟨fd, F⟩ := c.def_ 18 (d := d_area_of) rfl
  exact ⟨sc_area_of, _, fd, F, He.glo_ok X G (c.fact 18 (f := .glo "area_of") rfl), FunD.bindsN F fun _ _ _ _ _ _ us hl => match us, hl with | [_], _ => rfl⟩
theorem fr_figure_parts {K : PySem.W.Frag} {h : Heap} {mg : Str → Option Value} (X : K.In h) (G : h.Ns mainGlobals mg) (c : He.SaysD fal fnl K) : FrOk K mg r_figure_parts := by
  obtain ⟨fd, F⟩ := c.def_ 19 (d := d_figure_parts) rfl
  exact ⟨sc_figure_parts, _, fd, F, He.glo_ok X G (c.fact 19 (f := .glo "figure_parts") rfl), FunD.bindsN F fun _ _ _ _ _ _ us hl => match us, hl with | [_], _ => rfl⟩
theorem fr_hangs_together {K : PySem.W.Frag} {h : Heap} {mg : Str → Option Value} (X : K.In h) (G : h.Ns mainGlobals mg) (c : He.SaysD fal fnl K) : FrOk K mg r_hangs_together := by
  obtain ⟨fd, F⟩ := c.def_ 20 (d := d_hangs_together) rfl
  exact ⟨sc_hangs_together, _, fd, F, He.glo_ok X G (c.fact 20 (f := .glo "hangs_together") rfl), FunD.bindsN F fun _ _ _ _ _ _ us hl => match us, hl with | [_], _ => rfl⟩
theorem fr_joined_squares {K : PySem.W.Frag} {h : Heap} {mg : Str → Option Value} (X : K.In h) (G : h.Ns mainGlobals mg) (c : He.SaysD fal fnl K) : FrOk K mg r_joined_squares := by
  obtain ⟨fd, F⟩ := c.def_ 21 (d := d_joined_squares) rfl
  exact ⟨sc_joined_squares, _, fd, F, He.glo_ok X G (c.fact 21 (f := .glo "joined_squares") rfl), FunD.bindsN F fun _ _ _ _ _ _ us hl => match us, hl with | [_, _], _ => rfl⟩
theorem fr_border_length {K : PySem.W.Frag} {h : Heap} {mg : Str → Option Value} (X : K.In h) (G : h.Ns mainGlobals mg) (c : He.SaysD fal fnl K) : FrOk K mg r_border_length := by
  obtain ⟨fd, F⟩ := c.def_ 22 (d := d_border_length) rfl
  exact ⟨sc_border_length, _, fd, F, He.glo_ok X G (c.fact 22 (f := .glo "border_length") rfl), FunD.bindsN F fun _ _ _ _ _ _ us hl => match us, hl with | [_], _ => rfl⟩
theorem fr__law_cup {K : PySem.W.Frag} {h : Heap} {mg : Str → Option Value} (X : K.In h) (G : h.Ns mainGlobals mg) (c : He.SaysD fal fnl K) : FrOk K mg r__law_cup := by
  obtain ⟨fd, F⟩ := c.def_ 23 (d := d__law_cup) rfl
  exact ⟨sc__law_cup, _, fd, F, He.glo_ok X G (c.fact 23 (f := .glo "_law_cup") rfl), FunD.bindsN F fun _ _ _ _ _ _ us hl => match us, hl with | [_], _ => rfl⟩
theorem fr__law_roll {K : PySem.W.Frag} {h : Heap} {mg : Str → Option Value} (X : K.In h) (G : h.Ns mainGlobals mg) (c : He.SaysD fal fnl K) : FrOk K mg r__law_roll := by
  obtain ⟨fd, F⟩ := c.def_ 24 (d := d__law_roll) rfl
  exact ⟨sc__law_roll, _, fd, F, He.glo_ok X G (c.fact 24 (f := .glo "_law_roll") rfl), FunD.bindsN F fun _ _ _ _ _ _ us hl => match us, hl with | [_, _], _ => rfl⟩
theorem fr__law_some {K : PySem.W.Frag} {h : Heap} {mg : Str → Option Value} (X : K.In h) (G : h.Ns mainGlobals mg) (c : He.SaysD fal fnl K) : FrOk K mg r__law_some := by
  obtain ⟨fd, F⟩ := c.def_ 25 (d := d__law_some) rfl
  exact ⟨sc__law_some, _, fd, F, He.glo_ok X G (c.fact 25 (f := .glo "_law_some") rfl), FunD.bindsN F fun _ _ _ _ _ _ us hl => match us, hl with | [_, _], _ => rfl⟩
theorem fr__law_same {K : PySem.W.Frag} {h : Heap} {mg : Str → Option Value} (X : K.In h) (G : h.Ns mainGlobals mg) (c : He.SaysD fal fnl K) : FrOk K mg r__law_same := by
  obtain ⟨fd, F⟩ := c.def_ 26 (d := d__law_same) rfl
  exact ⟨sc__law_same, _, fd, F, He.glo_ok X G (c.fact 26 (f := .glo "_law_same") rfl), FunD.bindsN F fun _ _ _ _ _ _ us hl => match us, hl with | [_, _], _ => rfl⟩
theorem fr__law_sides {K : PySem.W.Frag} {h : Heap} {mg : Str → Option Value} (X : K.In h) (G : h.Ns mainGlobals mg) (c : He.SaysD fal fnl K) : FrOk K mg r__law_sides := by
  obtain ⟨fd, F⟩ := c.def_ 27 (d := d__law_sides) rfl
  exact ⟨sc__law_sides, _, fd, F, He.glo_ok X G (c.fact 27 (f := .glo "_law_sides") rfl), FunD.bindsN F fun _ _ _ _ _ _ us hl => match us, hl with | [_], _ => rfl⟩
theorem fr__law_figure {K : PySem.W.Frag} {h : Heap} {mg : Str → Option Value} (X : K.In h) (G : h.Ns mainGlobals mg) (c : He.SaysD fal fnl K) : FrOk K mg r__law_figure := by
  obtain ⟨fd, F⟩ := c.def_ 28 (d := d__law_figure) rfl
  exact ⟨sc__law_figure, _, fd, F, He.glo_ok X G (c.fact 28 (f := .glo "_law_figure") rfl), FunD.bindsN F fun _ _ _ _ _ _ us hl => match us, hl with | [_, _, _], _ => rfl⟩
theorem fr__law_beyond {K : PySem.W.Frag} {h : Heap} {mg : Str → Option Value} (X : K.In h) (G : h.Ns mainGlobals mg) (c : He.SaysD fal fnl K) : FrOk K mg r__law_beyond := by
  obtain ⟨fd, F⟩ := c.def_ 29 (d := d__law_beyond) rfl
  exact ⟨sc__law_beyond, _, fd, F, He.glo_ok X G (c.fact 29 (f := .glo "_law_beyond") rfl), FunD.bindsN F fun _ _ _ _ _ _ us hl => match us, hl with | [_, _], _ => rfl⟩
theorem fr__law_near {K : PySem.W.Frag} {h : Heap} {mg : Str → Option Value} (X : K.In h) (G : h.Ns mainGlobals mg) (c : He.SaysD fal fnl K) : FrOk K mg r__law_near := by
  obtain ⟨fd, F⟩ := c.def_ 30 (d := d__law_near) rfl
  exact ⟨sc__law_near, _, fd, F, He.glo_ok X G (c.fact 30 (f := .glo "_law_near") rfl), FunD.bindsN F fun _ _ _ _ _ _ us hl => match us, hl with | [_, _], _ => rfl⟩
theorem fr__law_grown {K : PySem.W.Frag} {h : Heap} {mg : Str → Option Value} (X : K.In h) (G : h.Ns mainGlobals mg) (c : He.SaysD fal fnl K) : FrOk K mg r__law_grown := by
  obtain ⟨fd, F⟩ := c.def_ 31 (d := d__law_grown) rfl
  exact ⟨sc__law_grown, _, fd, F, He.glo_ok X G (c.fact 31 (f := .glo "_law_grown") rfl), FunD.bindsN F fun _ _ _ _ _ _ us hl => match us, hl with | [_, _], _ => rfl⟩
theorem fr__law_parts {K : PySem.W.Frag} {h : Heap} {mg : Str → Option Value} (X : K.In h) (G : h.Ns mainGlobals mg) (c : He.SaysD fal fnl K) : FrOk K mg r__law_parts := by
  obtain ⟨fd, F⟩ := c.def_ 32 (d := d__law_parts) rfl
  exact ⟨sc__law_parts, _, fd, F, He.glo_ok X G (c.fact 32 (f := .glo "_law_parts") rfl), FunD.bindsN F fun _ _ _ _ _ _ us hl => match us, hl with | [_], _ => rfl⟩
theorem fr_law {K : PySem.W.Frag} {h : Heap} {mg : Str → Option Value} (X : K.In h) (G : h.Ns mainGlobals mg) (c : He.SaysD fal fnl K) : FrOk K mg r_law := by
  obtain ⟨fd, F⟩ := c.def_ 33 (d := d_law) rfl
  exact ⟨sc_law, _, fd, F, He.glo_ok X G (c.fact 33 (f := .glo "law") rfl), FunD.bindsN F fun _ _ _ _ _ _ us hl => match us, hl with | [_], _ => rfl⟩
theorem mdok {K : PySem.W.Frag} {h : Heap} {mg : Str → Option Value} {w : World} (X : K.In h) (G : h.Ns mainGlobals mg) (C : Py.SaysC fal fnl cons w K) : MdOk md K mg w :=
  have c := C.d
  mdOk (all_cons (fr_is_whole X G c) (all_cons (fr_fits_whole X G c) (all_cons (fr_is_tuple_of X G c) (all_cons (fr_is_rising X G c) (all_cons (fr_fits_place X G c) (all_cons (fr_fits_square X G c) (all_cons (fr_fits_figure X G c) (all_cons (fr_need_place X G c) (all_cons (fr_need_figure X G c) (all_cons (fr_kinds_in X G c) (all_cons (fr_figure_of X G c) (all_cons (fr_area_in X G c) (all_cons (fr_stepped X G c) (all_cons (fr_joined_to X G c) (all_cons (fr_parts_in X G c) (all_cons (fr_slant_of X G c) (all_cons (fr_side_of X G c) (all_cons (fr_border_in X G c) (all_cons (fr_area_of X G c) (all_cons (fr_figure_parts X G c) (all_cons (fr_hangs_together X G c) (all_cons (fr_joined_squares X G c) (all_cons (fr_border_length X G c) (all_cons (fr__law_cup X G c) (all_cons (fr__law_roll X G c) (all_cons (fr__law_some X G c) (all_cons (fr__law_same X G c) (all_cons (fr__law_sides X G c) (all_cons (fr__law_figure X G c) (all_cons (fr__law_beyond X G c) (all_cons (fr__law_near X G c) (all_cons (fr__law_grown X G c) (all_cons (fr__law_parts X G c) (all_cons (fr_law X G c) (all_nil)))))))))))))))))))))))))))))))))))
    (co_all X G C.v C.h)
    (all_cons (He.free_ok X G (c.fact 34 (f := .free "len") rfl)) (all_cons (He.free_ok X G (c.fact 35 (f := .free "abs") rfl)) (all_cons (He.free_ok X G (c.fact 36 (f := .free "int") rfl)) (all_cons (He.free_ok X G (c.fact 37 (f := .free "tuple") rfl)) (all_cons (He.free_ok X G (c.fact 38 (f := .free "list") rfl)) (all_cons (He.free_ok X G (c.fact 39 (f := .free "sorted") rfl)) (all_cons (He.free_ok X G (c.fact 40 (f := .free "dict") rfl)) (all_cons (He.free_ok X G (c.fact 41 (f := .free "sum") rfl)) (all_cons (He.free_ok X G (c.fact 42 (f := .free "all") rfl)) (all_cons (He.free_ok X G (c.fact 43 (f := .free "isinstance") rfl)) (all_cons (He.free_ok X G (c.fact 44 (f := .free "range") rfl)) (all_cons (He.free_ok X G (c.fact 45 (f := .free "zip") rfl)) (all_cons (He.free_ok X G (c.fact 46 (f := .free "bool") rfl)) (all_cons (He.free_ok X G (c.fact 47 (f := .free "str") rfl)) (all_nil)))))))))))))))
end K02
end

section
set_option maxRecDepth 100000
namespace K02
open Py PySem
def f_is_whole : Fn := { name := "is_whole", nargs := 1, nslots := 1, fresh := false, body := [(.ret (.and (.op (.isi .int) [(.bor 0)]) (.not (.op (.isi .bool) [(.bor 0)]))))] }
def f_fits_whole : Fn := { name := "fits_whole", nargs := 3, nslots := 3, fresh := false, body := [(.ret (.and (.call 0 [(.var 0)]) (.chain .LtE .LtE (.var 1) (.var 0) (.var 2))))] }
def f_is_tuple_of : Fn := { name := "is_tuple_of", nargs := 3, nslots := 3, fresh := false, body := [(.ret (.and (.op (.isi .tuple) [(.bor 0)]) (.chain .LtE .LtE (.var 1) (.op (.bif .len) [(.bor 0)]) (.var 2))))] }
def f_is_rising : Fn := { name := "is_rising", nargs := 1, nslots := 3, fresh := false, body := [(.ret (.op (.bif .all) [(.lc [1, 2] (.tup [(.nm 1), (.nm 2)]) (.itr .zip [(.var 0), (.op (.slc true false) [(.bor 0), (.lit (.int 1))])]) (.lit (.bl true)) (.op (.cmp .Lt) [(.bor 1), (.bor 2)]))]))] }
def f_fits_place : Fn := { name := "fits_place", nargs := 1, nslots := 2, fresh := false, body := [(.ret (.and (.call 2 [(.var 0), (.lit (.int 2)), (.lit (.int 2))]) (.op (.bif .all) [(.lc [1] (.nm 1) (.var 0) (.lit (.bl true)) (.call 1 [(.var 1), (.op .neg [(.con "FAR" (.int 50))]), (.con "FAR" (.int 50))]))])))] }
def f_fits_square : Fn := { name := "fits_square", nargs := 1, nslots := 1, fresh := false, body := [(.ite (.or (.not (.call 2 [(.var 0), (.lit (.int 3)), (.lit (.int 3))])) (.not (.call 4 [(.op (.slc false true) [(.bor 0), (.lit (.int 2))])]))) [(.ret (.lit (.bl false)))] []),
  (.ret (.call 1 [(.op .idx [(.bor 0), (.lit (.int 2))]), (.lit (.int 1)), (.con "WHOLE" (.int 5))]))] }
def f_fits_figure : Fn := { name := "fits_figure", nargs := 1, nslots := 2, fresh := false, body := [(.ite (.or (.not (.call 2 [(.var 0), (.lit (.int 0)), (.con "MANY" (.int 60))])) (.not (.op (.bif .all) [(.lc [1] (.nm 1) (.var 0) (.lit (.bl true)) (.call 5 [(.var 1)]))]))) [(.ret (.lit (.bl false)))] []),
  (.ret (.call 3 [(.lc [1] (.nm 1) (.var 0) (.lit (.bl true)) (.op (.slc false true) [(.bor 1), (.lit (.int 2))]))]))] }
def f_need_place : Fn := { name := "need_place", nargs := 1, nslots := 1, fresh := false, body := [(.ite (.not (.call 4 [(.var 0)])) [(.expr (.op .sub []))] [])] }
def f_need_figure : Fn := { name := "need_figure", nargs := 1, nslots := 1, fresh := false, body := [(.ite (.not (.call 6 [(.var 0)])) [(.expr (.op .sub []))] [])] }
def f_kinds_in : Fn := { name := "kinds_in", nargs := 1, nslots := 2, fresh := false, body := [(.ret (.dc [1] (.nm 1) (.var 0) (.lit (.bl true)) (.op (.slc false true) [(.bor 1), (.lit (.int 2))]) (.op .idx [(.bor 1), (.lit (.int 2))])))] }
def f_figure_of : Fn := { name := "figure_of", nargs := 1, nslots := 2, fresh := false, body := [(.ret (.op (.bif .tuple) [(.lc [1] (.nm 1) (.op (.bif .sorted) [(.bor 0)]) (.lit (.bl true)) (.op .add [(.bor 1), (.op .tup [(.op .idx [(.bor 0), (.bor 1)])])]))]))] }
def f_area_in : Fn := { name := "area_in", nargs := 1, nslots := 2, fresh := false, body := [(.ret (.op (.bif .sum) [(.lc [1] (.nm 1) (.var 0) (.lit (.bl true)) (.ite (.op (.cmp .Eq) [(.op .idx [(.bor 1), (.lit (.int 2))]), (.con "WHOLE" (.int 5))]) (.lit (.int 2)) (.lit (.int 1))))]))] }
def f_stepped : Fn := { name := "stepped", nargs := 2, nslots := 2, fresh := false, body := [(.ret (.op .tup [(.op .add [(.op .idx [(.bor 0), (.lit (.int 0))]), (.op .idx [(.op .idx [(.con "STEPS" (.tup [.tup [.int 0, .int (-1)], .tup [.int 1, .int 0], .tup [.int 0, .int 1], .tup [.int (-1), .int 0]])), (.bor 1)]), (.lit (.int 0))])]), (.op .add [(.op .idx [(.bor 0), (.lit (.int 1))]), (.op .idx [(.op .idx [(.con "STEPS" (.tup [.tup [.int 0, .int (-1)], .tup [.int 1, .int 0], .tup [.int 0, .int 1], .tup [.int (-1), .int 0]])), (.bor 1)]), (.lit (.int 1))])])]))] }
def f_joined_to : Fn := { name := "joined_to", nargs := 2, nslots := 5, fresh := false, body := [(.asgo 2 (.op .lst [])),
  (.for (.nm 3) (.op .idx [(.con "SIDES" (.dct [(.int 1, .tup [.int 0, .int 3]), (.int 2, .tup [.int 0, .int 1]), (.int 3, .tup [.int 1, .int 2]), (.int 4, .tup [.int 2, .int 3]), (.int 5, .tup [.int 0, .int 1, .int 2, .int 3])])), (.op .idx [(.bor 0), (.bor 1)])]) [(.asg (.nm 4) (.call 12 [(.var 1), (.var 3)])),
  (.ite (.and (.op (.cmp .In) [(.bor 4), (.bor 0)]) (.op (.cmp .In) [(.op .mod [(.op .add [(.bor 3), (.lit (.int 2))]), (.lit (.int 4))]), (.op .idx [(.con "SIDES" (.dct [(.int 1, .tup [.int 0, .int 3]), (.int 2, .tup [.int 0, .int 1]), (.int 3, .tup [.int 1, .int 2]), (.int 4, .tup [.int 2, .int 3]), (.int 5, .tup [.int 0, .int 1, .int 2, .int 3])])), (.op .idx [(.bor 0), (.bor 4)])])])) [(.app 2 (.var 4))] [])]),
  (.ret (.var 2))] }
def f_parts_in : Fn := { name := "parts_in", nargs := 1, nslots := 10, fresh := false, body := [(.asgs [(1, false), (2, false), (3, true)] [(.call 9 [(.var 0)]), (.lc [7] (.nm 7) (.var 0) (.lit (.bl true)) (.op (.slc false true) [(.bor 7), (.lit (.int 2))])), (.op .lst [])]),
  (.while (.op (.cmp .NotEq) [(.bor 2), (.op .lst [])]) [(.asgs [(4, false), (5, true)] [(.op .lst [(.op .idx [(.bor 2), (.lit (.int 0))])]), (.op .lst [(.op .idx [(.bor 2), (.lit (.int 0))])])]),
  (.while (.op (.cmp .NotEq) [(.bor 5), (.op .lst [])]) [(.asg (.nm 6) (.lc [9] (.nm 9) (.call 13 [(.var 1), (.pop 5)]) (.op (.cmp .NotIn) [(.bor 9), (.bor 4)]) (.var 9))),
  (.asgs [(4, false), (5, true)] [(.op .add [(.bor 4), (.bor 6)]), (.op .cat [(.bor 5), (.bor 6)])])]),
  (.asg (.nm 2) (.lc [8] (.nm 8) (.var 2) (.op (.cmp .NotIn) [(.bor 8), (.bor 4)]) (.var 8))),
  (.app 3 (.call 10 [(.dc [8] (.nm 8) (.var 4) (.lit (.bl true)) (.var 8) (.op .idx [(.bor 1), (.bor 8)]))]))]),
  (.ret (.var 3))] }
def f_slant_of : Fn := { name := "slant_of", nargs := 1, nslots := 4, fresh := false, body := [(.asg (.tup [(.nm 1), (.nm 2), (.nm 3)]) (.var 0)),
  (.ite (.op (.cmp .In) [(.bor 3), (.op .tup [(.lit (.int 1)), (.lit (.int 3))])]) [(.ret (.op .tup [(.op .tup [(.var 1), (.op .add [(.bor 2), (.lit (.int 1))])]), (.op .tup [(.op .add [(.bor 1), (.lit (.int 1))]), (.var 2)])]))] []),
  (.ret (.op .tup [(.op .tup [(.var 1), (.var 2)]), (.op .tup [(.op .add [(.bor 1), (.lit (.int 1))]), (.op .add [(.bor 2), (.lit (.int 1))])])]))] }
def f_side_of : Fn := { name := "side_of", nargs := 2, nslots := 4, fresh := false, body := [(.asg (.tup [(.nm 2), (.nm 3)]) (.var 0)),
  (.ite (.op (.cmp .In) [(.bor 1), (.op .tup [(.lit (.int 0)), (.lit (.int 2))])]) [(.ret (.op .tup [(.op .tup [(.var 2), (.op .add [(.bor 3), (.op .fdiv [(.bor 1), (.lit (.int 2))])])]), (.op .tup [(.op .add [(.bor 2), (.lit (.int 1))]), (.op .add [(.bor 3), (.op .fdiv [(.bor 1), (.lit (.int 2))])])])]))] []),
  (.ret (.op .tup [(.op .tup [(.op .add [(.bor 2), (.ite (.op (.cmp .Eq) [(.bor 1), (.lit (.int 1))]) (.lit (.int 1)) (.lit (.int 0)))]), (.var 3)]), (.op .tup [(.op .add [(.bor 2), (.ite (.op (.cmp .Eq) [(.bor 1), (.lit (.int 1))]) (.lit (.int 1)) (.lit (.int 0)))]), (.op .add [(.bor 3), (.lit (.int 1))])])]))] }
def f_border_in : Fn := { name := "border_in", nargs := 1, nslots := 6, fresh := false, body := [(.asgo 1 (.op .dct [])),
  (.for (.nm 2) (.var 0) [(.for (.nm 4) (.op .idx [(.con "SIDES" (.dct [(.int 1, .tup [.int 0, .int 3]), (.int 2, .tup [.int 0, .int 1]), (.int 3, .tup [.int 1, .int 2]), (.int 4, .tup [.int 2, .int 3]), (.int 5, .tup [.int 0, .int 1, .int 2, .int 3])])), (.op .idx [(.bor 2), (.lit (.int 2))])]) [(.asg (.nm 5) (.call 16 [(.op (.slc false true) [(.bor 2), (.lit (.int 2))]), (.var 4)])),
  (.setx 1 (.var 5) (.op .add [(.meth .get2 (.bor 1) [(.var 5), (.lit (.int 0))]), (.lit (.int 1))]))])]),
  (.asg (.nm 3) (.lc [2] (.nm 2) (.var 0) (.op (.cmp .NotEq) [(.op .idx [(.bor 2), (.lit (.int 2))]), (.con "WHOLE" (.int 5))]) (.call 15 [(.var 2)]))),
  (.ret (.op (.bif .sorted) [(.op .add [(.lc [5] (.nm 5) (.var 1) (.op (.cmp .Eq) [(.op .idx [(.bor 1), (.bor 5)]), (.lit (.int 1))]) (.var 5)), (.bor 3)])]))] }
def f_area_of : Fn := { name := "area_of", nargs := 1, nslots := 1, fresh := false, body := [(.expr (.call 8 [(.var 0)])),
  (.ret (.call 11 [(.var 0)]))] }
def f_figure_parts : Fn := { name := "figure_parts", nargs := 1, nslots := 1, fresh := false, body := [(.expr (.call 8 [(.var 0)])),
  (.ret (.op (.bif .tuple) [(.call 14 [(.var 0)])]))] }
def f_hangs_together : Fn := { name := "hangs_together", nargs := 1, nslots := 1, fresh := false, body := [(.expr (.call 8 [(.var 0)])),
  (.ret (.op (.cmp .Lt) [(.op (.bif .len) [(.call 14 [(.var 0)])]), (.lit (.int 2))]))] }
def f_joined_squares : Fn := { name := "joined_squares", nargs := 2, nslots := 3, fresh := false, body := [(.expr (.call 8 [(.var 0)])),
  (.expr (.call 7 [(.var 1)])),
  (.asg (.nm 2) (.call 9 [(.var 0)])),
  (.ite (.op (.cmp .NotIn) [(.bor 1), (.bor 2)]) [(.expr (.op .sub []))] []),
  (.ret (.op (.bif .tuple) [(.op (.bif .sorted) [(.call 13 [(.var 2), (.var 1)])])]))] }
def f_border_length : Fn := { name := "border_length", nargs := 1, nslots := 5, fresh := false, body := [(.expr (.call 8 [(.var 0)])),
  (.asg (.nm 1) (.call 17 [(.var 0)])),
  (.asg (.nm 2) (.op (.bif .len) [(.lc [3, 4] (.tup [(.nm 3), (.nm 4)]) (.var 1) (.or (.op (.cmp .Eq) [(.op .idx [(.bor 3), (.lit (.int 0))]), (.op .idx [(.bor 4), (.lit (.int 0))])]) (.op (.cmp .Eq) [(.op .idx [(.bor 3), (.lit (.int 1))]), (.op .idx [(.bor 4), (.lit (.int 1))])])) (.lit (.int 1)))])),
  (.ret (.op .tup [(.var 2), (.op .sub [(.op (.bif .len) [(.bor 1)]), (.bor 2)])]))] }
def f__law_cup : Fn := { name := "_law_cup", nargs := 1, nslots := 2, fresh := false, body := [(.asg (.nm 1) (.op (.bif .abs) [(.op .idx [(.op .add [(.op (.bif .list) [(.bor 0)]), (.op .lst [(.lit (.int 0))])]), (.lit (.int 0))])])),
  (.ret (.newcup (.ite (.op (.cmp .GtE) [(.bor 1), (.op .pow [(.lit (.int 10)), (.lit (.int 18))])]) (.op .fdiv [(.bor 1), (.lit (.int 107))]) (.lit (.int 0))) (.op .add [(.op .mod [(.op (.bif .int) [(.op .add [(.op .mul [(.bor 1), (.lit (.int 317))]), (.lit (.int 4007))])]), (.lit (.int 2077502471))]), (.lit (.int 227))])))] }
def f__law_roll : Fn := { name := "_law_roll", nargs := 2, nslots := 4, fresh := false, body := [(.ite (.op (.cmp .Gt) [(.op .idx [(.bor 0), (.lit (.int 0))]), (.lit (.int 0))]) [(.asg (.nm 3) (.op .mod [(.op (.bif .int) [(.op .idx [(.bor 0), (.lit (.int 0))])]), (.bor 1)])),
  (.setx 0 (.lit (.int 0)) (.op .fdiv [(.op .idx [(.bor 0), (.lit (.int 0))]), (.bor 1)])),
  (.ret (.var 3))] []),
  (.setx 0 (.lit (.int 1)) (.op .mod [(.op (.bif .int) [(.op .add [(.op .mul [(.op .idx [(.bor 0), (.lit (.int 1))]), (.lit (.int 31033))]), (.lit (.int 8017))])]), (.lit (.int 2147483579))])),
  (.asg (.nm 2) (.op .mod [(.op (.bif .int) [(.op .mul [(.op .idx [(.bor 0), (.lit (.int 1))]), (.op .add [(.op .idx [(.bor 0), (.lit (.int 1))]), (.lit (.int 307))])])]), (.lit (.int 2147483059))])),
  (.ret (.op .mod [(.op (.bif .int) [(.op .fdiv [(.bor 2), (.lit (.int 823))])]), (.bor 1)]))] }
def f__law_some : Fn := { name := "_law_some", nargs := 2, nslots := 2, fresh := false, body := [(.ret (.op .idx [(.bor 1), (.call 24 [(.var 0), (.op (.bif .len) [(.bor 1)])])]))] }
def f__law_same : Fn := { name := "_law_same", nargs := 2, nslots := 3, fresh := false, body := [(.ite (.op (.isi .tuple) [(.bor 1)]) [(.ite (.or (.not (.op (.isi .tuple) [(.bor 0)])) (.op (.cmp .NotEq) [(.op (.bif .len) [(.bor 0)]), (.op (.bif .len) [(.bor 1)])])) [(.ret (.lit (.bl false)))] []),
  (.ret (.op (.bif .all) [(.lc [2] (.nm 2) (.itr .range1 [(.op (.bif .len) [(.bor 1)])]) (.lit (.bl true)) (.call 26 [(.op .idx [(.bor 0), (.bor 2)]), (.op .idx [(.bor 1), (.bor 2)])]))]))] []),
  (.ite (.op (.cmp .Is) [(.bor 1), (.lit (.non))]) [(.ret (.op (.cmp .Is) [(.bor 0), (.lit (.non))]))] []),
  (.ite (.op (.isi .bool) [(.bor 1)]) [(.ret (.ite (.var 1) (.op (.cmp .Is) [(.bor 0), (.lit (.bl true))]) (.op (.cmp .Is) [(.bor 0), (.lit (.bl false))])))] []),
  (.ite (.op (.isi .int) [(.bor 1)]) [(.ret (.and (.op (.isi .int) [(.bor 0)]) (.and (.not (.op (.isi .bool) [(.bor 0)])) (.op (.cmp .Eq) [(.op (.bif .int) [(.bor 0)]), (.bor 1)]))))] []),
  (.ret (.and (.op (.isi .str) [(.bor 0)]) (.op (.cmp .Eq) [(.op .sub []), (.bor 1)])))] }
def f__law_sides : Fn := { name := "_law_sides", nargs := 1, nslots := 1, fresh := false, body := [(.ret (.op .idx [(.op .lst [(.op .lst []), (.op .lst [(.lit (.int 0)), (.lit (.int 3))]), (.op .lst [(.lit (.int 0)), (.lit (.int 1))]), (.op .lst [(.lit (.int 1)), (.lit (.int 2))]), (.op .lst [(.lit (.int 2)), (.lit (.int 3))]), (.op .lst [(.lit (.int 0)), (.lit (.int 1)), (.lit (.int 2)), (.lit (.int 3))])]), (.bor 0)]))] }
def f__law_figure : Fn := { name := "_law_figure", nargs := 3, nslots := 6, fresh := false, body := [(.asgo 3 (.op .dct [])),
  (.for (.nm 4) (.itr .range1 [(.call 24 [(.var 0), (.op .add [(.bor 1), (.lit (.int 1))])])]) [(.setx 3 (.op .tup [(.call 24 [(.var 0), (.var 2)]), (.call 24 [(.var 0), (.var 2)])]) (.op .add [(.lit (.int 1)), (.call 24 [(.var 0), (.lit (.int 5))])]))]),
  (.ret (.op (.bif .tuple) [(.lc [5] (.nm 5) (.op (.bif .sorted) [(.bor 3)]) (.lit (.bl true)) (.op .add [(.bor 5), (.op .tup [(.op .idx [(.bor 3), (.bor 5)])])]))]))] }
def f__law_beyond : Fn := { name := "_law_beyond", nargs := 2, nslots := 4, fresh := false, body := [(.asg (.tup [(.nm 2), (.nm 3)]) (.op .idx [(.op .lst [(.op .tup [(.lit (.int 0)), (.op .neg [(.lit (.int 1))])]), (.op .tup [(.lit (.int 1)), (.lit (.int 0))]), (.op .tup [(.lit (.int 0)), (.lit (.int 1))]), (.op .tup [(.op .neg [(.lit (.int 1))]), (.lit (.int 0))])]), (.bor 1)])),
  (.ret (.op .tup [(.op .add [(.op .idx [(.bor 0), (.lit (.int 0))]), (.bor 2)]), (.op .add [(.op .idx [(.bor 0), (.lit (.int 1))]), (.bor 3)])]))] }
def f__law_near : Fn := { name := "_law_near", nargs := 2, nslots := 5, fresh := false, body := [(.asg (.nm 2) (.op .lst [])),
  (.for (.nm 3) (.call 27 [(.op .idx [(.bor 0), (.bor 1)])]) [(.asg (.nm 4) (.call 29 [(.var 1), (.var 3)])),
  (.asg (.nm 2) (.op .add [(.bor 2), (.ite (.and (.op (.cmp .In) [(.bor 4), (.bor 0)]) (.op (.cmp .In) [(.op .mod [(.op .add [(.bor 3), (.lit (.int 2))]), (.lit (.int 4))]), (.call 27 [(.op .idx [(.bor 0), (.bor 4)])])])) (.op .lst [(.var 4)]) (.op .lst []))]))]),
  (.ret (.var 2))] }
def f__law_grown : Fn := { name := "_law_grown", nargs := 2, nslots := 9, fresh := false, body := [(.asgo 2 (.op .dct [(.op .tup [(.lit (.int 0)), (.lit (.int 0))]), (.call 25 [(.var 0), (.op .lst [(.lit (.int 1)), (.lit (.int 2)), (.lit (.int 3)), (.lit (.int 4)), (.lit (.int 5)), (.lit (.int 5))])])])),
  (.for (.nm 3) (.itr .range1 [(.call 24 [(.var 0), (.var 1)])]) [(.asg (.nm 4) (.op .lst [])),
  (.for (.nm 5) (.op (.bif .sorted) [(.bor 2)]) [(.for (.nm 6) (.call 27 [(.op .idx [(.bor 2), (.bor 5)])]) [(.asg (.nm 7) (.call 29 [(.var 5), (.var 6)])),
  (.asg (.nm 4) (.op .add [(.bor 4), (.ite (.op (.cmp .NotIn) [(.bor 7), (.bor 2)]) (.op .lst [(.op .tup [(.var 7), (.var 6)])]) (.op .lst []))]))])]),
  (.ite (.op (.cmp .NotEq) [(.bor 4), (.op .lst [])]) [(.asg (.tup [(.nm 7), (.nm 6)]) (.call 25 [(.var 0), (.var 4)])),
  (.setx 2 (.var 7) (.call 25 [(.var 0), (.lc [8] (.nm 8) (.op .tup [(.lit (.int 1)), (.lit (.int 2)), (.lit (.int 3)), (.lit (.int 4)), (.lit (.int 5))]) (.op (.cmp .In) [(.op .mod [(.op .add [(.bor 6), (.lit (.int 2))]), (.lit (.int 4))]), (.call 27 [(.var 8)])]) (.var 8))]))] [])]),
  (.ret (.op (.bif .tuple) [(.lc [5] (.nm 5) (.op (.bif .sorted) [(.bor 2)]) (.lit (.bl true)) (.op .add [(.bor 5), (.op .tup [(.op .idx [(.bor 2), (.bor 5)])])]))]))] }
def f__law_parts : Fn := { name := "_law_parts", nargs := 1, nslots := 10, fresh := false, body := [(.asgs [(2, false), (3, true)] [(.op (.bif .dict) [(.lc [8] (.nm 8) (.var 0) (.lit (.bl true)) (.op .tup [(.op (.slc false true) [(.bor 8), (.lit (.int 2))]), (.op .idx [(.bor 8), (.lit (.int 2))])]))]), (.op .lst [])]),
  (.asg (.nm 1) (.op (.bif .sorted) [(.bor 2)])),
  (.while (.op (.cmp .NotEq) [(.bor 1), (.op .lst [])]) [(.asg (.tup [(.nm 4), (.nm 5)]) (.op .tup [(.op .lst [(.op .idx [(.bor 1), (.lit (.int 0))])]), (.op .lst [(.op .idx [(.bor 1), (.lit (.int 0))])])])),
  (.while (.op (.cmp .NotEq) [(.bor 5), (.op .lst [])]) [(.asg (.nm 6) (.lc [9] (.nm 9) (.call 30 [(.var 2), (.op .idx [(.bor 5), (.lit (.int 0))])]) (.op (.cmp .NotIn) [(.bor 9), (.bor 4)]) (.var 9))),
  (.asg (.tup [(.nm 4), (.nm 5)]) (.op .tup [(.op .add [(.bor 4), (.bor 6)]), (.op .add [(.op (.slc true false) [(.bor 5), (.lit (.int 1))]), (.bor 6)])]))]),
  (.asg (.nm 1) (.lc [7] (.nm 7) (.var 1) (.op (.cmp .NotIn) [(.bor 7), (.bor 4)]) (.var 7))),
  (.app 3 (.op (.bif .tuple) [(.lc [7] (.nm 7) (.op (.bif .sorted) [(.bor 4)]) (.lit (.bl true)) (.op .add [(.bor 7), (.op .tup [(.op .idx [(.bor 2), (.bor 7)])])]))]))]),
  (.ret (.op (.bif .sorted) [(.bor 3)]))] }
def f_law : Fn := { name := "law", nargs := 1, nslots := 16, fresh := false, body := [(.asg (.nm 1) (.call 23 [(.var 0)])),
  (.for (.nm 2) (.itr .range1 [(.lit (.int 6))]) [(.asg (.nm 4) (.call 25 [(.var 1), (.op .lst [(.call 28 [(.var 1), (.lit (.int 14)), (.lit (.int 4))]), (.call 31 [(.var 1), (.lit (.int 10))]), (.call 28 [(.var 1), (.lit (.int 30)), (.lit (.int 6))])])])),
  (.asg (.nm 5) (.op (.bif .dict) [(.lc [14] (.nm 14) (.var 4) (.lit (.bl true)) (.op .tup [(.op (.slc false true) [(.bor 14), (.lit (.int 2))]), (.op .idx [(.bor 14), (.lit (.int 2))])]))])),
  (.asg (.nm 6) (.call 32 [(.var 4)])),
  (.ite (.not (.call 26 [(.op .tup [(.call 19 [(.var 4)]), (.call 20 [(.var 4)])]), (.op .tup [(.op (.bif .tuple) [(.bor 6)]), (.op (.cmp .Lt) [(.op (.bif .len) [(.bor 6)]), (.lit (.int 2))])])])) [(.ret (.lit (.bl false)))] []),
  (.asg (.nm 7) (.lit (.int 0))),
  (.for (.nm 8) (.var 5) [(.asg (.nm 12) (.op (.bif .tuple) [(.op (.bif .sorted) [(.call 30 [(.var 5), (.var 8)])])])),
  (.asg (.nm 7) (.op .add [(.bor 7), (.op (.bif .len) [(.bor 12)])])),
  (.ite (.not (.call 26 [(.call 21 [(.var 4), (.var 8)]), (.var 12)])) [(.ret (.lit (.bl false)))] [])]),
  (.ite (.op (.cmp .NotEq) [(.op (.bif .sum) [(.lc [13] (.nm 13) (.var 6) (.lit (.bl true)) (.call 18 [(.var 13)]))]), (.call 18 [(.var 4)])]) [(.ret (.lit (.bl false)))] []),
  (.asg (.nm 9) (.lc [13] (.nm 13) (.var 6) (.lit (.bl true)) (.call 22 [(.var 13)]))),
  (.ite (.not (.call 26 [(.call 22 [(.var 4)]), (.op .tup [(.op (.bif .sum) [(.lc [15] (.nm 15) (.var 9) (.lit (.bl true)) (.op .idx [(.bor 15), (.lit (.int 0))]))]), (.op (.bif .sum) [(.lc [15] (.nm 15) (.var 9) (.lit (.bl true)) (.op .idx [(.bor 15), (.lit (.int 1))]))])])])) [(.ret (.lit (.bl false)))] []),
  (.ite (.op (.cmp .NotEq) [(.op .add [(.bor 7), (.op .idx [(.call 22 [(.var 4)]), (.lit (.int 0))])]), (.op (.bif .sum) [(.lc [8] (.nm 8) (.var 5) (.lit (.bl true)) (.op (.bif .len) [(.call 27 [(.op .idx [(.bor 5), (.bor 8)])])]))])]) [(.ret (.lit (.bl false)))] []),
  (.asg (.nm 10) (.call 31 [(.var 1), (.lit (.int 12))])),
  (.ite (.or (.op (.cmp .IsNot) [(.call 20 [(.var 10)]), (.lit (.bl true))]) (.not (.call 26 [(.call 19 [(.var 10)]), (.op .tup [(.var 10)])]))) [(.ret (.lit (.bl false)))] [])]),
  (.for (.nm 3) (.itr .range2 [(.lit (.int 1)), (.lit (.int 6))]) [(.for (.nm 11) (.itr .range2 [(.lit (.int 1)), (.lit (.int 6))]) [(.asg (.nm 4) (.op .tup [(.op .tup [(.lit (.int 0)), (.lit (.int 0)), (.var 3)]), (.op .tup [(.lit (.int 1)), (.lit (.int 0)), (.var 11)])])),
  (.ite (.op (.cmp .NotEq) [(.call 20 [(.var 4)]), (.and (.op (.cmp .In) [(.lit (.int 1)), (.call 27 [(.var 3)])]) (.op (.cmp .In) [(.lit (.int 3)), (.call 27 [(.var 11)])]))]) [(.ret (.lit (.bl false)))] []),
  (.asg (.nm 4) (.op .tup [(.op .tup [(.lit (.int 0)), (.lit (.int 0)), (.var 3)]), (.op .tup [(.lit (.int 0)), (.lit (.int 1)), (.var 11)])])),
  (.ite (.op (.cmp .NotEq) [(.call 20 [(.var 4)]), (.and (.op (.cmp .In) [(.lit (.int 2)), (.call 27 [(.var 3)])]) (.op (.cmp .In) [(.lit (.int 0)), (.call 27 [(.var 11)])]))]) [(.ret (.lit (.bl false)))] [])])]),
  (.ret (.call 26 [(.op .tup [(.call 19 [(.op .tup [])]), (.call 20 [(.op .tup [])]), (.call 20 [(.op .tup [(.op .tup [(.lit (.int 0)), (.lit (.int 0)), (.lit (.int 5))]), (.op .tup [(.lit (.int 1)), (.lit (.int 1)), (.lit (.int 5))])])])]), (.op .tup [(.op .tup []), (.lit (.bl true)), (.lit (.bl false))])]))] }
def Fs : List Fn := [f_is_whole, f_fits_whole, f_is_tuple_of, f_is_rising, f_fits_place, f_fits_square, f_fits_figure, f_need_place, f_need_figure, f_kinds_in, f_figure_of, f_area_in, f_stepped, f_joined_to, f_parts_in, f_slant_of, f_side_of, f_border_in, f_area_of, f_figure_parts, f_hangs_together, f_joined_squares, f_border_length, f__law_cup, f__law_roll, f__law_some, f__law_same, f__law_sides, f__law_figure, f__law_beyond, f__law_near, f__law_grown, f__law_parts, f_law]
theorem fns_eq : md.fns = Fs := by kernel_rfl
end K02
end

section
set_option linter.all false
set_option maxRecDepth 100000
namespace K02
open Py
variable {d : Nat} {cup c : Option (Int × Int)} {ts : List (Int × Int × Int)}
theorem hF : FigF Fs := ⟨rfl, rfl, rfl, rfl, rfl, rfl, rfl⟩
theorem hS : SameF Fs 26 := ⟨_, rfl, rfl, rfl, rfl⟩
theorem roll_ok : RollOk Fs 24 := fun d many c hm hc => roll_run (f := f__law_roll) (c1 := 31033) (c2 := 8017) (c3 := 2147483579) (c4 := 307) (c5 := 2147483059) (c6 := 823) rfl rfl rfl rfl (by decide) (by decide) (by decide) (by decide) (by decide) (by decide) (by decide) hm hc
theorem sides_ok : SidesOk Fs 27 := ⟨_, rfl, rfl, rfl, rfl⟩
theorem bey_ok : BeyOk Fs 29 := ⟨_, rfl, rfl, rfl, rfl⟩
theorem fnNeed : FnIs Fs 8 1 1 needFigB := ⟨_, rfl, rfl, rfl, rfl⟩
theorem fnKinds : FnIs Fs 9 1 2 kindsB := ⟨_, rfl, rfl, rfl, rfl⟩
theorem fnFig : FnIs Fs 10 1 2 figOfB := ⟨_, rfl, rfl, rfl, rfl⟩
theorem fnStep : FnIs Fs 12 2 2 stepB := ⟨_, rfl, rfl, rfl, rfl⟩
theorem fnJoin : FnIs Fs 13 2 5 (joinB 12) := ⟨_, rfl, rfl, rfl, rfl⟩
theorem fnParts : FnIs Fs 14 1 10 (piB 9 13 10) := ⟨_, rfl, rfl, rfl, rfl⟩
theorem fnNear : FnIs Fs 30 2 5 (lnB 27 29) := ⟨_, rfl, rfl, rfl, rfl⟩
theorem fnLParts : FnIs Fs 32 1 10 (lpB 30) := ⟨_, rfl, rfl, rfl, rfl⟩
theorem fnLen : FnIs Fs 22 1 5 (blenB 8 17) := ⟨_, rfl, rfl, rfl, rfl⟩
theorem nf (h : Fig ts) : callN Fs (d + 6) 8 [TSq ts] cup = .ok (.non, cup) := need_fig hF fnNeed h
theorem t_in (h : Fig ts) : callN Fs (d + 3) 14 [TSq ts] cup = .ok (.lst ((partsT ts).map TSq), cup) := parts_in_run fnParts fnKinds fnJoin fnStep fnFig h
theorem t_area_of (h : Fig ts) : callN Fs (d + 7) 18 [TSq ts] cup = .ok (.int (areaOf ts), cup) :=
  fn_rt (f := f_area_of) (st1 := ⟨[.val (TSq ts)], cup⟩) rfl rfl ((sq_nx (xp_ok (ca_1 (va_ok rfl) (nf h)))).trans (sq_rt (rt_ok (ca_1 (va_ok rfl) (area_in_run (d := d + 5) ⟨_, rfl, rfl, rfl, rfl⟩ (by have := h.len; omega))))))
theorem t_parts (h : Fig ts) : callN Fs (d + 7) 19 [TSq ts] cup = .ok (.tup ((partsT ts).map TSq), cup) :=
  fn_rt (f := f_figure_parts) (st1 := ⟨[.val (TSq ts)], cup⟩) rfl rfl ((sq_nx (xp_ok (ca_1 (va_ok rfl) (nf h)))).trans (sq_rt (rt_ok (op1 rfl (ca_1 (va_ok rfl) (t_in (d := d + 3) h)) rfl))))
theorem t_hangs (h : Fig ts) : callN Fs (d + 7) 20 [TSq ts] cup = .ok (.bl (decide ((partsT ts).length < 2)), cup) := by
  have k := b_len_of (Φ := callN Fs (d + 6)) rfl (ca_1 (e := .var 0) (k := 14) (st := ⟨[.val (TSq ts)], cup⟩) (va_ok rfl) (t_in (d := d + 3) h))
  rw [List.length_map] at k
  exact fn_rt (f := f_hangs_together) (st1 := ⟨[.val (TSq ts)], cup⟩) rfl rfl ((sq_nx (xp_ok (ca_1 (va_ok rfl) (nf h)))).trans (sq_rt (rt_ok (op2 rfl rfl k (r_lit _) (by
    rw [o_cmp, c_lt]
    congr 2
    rw [decide_eq_decide]; omega)))))
theorem t_joined (h : Fig ts) {p : Int × Int} (hp : p ∈ plc ts) : callN Fs (d + 7) 21 [TSq ts, pr p] cup = .ok (.tup ((srtP (near (kindsOf ts) p)).map pr), cup) := by
  have hk : p ∈ (kindsOf ts).map (·.1) := by rw [h.keys]; exact hp
  have hr : (-50 ≤ p.1 ∧ p.1 ≤ 50) ∧ (-50 ≤ p.2 ∧ p.2 ≤ 50) := by
    obtain ⟨t, ht, rfl⟩ := List.mem_map.mp hp
    have := h.rng t ht
    exact ⟨this.1, this.2.1⟩
  have k1 : ev (callN Fs (d + 6)) (.call 9 [.var 0]) ⟨[.val (TSq ts), .val (pr p), .unk], cup⟩ = .ok (DP (kindsOf ts), ⟨[.val (TSq ts), .val (pr p), .unk], cup⟩) := ca_1 (va_ok rfl) (kinds_run (d := d + 5) fnKinds (by have := h.len; omega))
  have k2 : ev (callN Fs (d + 6)) (.op (.cmp .NotIn) [(.bor 1), (.bor 2)]) ⟨[.val (TSq ts), .val (pr p), .val (DP (kindsOf ts))], cup⟩ = .ok (.bl false, ⟨[.val (TSq ts), .val (pr p), .val (DP (kindsOf ts))], cup⟩) := op_bb rfl rfl (by
    rw [o_cmp]
    have e : cmpV .NotIn (pr p) (DP (kindsOf ts)) = .ok (.bl (!ahas (kindsOf ts) p)) := c_nin_D prK PV.int (kindsOf ts) p
    rw [e, ahas_iff.mpr hk]; rfl)
  have k3 : ev (callN Fs (d + 6)) (.call 13 [(.var 2), (.var 1)]) ⟨[.val (TSq ts), .val (pr p), .val (DP (kindsOf ts))], cup⟩ = .ok (.lst ((near (kindsOf ts) p).map pr), ⟨[.val (TSq ts), .val (pr p), .val (DP (kindsOf ts))], cup⟩) := ca_2 (va_ok rfl) (va_ok rfl) (joined_run (d := d + 4) fnJoin fnStep h.kdok hk)
  exact fn_rt (f := f_joined_squares) (st1 := ⟨[.val (TSq ts), .val (pr p), .val (DP (kindsOf ts))], cup⟩) rfl rfl ((sq_nx (xp_ok (ca_1 (va_ok rfl) (nf h)))).trans ((sq_nx (xp_ok (ca_1 (va_ok rfl) (need_place (d := d + 2) hF ⟨_, rfl, rfl, rfl, rfl⟩ hr)))).trans ((sq_nx (as_nm k1)).trans ((sq_nx (if_n k2)).trans (sq_rt (rt_ok (op1 rfl (op1 rfl k3 (b_sorted_l _)) rfl)))))))
theorem t_blen (h : Fig ts) : callN Fs (d + 7) 22 [TSq ts] cup = .ok (blenV ts, cup) := blen_run hF fnLen fnNeed (ka := 16) (kc := 15) ⟨_, rfl, rfl, rfl, rfl⟩ ⟨_, rfl, rfl, rfl, rfl⟩ ⟨_, rfl, rfl, rfl, rfl⟩ h
theorem t_lparts (h : Fig ts) : callN Fs (d + 3) 32 [TSq ts] cup = .ok (.lst ((partsT ts).map TSq), cup) := lparts_run fnLParts fnNear sides_ok bey_ok h
theorem t_lnear {l : List ((Int × Int) × Int)} (hl : KdOk l) {p : Int × Int} (hp : p ∈ l.map (·.1)) : callN Fs (d + 2) 30 [DP l, pr p] cup = .ok (.lst ((near l p).map pr), cup) := lnear_run fnNear sides_ok bey_ok hl hp
theorem some_ok {xs : List PV} (h0 : xs ≠ []) (hl : xs.length ≤ 1000000) (hc : CupO c) : ∃ x c', x ∈ xs ∧ CupO c' ∧ callN Fs (d + 2) 25 [.cup, .lst xs] c = .ok (x, c') := some_run (d := d) (f := f__law_some) (k := 25) rfl rfl rfl rfl roll_ok h0 hl hc
theorem t_figure (many : Nat) (size : Int) (hm : many ≤ 60) (hs : small size = true) (hs2 : size ≤ 51) (hc : CupO c) : ∃ ts c', Fig ts ∧ CupO c' ∧ callN Fs (d + 2) 28 [.cup, .int many, .int size] c = .ok (TSq ts, c') := by
  obtain ⟨ts, c', h, hc', e⟩ := fig_run (F := Fs) (k := 28) (d := d) (f := f__law_figure) (many := many) (size := size) rfl rfl rfl rfl roll_ok (by omega) hs hc
  exact ⟨ts, c', h.fig hs2 hm, hc', e⟩
theorem t_grown (many : Nat) (hm : 1 ≤ many) (hm2 : many ≤ 50) (hc : CupO c) : ∃ ts c', (Fig ts ∧ ∃ l, Grw l ∧ ts = sqs l) ∧ CupO c' ∧ callN Fs (d + 3) 31 [.cup, .int (many : Int)] c = .ok (TSq ts, c') := by
  obtain ⟨ts, c', ⟨h, l, h1, _, h2⟩, hc', e⟩ := grown_runN (F := Fs) (k := 31) (d := d) (f := f__law_grown) (fs := f__law_some) (ks := 25) (kr := 24) (kd := 27) (kb := 29) (many := many) rfl rfl rfl rfl rfl rfl rfl rfl roll_ok sides_ok bey_ok hm (by omega) hc
  exact ⟨ts, c', ⟨h.fig hm2, l, h1, h2⟩, hc', e⟩
end K02
end

section
set_option linter.all false
set_option maxRecDepth 100000
namespace K02
open Py
variable {ts : List (Int × Int × Int)} {l : List ((Int × Int) × Int)} {p q : Int × Int} {s : Int}
/-! ### a grown figure is one part -/
theorem kd0_sqs (hn : (l.map (·.1)).Nodup) (hf : (plc (sqs l)).Nodup) : kd0 (kindsOf (sqs l)) = kd0 l := by
  funext p
  by_cases h : p ∈ l.map (·.1)
  · exact kd0_of hf (t := (p.1, p.2, kd0 l p)) (List.mem_map.mpr ⟨p, (srtP_perm _).mem_iff.mpr h, rfl⟩)
  · rw [kd0_out hf (by rw [sqs_plc]; exact fun g => h ((srtP_perm _).mem_iff.mp g))]
    refine (kd0_none ?_).symm
    cases e : ahas l p with
    | false => rfl
    | true => exact absurd (ahas_iff.mp e) h
theorem near_sqs (hn : (l.map (·.1)).Nodup) (hf : (plc (sqs l)).Nodup) : near (kindsOf (sqs l)) = near l := by
  funext p
  have h := kd0_sqs hn hf
  unfold near adj
  rw [h]
theorem grown_one (hf : Fig ts) (hg : Grw l) (e : ts = sqs l) : partsT ts = [ts] := by
  subst e
  have hn := grw_nodup hg
  have hN := near_sqs hn hf.nodup
  have hc : ∀ p ∈ plc (sqs l), Rch (near (kindsOf (sqs l))) (0, 0) p := fun p hp => by
    rw [hN]
    rw [sqs_plc] at hp
    exact grw_hangs hg p ((srtP_perm _).mem_iff.mp hp)
  have hp : partsP (sqs l) = [plc (sqs l)] := by
    unfold partsP
    have hne : plc (sqs l) ≠ [] := by
      rw [sqs_plc]
      intro h
      have : (0, 0) ∈ srtP (l.map (·.1)) := (srtP_perm _).mem_iff.mpr (by
        clear h hc hN hn hf
        induction hg with
        | one k _ => simp
        | step l p k s j _ _ _ _ _ ih =>
          rw [aset_keys]
          split
          · exact ih
          · exact List.mem_append.mpr (.inl ih))
      rw [h] at this
      cases this
    cases hv : plc (sqs l) with
    | nil => exact absurd hv hne
    | cons a V =>
      rw [hv] at hc
      exact parts_one fun p hp => ((hc a List.mem_cons_self).symm near_symm).trans (hc p (List.mem_cons_of_mem _ hp))
  unfold partsT
  rw [hp]
  show [figF _ _] = _
  rw [figF_all hf.nodup]
/-! ### two squares -/
theorem two_parts {a b : Int} (hf : Fig [(p.1, p.2, a), (q.1, q.2, b)]) (hs : 0 ≤ s ∧ s ≤ 3) (hq : q = bey p s) : decide ((partsT [(p.1, p.2, a), (q.1, q.2, b)]).length < 2) = (decide (s ∈ sidesOf a) && decide ((s + 2) % 4 ∈ sidesOf b)) := by
  have hn := hf.nodup
  have ka : kd0 (kindsOf [(p.1, p.2, a), (q.1, q.2, b)]) p = a := kd0_of hn (t := (p.1, p.2, a)) (by simp)
  have kb : kd0 (kindsOf [(p.1, p.2, a), (q.1, q.2, b)]) q = b := kd0_of hn (t := (q.1, q.2, b)) (by simp)
  have hpl : plc [(p.1, p.2, a), (q.1, q.2, b)] = [p, q] := rfl
  have hne : p ≠ q := by
    rw [hpl] at hn
    exact fun e => (List.nodup_cons.mp hn).1 (by rw [e]; simp)
  have hlen : (partsT [(p.1, p.2, a), (q.1, q.2, b)]).length = (partsG (near (kindsOf [(p.1, p.2, a), (q.1, q.2, b)])) [p, q]).length := by unfold partsT partsP; rw [List.length_map, hpl]
  rw [hlen]
  by_cases h : s ∈ sidesOf a ∧ (s + 2) % 4 ∈ sidesOf b
  · rw [decide_eq_true h.1, decide_eq_true h.2]
    have hr : q ∈ near (kindsOf [(p.1, p.2, a), (q.1, q.2, b)]) p := near_iff.mpr ⟨s, by rw [ka]; exact h.1, by rw [kb]; exact h.2, hq⟩
    rw [parts_one (fun x hx => by rw [List.mem_singleton.mp hx]; exact Rch.step .refl hr)]
    rfl
  · have h2 := parts_two (nb := near (kindsOf [(p.1, p.2, a), (q.1, q.2, b)])) (a := p) (l := [q]) ⟨q, by simp, fun g => ?_⟩
    · rw [decide_eq_false (by omega)]
      symm
      rw [Bool.and_eq_false_iff, decide_eq_false_iff_not, decide_eq_false_iff_not]
      by_cases h1 : s ∈ sidesOf a
      · exact .inr fun h2 => h ⟨h1, h2⟩
      · exact .inl h1
    · refine hne (g.within (Q := fun x => x = p) rfl fun x y hx hy => ?_).symm
      subst hx
      have hy2 := near_plc hf x y hy
      rw [hpl] at hy2
      simp only [List.mem_cons, List.not_mem_nil, or_false] at hy2
      rcases hy2 with rfl | rfl
      · rfl
      · obtain ⟨u, h1, h2, h3⟩ := near_iff.mp hy
        rw [ka] at h1
        rw [kb] at h2
        have hu := sides_any h1
        have : u = s := bey_inj hu hs (by rw [← h3, hq])
        subst this
        exact absurd ⟨h1, h2⟩ h
theorem apart_two : (partsT [((0 : Int), (0 : Int), (5 : Int)), (1, 1, 5)]).length = 2 := by
  have hf : Fig [((0 : Int), (0 : Int), (5 : Int)), (1, 1, 5)] := ⟨by decide, fun t ht => by
    simp only [List.mem_cons, List.not_mem_nil, or_false] at ht
    rcases ht with rfl | rfl <;> decide, by decide⟩
  have hpl : plc [((0 : Int), (0 : Int), (5 : Int)), (1, 1, 5)] = [(0, 0), (1, 1)] := rfl
  have h2 := parts_two (nb := near (kindsOf [((0 : Int), (0 : Int), (5 : Int)), (1, 1, 5)])) (a := (0, 0)) (l := [(1, 1)]) ⟨(1, 1), by simp, fun g => by
    have := g.within (Q := fun x => x = (0, 0)) rfl fun x y hx hy => by
      subst hx
      have hy2 := near_plc hf _ y hy
      rw [hpl] at hy2
      simp only [List.mem_cons, List.not_mem_nil, or_false] at hy2
      rcases hy2 with rfl | rfl
      · rfl
      · obtain ⟨u, h1, h2, h3⟩ := near_iff.mp hy
        rcases sides4 (sides_any h1) with rfl | rfl | rfl | rfl <;> simp [bey] at h3
    simp at this⟩
  have h3 := parts_len (nb := near (kindsOf [((0 : Int), (0 : Int), (5 : Int)), (1, 1, 5)])) [(0, 0), (1, 1)]
  unfold partsT partsP
  rw [List.length_map, hpl]
  simp only [List.length_cons, List.length_nil] at h3
  omega
/-! ### sums -/
theorem cast_sum {α : Type} (f : α → Nat) : ∀ L : List α, (L.map fun x => ((f x : Nat) : Int)).sum = (((L.map f).sum : Nat) : Int)
  | [] => rfl
  | a :: L => by rw [List.map_cons, List.sum_cons, cast_sum f L, List.map_cons, List.sum_cons]; omega
theorem near_sum_fold (w : Int × Int → Nat) : ∀ (V : List (Int × Int)) (n : Int), V.foldl (fun n p => n + ((w p : Nat) : Int)) n = n + (((V.map w).sum : Nat) : Int)
  | [], n => by simp
  | p :: V, n => by rw [List.foldl_cons, near_sum_fold w V, List.map_cons, List.sum_cons]; omega
theorem sides_edges (hf : Fig ts) : ((plc ts).map fun p => (sidesOf (kd0 (kindsOf ts) p)).length).sum = (edges ts).length := by
  rw [← edges_kd (l := kindsOf ts), figF_all hf.nodup]
end K02
end

section
set_option linter.all false
set_option maxRecDepth 100000
namespace K02
open Py
variable {d : Nat} {ts : List (Int × Int × Int)} {c : Option (Int × Int)} {env : List Py.Slot}
def eFig : E := (.call 25 [(.var 1), (.op .lst [(.call 28 [(.var 1), (.lit (.int 14)), (.lit (.int 4))]), (.call 31 [(.var 1), (.lit (.int 10))]), (.call 28 [(.var 1), (.lit (.int 30)), (.lit (.int 6))])])])
def eKinds : E := (.op (.bif .dict) [(.lc [14] (.nm 14) (.var 4) (.lit (.bl true)) (.op .tup [(.op (.slc false true) [(.bor 14), (.lit (.int 2))]), (.op .idx [(.bor 14), (.lit (.int 2))])]))])
def eParts : E := (.call 32 [(.var 4)])
def eLens : E := (.lc [13] (.nm 13) (.var 6) (.lit (.bl true)) (.call 22 [(.var 13)]))
def eGrown : E := (.call 31 [(.var 1), (.lit (.int 12))])
def c3 : E := (.not (.call 26 [(.op .tup [(.call 19 [(.var 4)]), (.call 20 [(.var 4)])]), (.op .tup [(.op (.bif .tuple) [(.bor 6)]), (.op (.cmp .Lt) [(.op (.bif .len) [(.bor 6)]), (.lit (.int 2))])])]))
def c6 : E := (.op (.cmp .NotEq) [(.op (.bif .sum) [(.lc [13] (.nm 13) (.var 6) (.lit (.bl true)) (.call 18 [(.var 13)]))]), (.call 18 [(.var 4)])])
def c8 : E := (.not (.call 26 [(.call 22 [(.var 4)]), (.op .tup [(.op (.bif .sum) [(.lc [15] (.nm 15) (.var 9) (.lit (.bl true)) (.op .idx [(.bor 15), (.lit (.int 0))]))]), (.op (.bif .sum) [(.lc [15] (.nm 15) (.var 9) (.lit (.bl true)) (.op .idx [(.bor 15), (.lit (.int 1))]))])])]))
def c9 : E := (.op (.cmp .NotEq) [(.op .add [(.bor 7), (.op .idx [(.call 22 [(.var 4)]), (.lit (.int 0))])]), (.op (.bif .sum) [(.lc [8] (.nm 8) (.var 5) (.lit (.bl true)) (.op (.bif .len) [(.call 27 [(.op .idx [(.bor 5), (.bor 8)])])]))])])
def c11 : E := (.or (.op (.cmp .IsNot) [(.call 20 [(.var 10)]), (.lit (.bl true))]) (.not (.call 26 [(.call 19 [(.var 10)]), (.op .tup [(.var 10)])])))
def eNear : E := (.op (.bif .tuple) [(.op (.bif .sorted) [(.call 30 [(.var 5), (.var 8)])])])
def eAdd : E := (.op .add [(.bor 7), (.op (.bif .len) [(.bor 12)])])
def c5 : E := (.not (.call 26 [(.call 21 [(.var 4), (.var 8)]), (.var 12)]))
def it3 : E := (.itr .range2 [(.lit (.int 1)), (.lit (.int 6))])
def it11 : E := (.itr .range2 [(.lit (.int 1)), (.lit (.int 6))])
def eA : E := (.op .tup [(.op .tup [(.lit (.int 0)), (.lit (.int 0)), (.var 3)]), (.op .tup [(.lit (.int 1)), (.lit (.int 0)), (.var 11)])])
def cA : E := (.op (.cmp .NotEq) [(.call 20 [(.var 4)]), (.and (.op (.cmp .In) [(.lit (.int 1)), (.call 27 [(.var 3)])]) (.op (.cmp .In) [(.lit (.int 3)), (.call 27 [(.var 11)])]))])
def eB : E := (.op .tup [(.op .tup [(.lit (.int 0)), (.lit (.int 0)), (.var 3)]), (.op .tup [(.lit (.int 0)), (.lit (.int 1)), (.var 11)])])
def cB : E := (.op (.cmp .NotEq) [(.call 20 [(.var 4)]), (.and (.op (.cmp .In) [(.lit (.int 2)), (.call 27 [(.var 3)])]) (.op (.cmp .In) [(.lit (.int 0)), (.call 27 [(.var 11)])]))])
def eR : E := (.call 26 [(.op .tup [(.call 19 [(.op .tup [])]), (.call 20 [(.op .tup [])]), (.call 20 [(.op .tup [(.op .tup [(.lit (.int 0)), (.lit (.int 0)), (.lit (.int 5))]), (.op .tup [(.lit (.int 1)), (.lit (.int 1)), (.lit (.int 5))])])])]), (.op .tup [(.op .tup []), (.lit (.bl true)), (.lit (.bl false))])])
def retF : List Py.S := [.ret (.lit (.bl false))]
def b5 : List Py.S := [.asg (.nm 12) eNear, .asg (.nm 7) eAdd, .ite c5 retF []]
def bodyB : List Py.S := [.asg (.nm 4) eFig, .asg (.nm 5) eKinds, .asg (.nm 6) eParts, .ite c3 retF [], .asg (.nm 7) (.lit (.int 0)), .for (.nm 8) (.var 5) b5, .ite c6 retF [], .asg (.nm 9) eLens, .ite c8 retF [], .ite c9 retF [], .asg (.nm 10) eGrown, .ite c11 retF []]
def bodyC : List Py.S := [.asg (.nm 4) eA, .ite cA retF [], .asg (.nm 4) eB, .ite cB retF []]
theorem law_body : f_law.body = [.asg (.nm 1) (.call 23 [.var 0]), .for (.nm 2) (.itr .range1 [.lit (.int 6)]) bodyB, .for (.nm 3) it3 [.for (.nm 11) it11 bodyC], .ret eR] := rfl
theorem same_ok (n : Nat) {v : PV} (h : sameV n v = true) (hn : n ≤ 7) : callN Fs (d + 9) 26 [v, v] c = .ok (.bl true, c) := by
  have e := same_refl hS n (d + 8 - n) c v h
  rwa [show d + 8 - n + n + 1 = d + 9 by omega] at e
theorem same_list {n : Nat} {L : List PV} (hl : L.length ≤ 1000000) (h : ∀ v ∈ L, sameV n v = true) : sameV (n + 1) (.tup L) = true := by
  show (decide (L.length ≤ 1000000) && L.all (sameV n)) = true
  rw [Bool.and_eq_true, List.all_eq_true]
  exact ⟨decide_eq_true hl, h⟩
theorem tsq_same (hl : ts.length ≤ 1000) : sameV 2 (TSq ts) = true := same_list (by rw [List.length_map]; omega) fun v hv => by
  obtain ⟨t, _, rfl⟩ := List.mem_map.mp hv
  rfl
theorem parts_few (hf : Fig ts) : (partsT ts).length ≤ 60 := by
  unfold partsT partsP
  rw [List.length_map]
  exact Nat.le_trans (parts_len _) (plc_len hf)
theorem parts_figs (hf : Fig ts) : ∀ us ∈ partsT ts, Fig us := fun us h => by
  obtain ⟨P, hP, rfl⟩ := List.mem_map.mp h
  exact (partsP_fig hf hP).1
theorem figs_same (hf : Fig ts) : sameV 3 (.tup ((partsT ts).map TSq)) = true := same_list (by rw [List.length_map]; have := parts_few hf; omega) fun v hv => by
  obtain ⟨us, hu, rfl⟩ := List.mem_map.mp hv
  exact tsq_same (by have := (parts_figs hf us hu).len; omega)
theorem prs_same (L : List (Int × Int)) (hl : L.length ≤ 1000) : sameV 2 (.tup (L.map pr)) = true := same_list (by rw [List.length_map]; omega) fun v hv => by
  obtain ⟨p, _, rfl⟩ := List.mem_map.mp hv
  rfl
/-! ### the figure -/
theorem runFig (h1 : Has env 1 .cup) (hc : CupO c) : ∃ ts c', Fig ts ∧ CupO c' ∧ ev (callN Fs (d + 9)) eFig ⟨env, c⟩ = .ok (TSq ts, ⟨env, c'⟩) := by
  obtain ⟨ta, c1, fa, hc1, ea⟩ := t_figure (d := d + 7) 14 4 (by omega) (by decide) (by omega) hc
  obtain ⟨tb, c2, ⟨fb, _⟩, hc2, eb⟩ := t_grown (d := d + 6) 10 (by omega) (by omega) hc1
  obtain ⟨tc, c3, fc, hc3, ec⟩ := t_figure (d := d + 7) 30 6 (by omega) (by decide) (by omega) hc2
  obtain ⟨o, c4, hm, hc4, eo⟩ := some_ok (d := d + 7) (xs := [TSq ta, TSq tb, TSq tc]) (by simp) (by simp) hc3
  have k1 : ev (callN Fs (d + 9)) (.call 28 [(.var 1), (.lit (.int 14)), (.lit (.int 4))]) ⟨env, c⟩ = .ok (TSq ta, ⟨env, c1⟩) := ca_3 (va_ok h1) (r_lit _) (r_lit _) ea
  have k2 : ev (callN Fs (d + 9)) (.call 31 [(.var 1), (.lit (.int 10))]) ⟨env, c1⟩ = .ok (TSq tb, ⟨env, c2⟩) := ca_2 (va_ok h1) (r_lit _) eb
  have k3 : ev (callN Fs (d + 9)) (.call 28 [(.var 1), (.lit (.int 30)), (.lit (.int 6))]) ⟨env, c2⟩ = .ok (TSq tc, ⟨env, c3⟩) := ca_3 (va_ok h1) (r_lit _) (r_lit _) ec
  generalize hva : TSq ta = va at *
  generalize hvb : TSq tb = vb at *
  generalize hvc : TSq tc = vc at *
  have k4 : ev (callN Fs (d + 9)) (.op .lst [(.call 28 [(.var 1), (.lit (.int 14)), (.lit (.int 4))]), (.call 31 [(.var 1), (.lit (.int 10))]), (.call 28 [(.var 1), (.lit (.int 30)), (.lit (.int 6))])]) ⟨env, c⟩ = .ok (.lst [va, vb, vc], ⟨env, c3⟩) := op3 rfl rfl rfl k1 k2 k3 rfl
  have k5 : ev (callN Fs (d + 9)) eFig ⟨env, c⟩ = .ok (o, ⟨env, c4⟩) := ca_2 (va_ok h1) k4 eo
  simp only [List.mem_cons, List.not_mem_nil, or_false] at hm
  rcases hm with h | h | h
  · exact ⟨ta, c4, fa, hc4, by rw [hva, ← h]; exact k5⟩
  · exact ⟨tb, c4, fb, hc4, by rw [hvb, ← h]; exact k5⟩
  · exact ⟨tc, c4, fc, hc4, by rw [hvc, ← h]; exact k5⟩
theorem runKinds (ho : EnvOk env 16 []) (hf : Fig ts) (h4 : Has env 4 (TSq ts)) {Φ : Calls} : ev Φ eKinds ⟨env, c⟩ = .ok (DP (kindsOf ts), ⟨env, c⟩) := dkE_run h4 (by rw [ho.len]; omega) (ho.clean1 (by simp)) (by have := hf.len; omega)
theorem runParts (hf : Fig ts) (h4 : Has env 4 (TSq ts)) : ev (callN Fs (d + 9)) eParts ⟨env, c⟩ = .ok (.lst ((partsT ts).map TSq), ⟨env, c⟩) := ca_1 (va_ok h4) (t_lparts (d := d + 6) hf)
theorem run3 (hf : Fig ts) (h4 : Has env 4 (TSq ts)) (h6 : Has env 6 (.lst ((partsT ts).map TSq))) : ev (callN Fs (d + 9)) c3 ⟨env, c⟩ = .ok (.bl false, ⟨env, c⟩) := by
  have k1 : ev (callN Fs (d + 9)) (.call 19 [.var 4]) ⟨env, c⟩ = .ok (.tup ((partsT ts).map TSq), ⟨env, c⟩) := ca_1 (va_ok h4) (t_parts (d := d + 2) hf)
  have k2 : ev (callN Fs (d + 9)) (.call 20 [.var 4]) ⟨env, c⟩ = .ok (.bl (decide ((partsT ts).length < 2)), ⟨env, c⟩) := ca_1 (va_ok h4) (t_hangs (d := d + 2) hf)
  have k3 := op2 (o := .tup) rfl rfl k1 k2 rfl
  have hlen : bifV .len [.lst ((partsT ts).map TSq)] = .ok (.int ((partsT ts).length : Int)) := by rw [b_len_l, List.length_map]
  have k4 : ev (callN Fs (d + 9)) (.op (.bif .tuple) [(.bor 6)]) ⟨env, c⟩ = .ok (.tup ((partsT ts).map TSq), ⟨env, c⟩) := op_b h6.sl rfl
  have k5 : ev (callN Fs (d + 9)) (.op (.cmp .Lt) [(.op (.bif .len) [(.bor 6)]), (.lit (.int 2))]) ⟨env, c⟩ = .ok (.bl (decide ((partsT ts).length < 2)), ⟨env, c⟩) := op2 rfl rfl (op_b h6.sl hlen) (r_lit _) (by
    rw [o_cmp, c_lt]
    congr 2
    rw [decide_eq_decide]; omega)
  have k6 := op2 (o := .tup) rfl rfl k4 k5 rfl
  exact nt_ok (b := true) (ca_2 k3 k6 (same_ok 4 (same_list (by simp) fun v hv => by
    simp only [List.mem_cons, List.not_mem_nil, or_false] at hv
    rcases hv with rfl | rfl
    · exact figs_same hf
    · rfl) (by omega)))
/-! ### square by square -/
theorem turn5 (ho : EnvOk env 16 []) (hf : Fig ts) (h4 : Has env 4 (TSq ts)) (h5 : Has env 5 (DP (kindsOf ts))) {n : Int} (h7 : Has env 7 (.int n)) {p : Int × Int} (hp : p ∈ plc ts) : ∃ env', EnvOk env' 16 [] ∧ Keeps [7, 8, 12] env env' ∧ Has env' 7 (.int (n + (((near (kindsOf ts) p).length : Nat) : Int))) ∧ forTurn (callN Fs (d + 9)) (.nm 8) b5 (pr p) ⟨env, c⟩ = .ok (.nx, ⟨env', c⟩) := by
  rw [ft_nm]
  have hk : p ∈ (kindsOf ts).map (·.1) := by rw [hf.keys]; exact hp
  have o1 : EnvOk (env.set 8 (.val (pr p))) 16 [] := ho.set
  have g8 := ho.self (i := 8) (v := pr p) (by omega)
  have K0 : Keeps [7, 8, 12] env (env.set 8 (.val (pr p))) := Keeps.refl.set (by decide)
  have h4 := h4.ne (i := 8) (s := .val (pr p)) (by omega)
  have h5 := h5.ne (i := 8) (s := .val (pr p)) (by omega)
  have h7 := h7.ne (i := 8) (s := .val (pr p)) (by omega)
  generalize env.set 8 (.val (pr p)) = e1 at *
  have hnl := near_len (l := kindsOf ts) (p := p)
  have hsl : (srtP (near (kindsOf ts) p)).length = (near (kindsOf ts) p).length := (srtP_perm _).length_eq
  have k1 : ev (callN Fs (d + 9)) eNear ⟨e1, c⟩ = .ok (.tup ((srtP (near (kindsOf ts) p)).map pr), ⟨e1, c⟩) := op1 rfl (op1 rfl (ca_2 (va_ok h5) (va_ok g8) (t_lnear (d := d + 7) hf.kdok hk)) (b_sorted_l _)) rfl
  have main : Goes (callN Fs (d + 9)) b5 ⟨e1, c⟩ fun f s => f = .nx ∧ ∃ env', s = ⟨env', c⟩ ∧ EnvOk env' 16 [] ∧ Keeps [7, 8, 12] env env' ∧ Has env' 7 (.int (n + (((near (kindsOf ts) p).length : Nat) : Int))) := by
    refine go_nm o1 (by omega) k1 fun e2 o2 g12 K => ?_
    have h4 := K.has h4 (by decide); have h7 := K.has h7 (by decide); have g8 := K.has g8 (by decide)
    have K1 : Keeps [7, 8, 12] env e2 := K0.trans (K.mono (by decide))
    have hlen : bifV .len [.tup ((srtP (near (kindsOf ts) p)).map pr)] = .ok (.int (((near (kindsOf ts) p).length : Nat) : Int)) := by rw [b_len_t, List.length_map, hsl]
    have k2 : ev (callN Fs (d + 9)) eAdd ⟨e2, c⟩ = .ok (.int (n + (((near (kindsOf ts) p).length : Nat) : Int)), ⟨e2, c⟩) := op_be rfl h7.sl (op_b g12.sl hlen) h7.sl rfl
    refine go_nm o2 (by omega) k2 fun e3 o3 g7 K2 => ?_
    have h4 := K2.has h4 (by decide); have g8 := K2.has g8 (by decide); have g12 := K2.has g12 (by decide)
    have K3 : Keeps [7, 8, 12] env e3 := K1.trans (K2.mono (by decide))
    have k3 : ev (callN Fs (d + 9)) (.call 21 [(.var 4), (.var 8)]) ⟨e3, c⟩ = .ok (.tup ((srtP (near (kindsOf ts) p)).map pr), ⟨e3, c⟩) := ca_2 (va_ok h4) (va_ok g8) (t_joined (d := d + 2) hf hp)
    have k4 : ev (callN Fs (d + 9)) c5 ⟨e3, c⟩ = .ok (.bl false, ⟨e3, c⟩) := nt_ok (b := true) (ca_2 k3 (va_ok g12) (same_ok 2 (prs_same _ (by omega)) (by omega)))
    exact go_ck k4 (go_nil ⟨rfl, e3, rfl, o3, K3, g7⟩)
  obtain ⟨s', e, env', rfl, h1, h2, h3⟩ := goes_nx main
  exact ⟨env', h1, h2, h3, e⟩
def nearN (ts : List (Int × Int × Int)) : Nat := ((plc ts).map fun p => (near (kindsOf ts) p).length).sum
theorem run5 (ho : EnvOk env 16 []) (hf : Fig ts) (h4 : Has env 4 (TSq ts)) (h5 : Has env 5 (DP (kindsOf ts))) (h7 : Has env 7 (.int 0)) : ∃ env', EnvOk env' 16 [] ∧ Keeps [7, 8, 12] env env' ∧ Has env' 7 (.int ((nearN ts : Nat) : Int)) ∧ ex (callN Fs (d + 9)) (.for (.nm 8) (.var 5) b5) ⟨env, c⟩ = .ok (.nx, ⟨env', c⟩) := by
  obtain ⟨st', e, env', rfl, o', K', h7'⟩ := for_fold (turn := forTurn (callN Fs (d + 9)) (.nm 8) b5) pr (fun (n : Int) st => ∃ env', st = ⟨env', c⟩ ∧ EnvOk env' 16 [] ∧ Keeps [7, 8, 12] env env' ∧ Has env' 7 (.int n)) (fun n p => n + (((near (kindsOf ts) p).length : Nat) : Int)) (xs := plc ts) (a := 0) (st := ⟨env, c⟩) ⟨env, rfl, ho, Keeps.refl, h7⟩ fun us p ws eu st ⟨e2, es, o2, k2, g7⟩ => by
    subst es
    obtain ⟨e3, o3, k3, g7', r⟩ := turn5 (d := d) (c := c) o2 hf (k2.has h4 (by decide)) (k2.has h5 (by decide)) g7 (p := p) (by rw [eu]; simp)
    exact ⟨_, r, e3, rfl, o3, k2.trans k3, g7'⟩
  rw [near_sum_fold (fun p => (near (kindsOf ts) p).length), Int.zero_add] at h7'
  refine ⟨env', o', K', h7', fr_ok (va_ok h5) ?_ e⟩
  show some ((encD prK PV.int (kindsOf ts)).map (·.1)) = _
  rw [encD_keys, hf.keys]; rfl
/-! ### sums -/
theorem run6 (ho : EnvOk env 16 []) (hf : Fig ts) (h4 : Has env 4 (TSq ts)) (h6 : Has env 6 (.lst ((partsT ts).map TSq))) : ev (callN Fs (d + 9)) c6 ⟨env, c⟩ = .ok (.bl false, ⟨env, c⟩) := by
  have hpl := parts_few hf
  have k1 := lc_all (Φ := callN Fs (d + 9)) (j := 13) (elt := .call 18 [(.var 13)]) (cup := c) TSq (fun us => .int (areaOf us)) (va_ok h6) rfl (ho.clean1 (by simp)) (by omega) fun us hu => by
    have e := t_area_of (d := d + 2) (cup := c) (parts_figs hf us hu)
    exact ca_1 (va_ok (ho.self (by omega))) e
  have e2 : (partsT ts).map (fun us => PV.int (areaOf us)) = ((partsT ts).map areaOf).map .int := by rw [List.map_map]; rfl
  rw [e2] at k1
  have k2 := op1 (o := .bif .sum) rfl k1 (b_sum _)
  rw [areas_parts hf] at k2
  have k3 : ev (callN Fs (d + 9)) (.call 18 [.var 4]) ⟨env, c⟩ = .ok (.int (areaOf ts), ⟨env, c⟩) := ca_1 (va_ok h4) (t_area_of (d := d + 2) hf)
  exact op2 rfl rfl k2 k3 (by rw [o_cmp, c_ne, decide_eq_true rfl]; rfl)
theorem runLens (ho : EnvOk env 16 []) (hf : Fig ts) (h6 : Has env 6 (.lst ((partsT ts).map TSq))) : ev (callN Fs (d + 9)) eLens ⟨env, c⟩ = .ok (.lst ((partsT ts).map blenV), ⟨env, c⟩) := by
  have hpl := parts_few hf
  exact lc_all (Φ := callN Fs (d + 9)) (j := 13) (elt := .call 22 [(.var 13)]) (cup := c) TSq blenV (va_ok h6) rfl (ho.clean1 (by simp)) (by omega) fun us hu => by
    have e := t_blen (d := d + 2) (cup := c) (parts_figs hf us hu)
    exact ca_1 (va_ok (ho.self (by omega))) e
theorem sumAt (ho : EnvOk env 16 []) {L : List (List (Int × Int × Int))} (hl : L.length ≤ 1000) (h9 : Has env 9 (.lst (L.map blenV))) (m : Int) (w : List (Int × Int × Int) → Nat) (hw : ∀ us, idxV c (blenV us) (.int m) = .ok (.int ((w us : Nat) : Int))) {Φ : Calls} : ev Φ (.op (.bif .sum) [(.lc [15] (.nm 15) (.var 9) (.lit (.bl true)) (.op .idx [(.bor 15), (.lit (.int m))]))]) ⟨env, c⟩ = .ok (.int (((L.map w).sum : Nat) : Int), ⟨env, c⟩) := by
  have k1 := lc_all (Φ := Φ) (j := 15) (elt := .op .idx [(.bor 15), (.lit (.int m))]) (cup := c) blenV (fun us => .int ((w us : Nat) : Int)) (va_ok h9) rfl (ho.clean1 (by simp)) (by omega) fun us _ => by
    have g := ho.self (i := 15) (v := blenV us) (by omega)
    exact op_be rfl g.sl (r_lit _) g.sl (hw us)
  have e2 : L.map (fun us => PV.int ((w us : Nat) : Int)) = (L.map fun us => ((w us : Nat) : Int)).map .int := by rw [List.map_map]; rfl
  rw [e2] at k1
  have k2 := op1 (o := .bif .sum) rfl k1 (b_sum _)
  rw [cast_sum w] at k2
  exact k2
theorem run8 (ho : EnvOk env 16 []) (hf : Fig ts) (h4 : Has env 4 (TSq ts)) (h9 : Has env 9 (.lst ((partsT ts).map blenV))) : ev (callN Fs (d + 9)) c8 ⟨env, c⟩ = .ok (.bl false, ⟨env, c⟩) := by
  have hpl := parts_few hf
  have k1 : ev (callN Fs (d + 9)) (.call 22 [.var 4]) ⟨env, c⟩ = .ok (blenV ts, ⟨env, c⟩) := ca_1 (va_ok h4) (t_blen (d := d + 2) hf)
  have k2 := sumAt (c := c) (Φ := callN Fs (d + 9)) ho (by omega) h9 0 (fun us => (singles us).length) (fun _ => rfl)
  have k3 := sumAt (c := c) (Φ := callN Fs (d + 9)) ho (by omega) h9 1 (fun us => (slants us).length) (fun _ => rfl)
  rw [singles_parts hf] at k2
  rw [slants_parts hf] at k3
  have k4 := op2 (o := .tup) (y := blenV ts) rfl rfl k2 k3 rfl
  exact nt_ok (b := true) (ca_2 k1 k4 (same_ok 1 rfl (by omega)))
theorem run9 (ho : EnvOk env 16 []) (hf : Fig ts) (h4 : Has env 4 (TSq ts)) (h5 : Has env 5 (DP (kindsOf ts))) (h7 : Has env 7 (.int ((nearN ts : Nat) : Int))) : ev (callN Fs (d + 9)) c9 ⟨env, c⟩ = .ok (.bl false, ⟨env, c⟩) := by
  have k1 : ev (callN Fs (d + 9)) (.call 22 [.var 4]) ⟨env, c⟩ = .ok (blenV ts, ⟨env, c⟩) := ca_1 (va_ok h4) (t_blen (d := d + 2) hf)
  have k2 := op2 (o := .idx) (e' := .lit (.int 0)) (y := .int ((singles ts).length : Int)) rfl rfl k1 (r_lit _) rfl
  have k3 : ev (callN Fs (d + 9)) (.op .add [(.bor 7), (.op .idx [(.call 22 [(.var 4)]), (.lit (.int 0))])]) ⟨env, c⟩ = .ok (.int (((nearN ts : Nat) : Int) + ((singles ts).length : Int)), ⟨env, c⟩) := op_be rfl h7.sl k2 h7.sl rfl
  have hit : ltOf (DP (kindsOf ts)) = some ((plc ts).map pr) := by
    show some ((encD prK PV.int (kindsOf ts)).map (·.1)) = _
    rw [encD_keys, hf.keys]; rfl
  have k4 := lc_all (Φ := callN Fs (d + 9)) (j := 8) (elt := (.op (.bif .len) [(.call 27 [(.op .idx [(.bor 5), (.bor 8)])])])) (cup := c) pr (fun p => .int (((sidesOf (kd0 (kindsOf ts) p)).length : Nat) : Int)) (va_ok h5) hit (ho.clean1 (by simp)) (by have := plc_len hf; omega) fun p hp => by
    have g8 := ho.self (i := 8) (v := pr p) (by omega)
    have g5 := h5.ne (i := 8) (s := .val (pr p)) (by omega)
    have hk : p ∈ (kindsOf ts).map (·.1) := by rw [hf.keys]; exact hp
    have hkr := hf.kdok.rng hk
    have hi : idxV c (DP (kindsOf ts)) (pr p) = .ok (.int (kd0 (kindsOf ts) p)) := idx_kd hk
    generalize kd0 (kindsOf ts) p = k at *
    generalize DP (kindsOf ts) = D at *
    generalize env.set 8 (.val (pr p)) = e at *
    have a0 : ev (callN Fs (d + 9)) (.op .idx [(.bor 5), (.bor 8)]) ⟨e, c⟩ = .ok (.int k, ⟨e, c⟩) := op_bb g5.sl g8.sl (by rw [o_idx]; exact hi)
    have a1 : ev (callN Fs (d + 9)) (.call 27 [(.op .idx [(.bor 5), (.bor 8)])]) ⟨e, c⟩ = .ok (.lst ((sidesOf k).map .int), ⟨e, c⟩) := ca_1 a0 (sides_run sides_ok (d + 8) c hkr)
    have hb : bifV .len [.lst ((sidesOf k).map .int)] = .ok (.int (((sidesOf k).length : Nat) : Int)) := by rw [b_len_l, List.length_map]
    exact op1 rfl a1 hb
  have e2 : (plc ts).map (fun p => PV.int (((sidesOf (kd0 (kindsOf ts) p)).length : Nat) : Int)) = ((plc ts).map fun p => (((sidesOf (kd0 (kindsOf ts) p)).length : Nat) : Int)).map .int := by rw [List.map_map]; rfl
  rw [e2] at k4
  have k5 := op1 (o := .bif .sum) rfl k4 (b_sum _)
  rw [cast_sum (fun p => (sidesOf (kd0 (kindsOf ts) p)).length), sides_edges hf] at k5
  have hs := singles_near hf
  exact op2 rfl rfl k3 k5 (by
    rw [o_cmp, c_ne]
    unfold nearN
    rw [decide_eq_true (by omega)]; rfl)
/-! ### what is grown -/
theorem runGrown (h1 : Has env 1 .cup) (hc : CupO c) : ∃ ts c', (Fig ts ∧ partsT ts = [ts]) ∧ CupO c' ∧ ev (callN Fs (d + 9)) eGrown ⟨env, c⟩ = .ok (TSq ts, ⟨env, c'⟩) := by
  obtain ⟨tb, c2, ⟨fb, l, g1, g2⟩, hc2, eb⟩ := t_grown (d := d + 6) (c := c) 12 (by omega) (by omega) hc
  exact ⟨tb, c2, ⟨fb, grown_one fb g1 g2⟩, hc2, ca_2 (va_ok h1) (r_lit _) eb⟩
theorem run11 (hf : Fig ts) (h1 : partsT ts = [ts]) (h10 : Has env 10 (TSq ts)) : ev (callN Fs (d + 9)) c11 ⟨env, c⟩ = .ok (.bl false, ⟨env, c⟩) := by
  have k1 : ev (callN Fs (d + 9)) (.call 20 [.var 10]) ⟨env, c⟩ = .ok (.bl true, ⟨env, c⟩) := ca_1 (va_ok h10) (by
    have := t_hangs (d := d + 2) (cup := c) hf
    rw [h1] at this
    exact this)
  have k2 := op2 (o := .cmp .IsNot) (e' := .lit (.bl true)) (y := .bl false) rfl rfl k1 (r_lit _) rfl
  refine or_f k2 ?_
  have k3 : ev (callN Fs (d + 9)) (.call 19 [.var 10]) ⟨env, c⟩ = .ok (.tup [TSq ts], ⟨env, c⟩) := ca_1 (va_ok h10) (by
    have := t_parts (d := d + 2) (cup := c) hf
    rw [h1] at this
    exact this)
  have k4 := op1 (o := .tup) (y := .tup [TSq ts]) rfl (va_ok (Φ := callN Fs (d + 9)) (st := ⟨env, c⟩) h10) rfl
  exact nt_ok (b := true) (ca_2 k3 k4 (same_ok 3 (same_list (by simp) fun v hv => by
    rw [List.mem_singleton.mp hv]
    exact tsq_same (by have := hf.len; omega)) (by omega)))
/-! ### a turn -/
def St0 (X : PV) (st : St) : Prop := ∃ env c, st = ⟨env, c⟩ ∧ EnvOk env 16 [] ∧ Has env 0 X ∧ Has env 1 .cup ∧ CupO c
theorem turnB {X x : PV} {s : St} (hs : St0 X s) : ∃ s', forTurn (callN Fs (d + 9)) (.nm 2) bodyB x s = .ok (.nx, s') ∧ St0 X s' := by
  obtain ⟨env, c, rfl, ho, a0, a1, hc⟩ := hs
  rw [ft_nm]
  have o2 : EnvOk (env.set 2 (.val x)) 16 [] := ho.set
  have a0 := a0.ne (i := 2) (s := .val x) (by omega)
  have a1 := a1.ne (i := 2) (s := .val x) (by omega)
  generalize env.set 2 (.val x) = e0 at *
  clear ho
  refine goes_nx (I := fun _ s' => St0 X s') ?_
  obtain ⟨ts, c1, hf, hc1, r4⟩ := runFig (d := d) a1 hc
  refine go_nm o2 (by omega) r4 fun e1 o1 a4 K => ?_
  have a0 := K.has a0 (by decide); have a1 := K.has a1 (by decide)
  clear K r4 o2
  refine go_nm o1 (by omega) (runKinds o1 hf a4) fun e2 o2 a5 K => ?_
  have a0 := K.has a0 (by decide); have a1 := K.has a1 (by decide); have a4 := K.has a4 (by decide)
  clear K o1
  refine go_nm o2 (by omega) (runParts (d := d) hf a4) fun e3 o3 a6 K => ?_
  have a0 := K.has a0 (by decide); have a1 := K.has a1 (by decide); have a4 := K.has a4 (by decide); have a5 := K.has a5 (by decide)
  clear K o2
  refine go_ck (run3 (d := d) hf a4 a6) ?_
  refine go_nm o3 (by omega) (r_lit _) fun e4 o4 a7 K => ?_
  have a0 := K.has a0 (by decide); have a1 := K.has a1 (by decide); have a4 := K.has a4 (by decide); have a5 := K.has a5 (by decide); have a6 := K.has a6 (by decide)
  clear K o3
  obtain ⟨e5, o5, K, a7, r5⟩ := run5 (d := d) (c := c1) o4 hf a4 a5 a7
  refine go_st r5 ?_
  have a0 := K.has a0 (by decide); have a1 := K.has a1 (by decide); have a4 := K.has a4 (by decide); have a5 := K.has a5 (by decide); have a6 := K.has a6 (by decide)
  clear K o4 r5
  refine go_ck (run6 (d := d) o5 hf a4 a6) ?_
  refine go_nm o5 (by omega) (runLens (d := d) o5 hf a6) fun e6 o6 a9 K => ?_
  have a0 := K.has a0 (by decide); have a1 := K.has a1 (by decide); have a4 := K.has a4 (by decide); have a5 := K.has a5 (by decide); have a7 := K.has a7 (by decide)
  clear K o5
  refine go_ck (run8 (d := d) o6 hf a4 a9) ?_
  refine go_ck (run9 (d := d) o6 hf a4 a5 a7) ?_
  obtain ⟨us, c2, ⟨hg, h1⟩, hc2, r10⟩ := runGrown (d := d) a1 hc1
  refine go_nm o6 (by omega) r10 fun e7 o7 a10 K => ?_
  have a0 := K.has a0 (by decide); have a1 := K.has a1 (by decide)
  exact go_ck (run11 (d := d) hg h1 a10) (go_nil ⟨rfl, e7, c2, rfl, o7, a0, a1, hc2⟩)
/-! ### two squares -/
theorem c_ne_b (a b : Bool) : cmpV .NotEq (.bl a) (.bl b) = .ok (.bl (!(a == b))) := by cases a <;> cases b <;> rfl
theorem any_dec (x : Int) (L : List Int) : (L.any fun y => decide (y = x)) = decide (x ∈ L) := by
  rw [Bool.eq_iff_iff, List.any_eq_true, decide_eq_true_eq]
  exact ⟨fun ⟨y, h1, h2⟩ => by rw [← of_decide_eq_true h2]; exact h1, fun h => ⟨x, h, by simp⟩⟩
theorem sideIn {i : Nat} {k : Int} (hk : 1 ≤ k ∧ k ≤ 5) (h : Has env i (.int k)) (s : Int) : ev (callN Fs (d + 9)) (.op (.cmp .In) [(.lit (.int s)), (.call 27 [(.var i)])]) ⟨env, c⟩ = .ok (.bl (decide (s ∈ sidesOf k)), ⟨env, c⟩) :=
  op2 rfl rfl (r_lit _) (ca_1 (va_ok h) (sides_run sides_ok (d + 8) c hk)) (by rw [o_cmp, (c_in_ints _ _).2, any_dec])
theorem runTwo {a b s : Int} {p q : Int × Int} (hf : Fig [(p.1, p.2, a), (q.1, q.2, b)]) (ha : 1 ≤ a ∧ a ≤ 5) (hb : 1 ≤ b ∧ b ≤ 5) (hs : 0 ≤ s ∧ s ≤ 3) (hq : q = bey p s) (h3 : Has env 3 (.int a)) (h11 : Has env 11 (.int b)) (h4 : Has env 4 (TSq [(p.1, p.2, a), (q.1, q.2, b)])) :
    ev (callN Fs (d + 9)) (.op (.cmp .NotEq) [(.call 20 [(.var 4)]), (.and (.op (.cmp .In) [(.lit (.int s)), (.call 27 [(.var 3)])]) (.op (.cmp .In) [(.lit (.int ((s + 2) % 4))), (.call 27 [(.var 11)])]))]) ⟨env, c⟩ = .ok (.bl false, ⟨env, c⟩) := by
  have k1 : ev (callN Fs (d + 9)) (.call 20 [.var 4]) ⟨env, c⟩ = .ok (.bl (decide (s ∈ sidesOf a) && decide ((s + 2) % 4 ∈ sidesOf b)), ⟨env, c⟩) := by
    rw [← two_parts hf hs hq]
    exact ca_1 (va_ok h4) (t_hangs (d := d + 2) hf)
  have k2 : ev (callN Fs (d + 9)) (.and (.op (.cmp .In) [(.lit (.int s)), (.call 27 [(.var 3)])]) (.op (.cmp .In) [(.lit (.int ((s + 2) % 4))), (.call 27 [(.var 11)])])) ⟨env, c⟩ = .ok (.bl (decide (s ∈ sidesOf a) && decide ((s + 2) % 4 ∈ sidesOf b)), ⟨env, c⟩) := by
    have a1 := sideIn (d := d) (c := c) ha h3 s
    have a2 := sideIn (d := d) (c := c) hb h11 ((s + 2) % 4)
    cases h : decide (s ∈ sidesOf a) with
    | false => rw [h] at a1; exact an_f a1
    | true => rw [h] at a1; rw [Bool.true_and]; exact an_t a1 a2
  exact op2 rfl rfl k1 k2 (by rw [o_cmp, c_ne_b, beq_self_eq_true]; rfl)
theorem two_fig {a b : Int} (ha : 1 ≤ a ∧ a ≤ 5) (hb : 1 ≤ b ∧ b ≤ 5) : Fig [((0 : Int), (0 : Int), a), (1, 0, b)] ∧ Fig [((0 : Int), (0 : Int), a), (0, 1, b)] := by
  refine ⟨⟨by simp [plc, riseB, ltP], fun t ht => ?_, by simp⟩, ⟨by simp [plc, riseB, ltP], fun t ht => ?_, by simp⟩⟩
  all_goals
    simp only [List.mem_cons, List.not_mem_nil, or_false] at ht
    rcases ht with rfl | rfl
    · exact ⟨by simp, by simp, ha⟩
    · exact ⟨by simp, by simp, hb⟩
theorem tripE {x y : Int} {i : Nat} {k : Int} (h : Has env i (.int k)) {Φ : Calls} : ev Φ (.op .tup [(.lit (.int x)), (.lit (.int y)), (.var i)]) ⟨env, c⟩ = .ok (sq (x, y, k), ⟨env, c⟩) := op3 rfl rfl rfl (r_lit _) (r_lit _) (va_ok h) rfl
theorem turnC {X : PV} {a b : Int} (ha : 1 ≤ a ∧ a ≤ 5) (hb : 1 ≤ b ∧ b ≤ 5) {s : St} (hs : ∃ env c, s = ⟨env, c⟩ ∧ EnvOk env 16 [] ∧ Has env 3 (.int a)) : ∃ s', forTurn (callN Fs (d + 9)) (.nm 11) bodyC (.int b) s = .ok (.nx, s') ∧ ∃ env c, s' = ⟨env, c⟩ ∧ EnvOk env 16 [] ∧ Has env 3 (.int a) := by
  obtain ⟨env, c, rfl, ho, a3⟩ := hs
  rw [ft_nm]
  have o2 : EnvOk (env.set 11 (.val (.int b))) 16 [] := ho.set
  have a11 := ho.self (i := 11) (v := .int b) (by omega)
  have a3 := a3.ne (i := 11) (s := .val (.int b)) (by omega)
  generalize env.set 11 (.val (.int b)) = e0 at *
  obtain ⟨f1, f2⟩ := two_fig ha hb
  refine goes_nx (I := fun _ s' => ∃ env c, s' = ⟨env, c⟩ ∧ EnvOk env 16 [] ∧ Has env 3 (.int a)) ?_
  have r1 : ev (callN Fs (d + 9)) eA ⟨e0, c⟩ = .ok (TSq [(0, 0, a), (1, 0, b)], ⟨e0, c⟩) := op2 rfl rfl (tripE a3) (tripE a11) rfl
  refine go_nm o2 (by omega) r1 fun e1 o1 a4 K => ?_
  have a3 := K.has a3 (by decide); have a11 := K.has a11 (by decide)
  refine go_ck (runTwo (d := d) (s := 1) (p := (0, 0)) (q := (1, 0)) f1 ha hb (by omega) rfl a3 a11 a4) ?_
  have r2 : ev (callN Fs (d + 9)) eB ⟨e1, c⟩ = .ok (TSq [(0, 0, a), (0, 1, b)], ⟨e1, c⟩) := op2 rfl rfl (tripE a3) (tripE a11) rfl
  refine go_nm o1 (by omega) r2 fun e2 o2 a4 K2 => ?_
  have a3 := K2.has a3 (by decide); have a11 := K2.has a11 (by decide)
  exact go_ck (runTwo (d := d) (s := 2) (p := (0, 0)) (q := (0, 1)) f2 ha hb (by omega) rfl a3 a11 a4) (go_nil ⟨rfl, e2, c, rfl, o2, a3⟩)
theorem it_five {Φ : Calls} {st : St} : ev Φ (.itr .range2 [(.lit (.int 1)), (.lit (.int 6))]) st = .ok (.lst ((ri 1 6).map PV.int), st) := itr2 rfl rfl (r_lit _) (r_lit _) (by omega) (by omega)
theorem turnD {a : Int} (ha : 1 ≤ a ∧ a ≤ 5) {s : St} (hs : ∃ env c, s = ⟨env, c⟩ ∧ EnvOk env 16 []) : ∃ s', forTurn (callN Fs (d + 9)) (.nm 3) [.for (.nm 11) it11 bodyC] (.int a) s = .ok (.nx, s') ∧ ∃ env c, s' = ⟨env, c⟩ ∧ EnvOk env 16 [] := by
  obtain ⟨env, c, rfl, ho⟩ := hs
  rw [ft_nm]
  refine goes_nx (I := fun _ s' => ∃ env c, s' = ⟨env, c⟩ ∧ EnvOk env 16 []) ?_
  refine go_for (J := fun s => ∃ env c, s = ⟨env, c⟩ ∧ EnvOk env 16 [] ∧ Has env 3 (.int a)) it_five rfl ⟨_, c, rfl, ho.set, ho.self (by omega)⟩ (fun x hx s hs => ?_) fun s ⟨e2, c2, es, o2, _⟩ => ?_
  · obtain ⟨b, hb, rfl⟩ := List.mem_map.mp hx
    rw [ri_mem] at hb
    exact turnC (d := d) (X := .non) ha (by omega) hs
  · subst es
    exact go_nil ⟨rfl, e2, c2, rfl, o2⟩
/-! ### the law -/
theorem runR (st : St) : ev (callN Fs (d + 9)) eR st = .ok (.bl true, st) := by
  obtain ⟨env, c⟩ := st
  have e0 : partsT [] = [] := rfl
  have v0 : ev (callN Fs (d + 9)) (.op .tup []) ⟨env, c⟩ = .ok (TSq [], ⟨env, c⟩) := op0t
  have g1 : ev (callN Fs (d + 9)) (.call 19 [(.op .tup [])]) ⟨env, c⟩ = .ok (.tup [], ⟨env, c⟩) := ca_1 v0 (t_parts (d := d + 2) (cup := c) Fig.nil)
  have g2 : ev (callN Fs (d + 9)) (.call 20 [(.op .tup [])]) ⟨env, c⟩ = .ok (.bl true, ⟨env, c⟩) := ca_1 v0 (t_hangs (d := d + 2) (cup := c) Fig.nil)
  have hf : Fig [((0 : Int), (0 : Int), (5 : Int)), (1, 1, 5)] := ⟨by decide, fun t ht => by
    simp only [List.mem_cons, List.not_mem_nil, or_false] at ht
    rcases ht with rfl | rfl <;> decide, by decide⟩
  have v1 : ev (callN Fs (d + 9)) (.op .tup [(.op .tup [(.lit (.int 0)), (.lit (.int 0)), (.lit (.int 5))]), (.op .tup [(.lit (.int 1)), (.lit (.int 1)), (.lit (.int 5))])]) ⟨env, c⟩ = .ok (TSq [(0, 0, 5), (1, 1, 5)], ⟨env, c⟩) := op2 rfl rfl (op3 rfl rfl rfl (r_lit _) (r_lit _) (r_lit _) rfl) (op3 rfl rfl rfl (r_lit _) (r_lit _) (r_lit _) rfl) rfl
  have g3 : ev (callN Fs (d + 9)) (.call 20 [(.op .tup [(.op .tup [(.lit (.int 0)), (.lit (.int 0)), (.lit (.int 5))]), (.op .tup [(.lit (.int 1)), (.lit (.int 1)), (.lit (.int 5))])])]) ⟨env, c⟩ = .ok (.bl false, ⟨env, c⟩) := ca_1 v1 (by
    have := t_hangs (d := d + 2) (cup := c) hf
    rw [apart_two] at this
    exact this)
  have k1 := op3 (o := .tup) (y := .tup [.tup [], .bl true, .bl false]) rfl rfl rfl g1 g2 g3 rfl
  have k2 := op3 (Φ := callN Fs (d + 9)) (o := .tup) (st := ⟨env, c⟩) (y := .tup [.tup [], .bl true, .bl false]) rfl rfl rfl op0t (r_lit (.bl true)) (r_lit (.bl false)) rfl
  exact ca_2 k1 k2 (same_ok 2 rfl (by omega))
theorem law_run (ns : List Int) (hl : ns.length ≤ 63) : ∃ c, callN Fs (d + 10) 33 [.scr (ns.map PV.int)] none = .ok (.bl true, c) := by
  obtain ⟨c0, hc0, e0⟩ := cup_run (F := Fs) (k := 23) (d := d + 8) (f := f__law_cup) (c1 := 107) (c2 := 317) (c3 := 4007) (c4 := 2077502471) (c5 := 227) rfl rfl rfl rfl (by decide) (by decide) (by decide) (by decide) (by decide) (by decide) ns (by omega)
  generalize PV.scr (ns.map PV.int) = X at *
  obtain ⟨E, hEE, o0, a0⟩ := start_ok (X := X) (f := f_law) (n := 15) rfl
  have k0 : ev (callN Fs (d + 9)) (.call 23 [.var 0]) ⟨E, none⟩ = .ok (.cup, ⟨E, c0⟩) := ca_1 (va_ok a0) e0
  have main : Goes (callN Fs (d + 9)) f_law.body ⟨E, none⟩ fun f s => f = .rt (.bl true) := by
    rw [law_body]
    refine go_nm o0 (by omega) k0 fun e1 o1 a1 K => ?_
    have a0 := K.has a0 (by decide)
    clear K o0 k0
    refine go_for (J := St0 X) (it_rng (by omega) (by omega)) rfl ⟨e1, c0, rfl, o1, a0, a1, hc0⟩ (fun x _ s hs => turnB (d := d) hs) fun s ⟨e2, c2, es, o2, a0, a1, hc2⟩ => ?_
    subst es
    refine go_for (J := fun s => ∃ env c, s = ⟨env, c⟩ ∧ EnvOk env 16 []) it_five rfl ⟨e2, c2, rfl, o2⟩ (fun x hx s hs => ?_) fun s _ => go_rt (runR (d := d) _) rfl
    obtain ⟨a, ha, rfl⟩ := List.mem_map.mp hx
    rw [ri_mem] at ha
    exact turnD (d := d) (by omega) hs
  obtain ⟨f, s', e, rfl⟩ := main
  exact ⟨s'.cup, fn_rt (f := f_law) rfl rfl (by rw [← hEE]; exact e)⟩
def DEEP : Nat := 100
theorem law_ok : LawOk md DEEP 33 63 := fun ns hl => by
  rw [fns_eq]
  exact law_run (d := 90) ns hl
end K02
end

section
set_option Elab.async false
set_option linter.all false
set_option maxRecDepth 100000
set_option maxHeartbeats 0
open PySem PySem.W PySem.Calls PyProof.Rows
theorem PySem.Challenge.cw_halfyard_k02_whole_parts_holds : PySem.Challenge.rw_halfyard_k02_whole_parts.Holds := by
  w_on; o_law
  refine HandSHeadRun.head_any (r := OpenLaw.row PySem.Challenge.rw_halfyard_k02_whole_parts) (q := view (OpenLaw.row PySem.Challenge.rw_halfyard_k02_whole_parts).prog [44]) (H := K02.hk) (ob := K02.ob) (M := 3000) (loose := K02.loose) (d := HandSHeadRun.topDef (OpenLaw.row PySem.Challenge.rw_halfyard_k02_whole_parts).prog 44) (kwd := []) K02.ob_eq
    (by kernel_rfl) (fun s => by kernel_rfl) K02.run (by kernel_rfl) (by kernel_rfl) (by kernel_rfl) (by rfl) (by first | assumption | decide +kernel) (by decide +kernel) ⟨rfl, rfl, rfl, rfl, rfl, by decide +kernel⟩ ?hw ?hc
  case hw => w_witness2
  case hc =>
    refine L2.walk_ofE (l := PySem.Challenge.rw_halfyard_k02_whole_parts) (n := 63) (k := K02.DEEP) (x := "script") (CX := L2.CX0) rfl (by decide) (by kernel_rfl) ⟨rfl, by decide, by decide⟩ ?F (fun _ _ _ _ z => z)
    intro w mg fa h Y G hmg0
    obtain ⟨K, KX, C⟩ := Y
    have c := C.d
    have hmg : mg ("law" : PySem.Str) = some (.ref fa) := by
      have e : (HandSHeadRun.topDef (OpenLaw.row PySem.Challenge.rw_halfyard_k02_whole_parts).prog 44).name = ("law" : PySem.Str) := by kernel_rfl
      rw [← e]
      exact hmg0
    have M := K02.mdok (w := w) KX G C
    obtain ⟨fd, F⟩ := c.def_ 33 (d := K02.d_law) rfl
    have e := hmg.symm.trans (He.glo_ok KX G (c.fact 33 (f := .glo "law") rfl))
    cases e
    have hb := L2.FunD.bindsA (ps := ["script"]) F fun _ _ _ _ _ _ us hl => match us, hl with | [_], _ => rfl
    exact ⟨K, fd, Py.spLaw K 63, KX, fun s v => hb s [v] rfl, fun H a ns hl _ hS => ⟨a, ns, rfl, hl, hS, fun _ => rfl⟩, fun base _ _ => Py.law_fn M (k := 33) (r := K02.r_law) rfl K02.law_ok F⟩
end

