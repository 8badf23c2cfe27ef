import PyProof.Rows.All
import HandS.ForMost
import HandS.Text
import HandS.Style
import HandS.Iter
import HandS.SortInts
import HandS.TupAny
import HandS.TupMul
import PyProof.StrBlock2
import HandS.Wide
import HandS.IsInst
import HandS.Deep
import PyProof.ListStr
import PyProof.TupleOfStr
import PyProof.Seq
import PyProof.Rows.TupIter
import KE.DataMinMax
import KE.LtData
import ObjForm.LawKit
import PyProof.Rows.Shapes
import PyProof.Rows.SortShellAny
import KE.GoesEnum
import KE.GoesMore
import KE.GoesZip
import KE.KDictZip
import HandS.MapObj
import HandS.Conv
import HandS.SetFor
import HandS.Strs
import PyProof.Rows.StrStep
import HandS.Defaults
import HandS.Head0
import HandS.Head1
import HandS.Head2
import HandS.HeadEnd
import HandS.HeadHook1
import HandS.HeadHook2
import HandS.Words
import PyProof.Rows.StrCountLaw
import PyProof.Rows.StrFirst
import PySem.Challenge.RW_knownbylight_k18_whole_codes_and_crossin
set_option Elab.async false
set_option linter.all false
/-! PyI1: values as trees, a small language, its interpreter. -/
namespace PyI

/-- a key of a dict: an int or a text -/
inductive Ky where
  | int (i : Int) | str (s : List Nat)
  deriving DecidableEq, Inhabited
inductive PV where
  | non | bl (b : Bool) | int (i : Int) | str (x : List Nat) | tup (xs : List PV) | lst (xs : List PV) | fn (i : Nat) | loc (i : Nat)
  /-- a list that nobody changes: the script -/
  | scr (xs : List PV)
  /-- a dict that nobody changes: its keys (texts), its values -/
  | dct (ks : List Ky) (xs : List PV)
  deriving Inhabited

/-- the objects of the store: lists that are handed on and changed (their items scalars) -/
abbrev Store := List (List PV)
abbrev Env := List (Option PV)

inductive Res (α : Type) where
  | ok (a : α) (s : Store)
  | exc (c : Nat) (p : PV) (s : Store)
  | bad
  deriving Inhabited

namespace Res
def bind {α β : Type} : Res α → (α → Store → Res β) → Res β
  | ok a s, f => f a s
  | exc c p s, _ => exc c p s
  | bad, _ => bad
def ofO {α : Type} : Option α → Store → Res α
  | some a, s => ok a s
  | none, _ => bad
@[simp] theorem bind_ok {α β : Type} (a : α) (s : Store) (f : α → Store → Res β) : (ok a s).bind f = f a s := rfl
@[simp] theorem bind_bad {α β : Type} (f : α → Store → Res β) : (bad : Res α).bind f = bad := rfl
@[simp] theorem bind_exc {α β : Type} (c p s) (f : α → Store → Res β) : (exc c p s : Res α).bind f = exc c p s := rfl
@[simp] theorem ofO_some {α : Type} (a : α) (s : Store) : ofO (some a) s = ok a s := rfl
@[simp] theorem ofO_none {α : Type} (s : Store) : (ofO none s : Res α) = bad := rfl
theorem bind_eq_ok {α β : Type} {r : Res α} {f : α → Store → Res β} {b : β} {s : Store} (h : r.bind f = ok b s) : ∃ a s1, r = ok a s1 ∧ f a s1 = ok b s := by
  cases r with
  | ok a s1 => exact ⟨a, s1, rfl, h⟩
  | exc c p s1 => cases h
  | bad => cases h
theorem ofO_eq_ok {α : Type} {o : Option α} {s s' : Store} {a : α} (h : ofO o s = ok a s') : o = some a ∧ s' = s := by
  cases o with
  | none => cases h
  | some b => cases h; exact ⟨rfl, rfl⟩
end Res

/-- the line of sizes -/
abbrev SZ : Nat := 16777216

mutual
/-- data: no defs, no places of the store -/
def isD : PV → Bool
  | .non | .bl _ | .int _ | .str _ => true
  | .tup xs | .lst xs => isDs xs
  | .fn _ | .loc _ | .scr _ | .dct _ _ => false
def isDs : List PV → Bool
  | [] => true
  | x :: xs => isD x && isDs xs
end
mutual
def depth : PV → Nat
  | .tup xs | .lst xs => depths xs + 1
  | _ => 0
def depths : List PV → Nat
  | [] => 0
  | x :: xs => max (depth x) (depths xs)
end
mutual
/-- no list in it -/
def listFree : PV → Bool
  | .tup xs => listFrees xs
  | .scr xs => listFrees xs
  | .lst _ => false
  | .dct _ _ => false
  | _ => true
def listFrees : List PV → Bool
  | [] => true
  | x :: xs => listFree x && listFrees xs
end
/-- the signs of a text are such -/
def okS (x : List Nat) : Bool := x.all fun c => decide (c < 1114112)
def isScal : PV → Bool
  | .non | .bl _ | .int _ | .str _ => true
  | _ => false
/-! ### sorting -/
def insI (x : Int) : List Int → List Int
  | [] => [x]
  | y :: r => if x ≤ y then x :: y :: r else y :: insI x r
def sortI : List Int → List Int
  | [] => []
  | x :: r => insI x (sortI r)
/-- .. without doubles, of a sorted list -/
def dedI : List Int → List Int
  | [] => []
  | x :: r => (match dedI r with
    | [] => [x]
    | y :: t => if x = y then y :: t else x :: y :: t)
def b2i (b : Bool) : Int := if b then 1 else 0
mutual
/-- Python's == -/
def eqv : PV → PV → Bool
  | .non, .non => true
  | .bl a, .bl b => a == b
  | .bl a, .int j => b2i a == j
  | .int i, .bl b => i == b2i b
  | .int i, .int j => i == j
  | .str x, .str y => x == y
  | .tup xs, .tup ys => eqvs xs ys
  | .lst xs, .lst ys => eqvs xs ys
  | _, _ => false
def eqvs : List PV → List PV → Bool
  | [], [] => true
  | x :: xs, y :: ys => eqv x y && eqvs xs ys
  | _, _ => false
end
/-- fit for == -/
def okEq (x y : PV) : Bool := isD x && isD y && decide (depth x ≤ 40) && decide (depth y ≤ 40)

/-! ### texts -/
def strLt : List Nat → List Nat → Bool
  | [], [] => false
  | [], _ :: _ => true
  | _ :: _, [] => false
  | x :: xs, y :: ys => if x < y then true else if y < x then false else strLt xs ys
def insS (x : List Nat) : List (List Nat) → List (List Nat)
  | [] => [x]
  | y :: r => if strLt y x then y :: insS x r else x :: y :: r
def sortS : List (List Nat) → List (List Nat)
  | [] => []
  | x :: r => insS x (sortS r)
/-- .. without doubles, of a sorted list of texts -/
def dedS : List (List Nat) → List (List Nat)
  | [] => []
  | x :: r => (match dedS r with
    | [] => [x]
    | y :: t => if x = y then y :: t else x :: y :: t)
def isPre : List Nat → List Nat → Bool
  | [], _ => true
  | _ :: _, [] => false
  | x :: xs, y :: ys => x == y && isPre xs ys
def isSub (x : List Nat) : List Nat → Bool
  | [] => x.isEmpty
  | y :: ys => isPre x (y :: ys) || isSub x ys
/-- x repeated -/
def rep {α : Type} (x : List α) : Nat → List α
  | 0 => []
  | n + 1 => x ++ rep x n

/-! ### operators -/
inductive BinO where | add | sub | mul | fdiv | mod | pow
  deriving DecidableEq
inductive UnO where | neg
  deriving DecidableEq
inductive CmpO where | eq | ne | lt | le | gt | ge | isN | isNotN | in_ | notIn | isB | isNotB
  deriving DecidableEq

def lim64 (i : Int) : Bool := decide (-(2 ^ 64) < i) && decide (i < 2 ^ 64)
def lim63 (i : Int) : Bool := decide (-(2 ^ 63) ≤ i) && decide (i < 2 ^ 63)
def binop : BinO → PV → PV → Option PV
  | .add, .int i, .int j => some (.int (i + j))
  | .add, .str x, .str y => if x.length + y.length ≤ SZ then some (.str (x ++ y)) else none
  | .add, .lst x, .lst y => if x.length + y.length ≤ SZ then some (.lst (x ++ y)) else none
  | .add, .tup x, .tup y => if x.length + y.length ≤ SZ then some (.tup (x ++ y)) else none
  | .sub, .int i, .int j => some (.int (i - j))
  | .mul, .int i, .int j => if lim64 i || lim64 j || decide (i.natAbs.log2 + j.natAbs.log2 < 1000000) then some (.int (i * j)) else none
  | .mul, .str x, .int j => if (x.length : Int) * j ≤ SZ && lim63 j then some (.str (rep x j.toNat)) else none
  | .mul, .lst x, .int j => if (x.length : Int) * j ≤ SZ && lim63 j then some (.lst (rep x j.toNat)) else none
  | .mul, .tup x, .int j => if 2 ≤ j && j ≤ 1000 && 1 ≤ x.length && x.length ≤ 1000 then some (.tup (rep x j.toNat)) else none
  | .fdiv, .int i, .int j => if 0 < j && j < 1073741824 then some (.int (i / j)) else none
  | .mod, .int i, .int j => if 0 < j then some (.int (i % j)) else none
  | .pow, .int i, .int j => if 0 ≤ j && j ≤ 1000000 && lim64 i then some (.int (i ^ j.toNat)) else none
  | _, _, _ => none
def unop : UnO → PV → Option PV
  | .neg, .int i => some (.int (-i))
  | _, _ => none
def isIn (x : PV) : List PV → Bool
  | [] => false
  | y :: ys => eqv y x || isIn x ys
/-- the key of a value -/
def kyP : PV → Option Ky
  | .int i => some (.int i)
  | .str s => some (.str s)
  | _ => none
def kyV : Ky → PV
  | .int i => .int i
  | .str s => .str s
def cmpop : CmpO → PV → PV → Option Bool
  | .eq, x, y => if okEq x y then some (eqv x y) else none
  | .ne, x, y => if okEq x y then some (!eqv x y) else none
  | .lt, .int i, .int j => some (decide (i < j))
  | .le, .int i, .int j => some (decide (i ≤ j))
  | .gt, .int i, .int j => some (decide (j < i))
  | .ge, .int i, .int j => some (decide (j ≤ i))
  | .lt, .str x, .str y => some (strLt x y)
  | .le, .str x, .str y => some (!strLt y x)
  | .gt, .str x, .str y => some (strLt y x)
  | .ge, .str x, .str y => some (!strLt x y)
  | .isN, x, _ => some (match x with | .non => true | _ => false)
  | .isNotN, x, _ => some (match x with | .non => false | _ => true)
  | .isB, .bl a, .bl b => some (a == b)
  | .isNotB, .bl a, .bl b => some (!(a == b))
  | .in_, .str x, .str y => some (isSub x y)
  | .notIn, .str x, .str y => some (!isSub x y)
  | .in_, x, .dct ks _ => (kyP x).map fun k => decide (k ∈ ks)
  | .notIn, x, .dct ks _ => (kyP x).map fun k => !decide (k ∈ ks)
  | .in_, x, .lst ys => if isD x && isDs ys && decide (depth x ≤ 40) && decide (depths ys ≤ 40) then some (isIn x ys) else none
  | .in_, x, .tup ys => if isD x && isDs ys && decide (depth x ≤ 40) && decide (depths ys ≤ 40) then some (isIn x ys) else none
  | .notIn, x, .lst ys => if isD x && isDs ys && decide (depth x ≤ 40) && decide (depths ys ≤ 40) then some (!isIn x ys) else none
  | .notIn, x, .tup ys => if isD x && isDs ys && decide (depth x ≤ 40) && decide (depths ys ≤ 40) then some (!isIn x ys) else none
  | _, _, _ => none
def truth : PV → Option Bool
  | .bl b => some b
  | _ => none

/-! ### places and slices -/
def ixN (n : Nat) (i : Int) : Option Nat := if 0 ≤ i then (if i < n then some i.toNat else none) else if -(n : Int) ≤ i then some (i + n).toNat else none
def getAt {α : Type} (xs : List α) (i : Int) : Option α := (ixN xs.length i).bind fun j => xs[j]?
/-- what stands behind a key -/
def lookD (k : Ky) : List Ky → List PV → Option PV
  | j :: js, x :: xs => if j = k then some x else lookD k js xs
  | _, _ => none
/-- a key is put -/
def putKs (k : Ky) (ks : List Ky) : List Ky := if k ∈ ks then ks else ks ++ [k]
def putIn {α : Type} (k : Ky) (x : α) : List Ky → List α → List α
  | j :: js, y :: ys => (if j = k then x else y) :: putIn k x js ys
  | _, _ => []
def putXs {α : Type} (k : Ky) (x : α) (ks : List Ky) (xs : List α) : List α := if k ∈ ks then putIn k x ks xs else xs ++ [x]
def subop : PV → PV → Option PV
  | .dct ks xs, k => (kyP k).bind fun k => lookD k ks xs
  | .lst xs, .int i => getAt xs i
  | .tup xs, .int i => getAt xs i
  | .str x, .int i => if x.length ≤ SZ then (getAt x i).map fun c => .str [c] else none
  | _, _ => none
/-- .. also of a place of the store -/
def subS (s : Store) : PV → PV → Option PV
  | .loc p, .int i => (s[p]?).bind fun xs => getAt xs i
  | x, y => subop x y
/-- a slice's end, cut to the length -/
def sIx (n d : Nat) : Option Int → Nat
  | none => d
  | some v => if v < 0 then (v + n).toNat else min v.toNat n
def cut {α : Type} (xs : List α) (lo hi : Option Int) : List α := (xs.drop (sIx xs.length 0 lo)).take (sIx xs.length xs.length hi - sIx xs.length 0 lo)
def slV (x : PV) (l h : Option Int) : Option PV := match x with
  | .lst xs => some (.lst (cut xs l h))
  | .tup xs => some (.tup (cut xs l h))
  | .str s => if s.length ≤ SZ then some (.str (cut s l h)) else none
  | _ => none

/-! ### built-in functions -/
inductive Blt where | len | abs | int | list | tuple | sum | min1 | max1 | min2 | max2 | sorted | all | any | str
  deriving DecidableEq
def allB : List PV → Option Bool
  | [] => some true
  | .bl b :: r => (allB r).map fun c => b && c
  | _ :: _ => none
def anyB : List PV → Option Bool
  | [] => some false
  | .bl b :: r => (anyB r).map fun c => b || c
  | _ :: _ => none
def intsOf : List PV → Option (List Int)
  | [] => some []
  | .int i :: r => (intsOf r).map fun l => i :: l
  | _ :: _ => none
def strsOf : List PV → Option (List (List Nat))
  | [] => some []
  | .str i :: r => (strsOf r).map fun l => i :: l
  | _ :: _ => none
def sumI : List Int → Int
  | [] => 0
  | i :: r => i + sumI r
def minI (i : Int) : List Int → Int
  | [] => i
  | j :: r => minI (if j < i then j else i) r
def maxI (i : Int) : List Int → Int
  | [] => i
  | j :: r => maxI (if j > i then j else i) r
def minS (x : List Nat) : List (List Nat) → List Nat
  | [] => x
  | y :: r => minS (if strLt y x then y else x) r
def maxS (x : List Nat) : List (List Nat) → List Nat
  | [] => x
  | y :: r => maxS (if strLt x y then y else x) r
def decS (i : Int) : List Nat := (PySem.Str.ofString (toString i)).cps.toList
def blt1 : Blt → PV → Option PV
  | .len, .str x => if x.length ≤ SZ then some (.int x.length) else none
  | .len, .lst x => some (.int x.length)
  | .len, .tup x => some (.int x.length)
  | .len, .scr x => some (.int x.length)
  | .abs, .int i => some (.int (if i < 0 then -i else i))
  | .int, .int i => some (.int i)
  | .list, .lst x => some (.lst x)
  | .list, .tup x => some (.lst x)
  | .list, .scr x => some (.lst x)
  | .list, .str x => if x.length ≤ SZ then some (.lst (x.map fun c => .str [c])) else none
  | .tuple, .lst x => some (.tup x)
  | .tuple, .tup x => some (.tup x)
  | .tuple, .str x => if x.length ≤ SZ then some (.tup (x.map fun c => .str [c])) else none
  | .all, .lst x => (allB x).map .bl
  | .any, .lst x => (anyB x).map .bl
  | .sum, .lst x => (intsOf x).map fun l => .int (sumI l)
  | .min1, .lst x => (match intsOf x with
    | some (i :: r) => some (.int (minI i r))
    | some [] => none
    | none => (match strsOf x with
      | some (i :: r) => some (.str (minS i r))
      | _ => none))
  | .max1, .lst x => (match intsOf x with
    | some (i :: r) => some (.int (maxI i r))
    | some [] => none
    | none => (match strsOf x with
      | some (i :: r) => some (.str (maxS i r))
      | _ => none))
  | .sorted, .lst x => (match intsOf x with
    | some l => some (.lst ((sortI l).map .int))
    | none => (match strsOf x with
      | some l => if l.length < 64 then some (.lst ((sortS l).map .str)) else none
      | none => none))
  | .sorted, .tup x => (strsOf x).map fun l => .lst ((sortS l).map .str)
  | .str, .int i => if lim64 i && okS (decS i) then some (.str (decS i)) else none
  | _, _ => none
def blt2 : Blt → PV → PV → Option PV
  | .max2, .int i, .int j => some (.int (if j > i then j else i))
  | .min2, .int i, .int j => some (.int (if j < i then j else i))
  | _, _, _ => none
def bltop (b : Blt) : List PV → Option PV
  | [x] => blt1 b x
  | [x, y] => blt2 b x y
  | _ => none

/-- methods -/
inductive Meth where | join | count | find | startswith | endswith
  deriving DecidableEq
def mkS (x : List Nat) : PySem.Str := ⟨x.toArray⟩
def joinV (s : List Nat) (xs : List PV) : Option PV := (strsOf xs).bind fun l => if ((l.map mkS).map (·.length)).sum + (l.map mkS).length * (mkS s).length ≤ SZ && okS (PySem.Txt.join (mkS s) (l.map mkS)).cps.toList then some (.str (PySem.Txt.join (mkS s) (l.map mkS)).cps.toList) else none
def mt1 : Meth → List Nat → PV → Option PV
  | .join, s, .lst xs => joinV s xs
  | .join, s, .tup xs => joinV s xs
  | .count, a, .str b => some (.int (PySem.Txt.count (mkS a) (mkS b)))
  | .find, a, .str b => some (.int (PySem.Txt.find (mkS a) (mkS b)))
  | .startswith, a, .str b => some (.bl (PySem.Txt.startswith (mkS a) (mkS b)))
  | .endswith, a, .str b => some (.bl (PySem.Txt.endswith (mkS a) (mkS b)))
  | _, _, _ => none
def mtop (m : Meth) : PV → List PV → Option PV
  | .str s, [x] => mt1 m s x
  | _, _ => none
/-- the types of isinstance -/
inductive Ty where | int | bool | str | tuple | list
  deriving DecidableEq
def isTy : Ty → PV → Option Bool
  | _, .fn _ => none
  | _, .loc _ => none
  | _, .scr _ => none
  | _, .dct _ _ => none
  | .int, .int _ => some true
  | .int, .bl _ => some true
  | .bool, .bl _ => some true
  | .str, .str _ => some true
  | .tuple, .tup _ => some true
  | .list, .lst _ => some true
  | _, _ => some false

/-! ### the language -/
mutual
inductive Tg where
  | name (i : Nat)
  | tup (ts : Tgs)
inductive Tgs where
  | nil
  | cons (t : Tg) (ts : Tgs)
end

mutual
inductive E where
  | con (v : PV)
  | var (i : Nat)
  | bin (o : BinO) (a b : E)
  | un (o : UnO) (a : E)
  | cmp (o : CmpO) (a b : E)
  | chain (o p : CmpO) (a b c : E)
  | and (a b : E)
  | or (a b : E)
  | not (a : E)
  | ite (c a b : E)
  | tup (es : Es)
  | lst (es : Es)
  | sub (a i : E)
  | slice (a lo hi : E)
  | call (f : Nat) (es : Es)
  | blt (b : Blt) (es : Es)
  | isin (a : E) (t : Ty)
  | meth (m : Meth) (a : E) (es : Es)
  /-- a[lo:hi:-1], a tuple -/
  | step (a lo hi : E)
  /-- sorted(set(a)) -/
  | sset (a : E)
  /-- list(range(a)), list(range(a, b)) -/
  | lrng1 (a : E)
  | lrng2 (a b : E)
  /-- xs.count(k) -/
  | lcnt (a b : E)
  /-- len(set(xs)) -/
  | lenset (a : E)
  /-- xs.index(k) -/
  | lidx (a b : E)
  /-- dict(xs) -/
  | dict (a : E)
  /-- tuple(zip(a, b)) -/
  | tzip (a b : E)
  | lend (is : List Nat) (e : E)
  /-- a written list that is a place of the store -/
  | newP (es : Es)
  | comp (vs : List Nat) (t : Tg) (it : It) (c e : E)
  | comp2 (vs vs1 : List Nat) (t : Tg) (it : It) (c : E) (t1 : Tg) (it1 : It) (c1 e : E)
inductive Es where
  | nil
  | cons (e : E) (es : Es)
inductive It where
  | seq (e : E)
  | range1 (a : E)
  | range2 (a b : E)
  | range3 (a b c : E)
  | enum (e : E)
  | enum2 (e i : E)
  | zip (a b : E)
end

mutual
def asg : Tg → PV → Env → Option Env
  | .name i, v, r => some (r.set i (some v))
  | .tup ts, .tup vs, r => asgs ts vs r
  | .tup ts, .lst vs, r => asgs ts vs r
  | .tup _, _, _ => none
def asgs : Tgs → List PV → Env → Option Env
  | .nil, [], r => some r
  | .cons t ts, v :: vs, r => (asg t v r).bind fun r => asgs ts vs r
  | _, _, _ => none
end

def wipe (r : Env) : List Nat → Env
  | [] => r
  | v :: vs => (wipe r vs).set v none

/-- a list comprehension's loop: f gives the item, or none -/
def compL (f : PV → Store → Res (Option PV)) : List PV → Store → Res (List PV)
  | [], s => .ok [] s
  | x :: xs, s => (f x s).bind fun o s => (compL f xs s).bind fun ys s => match o with
    | some y => .ok (y :: ys) s
    | none => .ok ys s
def compLs (f : PV → Store → Res (List PV)) : List PV → Store → Res (List PV)
  | [], s => .ok [] s
  | x :: xs, s => (f x s).bind fun o s => (compLs f xs s).bind fun ys s => .ok (o ++ ys) s

def rangeL (lo : Int) : Nat → List PV
  | 0 => []
  | n + 1 => .int lo :: rangeL (lo + 1) n
def enumL (i : Int) : List PV → List PV
  | [] => []
  | x :: xs => .tup [.int i, x] :: enumL (i + 1) xs
def zipL : List PV → List PV → List PV
  | x :: xs, y :: ys => .tup [x, y] :: zipL xs ys
  | _, _ => []
/-- what a for walks -/
def itemsOf : PV → Option (List PV)
  | .scr xs => some xs
  | .lst xs => some xs
  | .tup xs => some xs
  | .str x => some (x.map fun c => .str [c])
  | _ => none
def lim62 (i : Int) : Bool := decide (-(2 ^ 62) ≤ i) && decide (i < 2 ^ 62)
def range1op : PV → Option (List PV)
  | .int j => if lim62 j then some (rangeL 0 j.toNat) else none
  | _ => none
def range2op : PV → PV → Option (List PV)
  | .int i, .int j => if lim62 i && lim62 j then some (rangeL i (j - i).toNat) else none
  | _, _ => none
def rangeT (i c : Int) : Nat → List PV
  | 0 => []
  | n + 1 => .int i :: rangeT (i + c) c n
def range3op : PV → PV → PV → Option (List PV)
  | .int i, .int j, .int c => if c ≠ 0 && decide (c.natAbs < 1073741824) && PySem.Builtin.Range.small i j c && decide (PySem.Builtin.Range.rangeSize i j c = ((PySem.Builtin.Range.rangeSize i j c).toNat : Int)) then some (rangeT i c (PySem.Builtin.Range.rangeSize i j c).toNat) else none
  | _, _, _ => none
/-- the items of a slice with a step -/
def stepL {α : Type} (xs : List α) (lo hi : Option Int) (st : Int) : List α :=
  (List.range (PySem.Builtin.Slice.slicePlaces (PySem.Builtin.Slice.sliceAdjust lo hi st (xs.length : Int)).1 (PySem.Builtin.Slice.sliceAdjust lo hi st (xs.length : Int)).2 st)).filterMap fun (k : Nat) => xs[((PySem.Builtin.Slice.sliceAdjust lo hi st (xs.length : Int)).1 + (k : Int) * st).toNat]?
def stepV : PV → Option Int → Option Int → Option PV
  | .tup xs, l, h => if (stepL xs l h (-1)).length ≤ SZ then some (.tup (stepL xs l h (-1))) else none
  | .lst xs, none, none => some (.lst xs.reverse)
  | .str x, none, none => if x.length ≤ SZ then some (.str x.reverse) else none
  | _, _, _ => none
def ssetV : PV → Option PV
  | .lst xs => (match intsOf xs with
    | some l => if l.length < 64 then some (.lst ((dedI (sortI l)).map .int)) else none
    | none => (match strsOf xs with
      | some l => if l.length < 1000 then some (.lst ((dedS (sortS l)).map .str)) else none
      | none => none))
  | .tup xs => (match strsOf xs with
    | some l => if l.length < 1000 then some (.lst ((dedS (sortS l)).map .str)) else none
    | none => none)
  | _ => none
def lrngV : PV → PV → Option PV
  | .int i, .int j => if lim62 i && lim62 j && decide ((j - i).toNat ≤ SZ) then some (.lst (rangeL i (j - i).toNat)) else none
  | _, _ => none
def lcntV : PV → PV → Option PV
  | .lst xs, .int k => (intsOf xs).map fun l => .int (l.count k : Nat)
  | _, _ => none
def lensetV : PV → Option PV
  | .lst xs => (intsOf xs).bind fun l => if l.length < 1000 then some (.int ((dedI (sortI l)).length : Nat)) else none
  | _ => none
/-- pairs of a text and a value -/
def pairsL : List PV → Option (List (Ky × PV))
  | [] => some []
  | .tup [k, x] :: r => (kyP k).bind fun k => (pairsL r).map fun l => (k, x) :: l
  | _ :: _ => none
def onceB : List Ky → Bool
  | [] => true
  | k :: r => !decide (k ∈ r) && onceB r
def dictOf (xs : List PV) : Option PV := (pairsL xs).bind fun l => if onceB (l.map (·.1)) && decide (l.length ≤ 1000) then some (.dct (l.map (·.1)) (l.map (·.2))) else none
def dictV : PV → Option PV
  | .lst xs => dictOf xs
  | _ => none
/-- the first place of a value -/
def idxL (y : PV) : List PV → Option Nat
  | [] => none
  | x :: r => if eqv x y then some 0 else (idxL y r).map (· + 1)
def lidxV : PV → PV → Option PV
  | .lst xs, y => if xs.all isScal && isScal y then (idxL y xs).map fun (j : Nat) => .int (j : Int) else none
  | _, _ => none
/-- given back from a lend: no list, or a new list of such -/
def lendOk (fr : Bool) : PV → Bool
  | .lst xs => fr && listFrees xs
  | v => listFree v
/-- a form that makes a new list (when it makes one) -/
def fresh : E → Bool
  | .lst _ => true
  | .comp .. => true
  | .comp2 .. => true
  | .bin .add _ _ => true
  | .bin .mul _ _ => true
  | .slice _ _ _ => true
  | .blt .list _ => true
  | .blt .sorted _ => true
  | .lend _ e => fresh e
  | .sset _ => true
  | .lrng1 _ => true
  | .lrng2 _ _ => true
  | _ => false
/-- a slice's part: left out, or an int -/
def partOf : E → PV → Option (Option Int)
  | .con .non, _ => some none
  | _, .int i => some (some i)
  | _, _ => none
/-- what the call of a def gives -/
abbrev CF := Nat → List PV → Store → Res PV

mutual
def ev (cf : CF) : E → Env → Store → Res PV
  | .con v, _, s => .ok v s
  | .var i, r, s => match r[i]? with
    | some (some v) => .ok v s
    | _ => .bad
  | .bin o a b, r, s => (ev cf a r s).bind fun x s => (ev cf b r s).bind fun y s => Res.ofO (binop o x y) s
  | .un o a, r, s => (ev cf a r s).bind fun x s => Res.ofO (unop o x) s
  | .cmp o a b, r, s => (ev cf a r s).bind fun x s => (ev cf b r s).bind fun y s => Res.ofO ((cmpop o x y).map .bl) s
  | .chain o p a b c, r, s => (ev cf a r s).bind fun x s => (ev cf b r s).bind fun y s => (Res.ofO (cmpop o x y) s).bind fun k s =>
      if k then (ev cf c r s).bind fun z s => Res.ofO ((cmpop p y z).map .bl) s else .ok (.bl false) s
  | .and a b, r, s => (ev cf a r s).bind fun x s => (Res.ofO (truth x) s).bind fun k s => if k then ev cf b r s else .ok (.bl false) s
  | .or a b, r, s => (ev cf a r s).bind fun x s => (Res.ofO (truth x) s).bind fun k s => if k then .ok (.bl true) s else ev cf b r s
  | .not a, r, s => (ev cf a r s).bind fun x s => (Res.ofO (truth x) s).bind fun k s => .ok (.bl (!k)) s
  | .ite c a b, r, s => (ev cf c r s).bind fun x s => (Res.ofO (truth x) s).bind fun k s => if k then ev cf a r s else ev cf b r s
  | .tup es, r, s => (evs cf es r s).bind fun xs s => if xs.length ≤ SZ then .ok (.tup xs) s else .bad
  | .lst es, r, s => (evs cf es r s).bind fun xs s => if xs.length ≤ SZ then .ok (.lst xs) s else .bad
  | .sub a i, r, s => (ev cf a r s).bind fun x s => (ev cf i r s).bind fun y s => Res.ofO (subS s x y) s
  | .slice a lo hi, r, s => (ev cf a r s).bind fun x s => (ev cf lo r s).bind fun l s => (ev cf hi r s).bind fun h s => Res.ofO ((partOf lo l).bind fun l => (partOf hi h).bind fun h => slV x l h) s
  | .call f es, r, s => (evs cf es r s).bind fun xs s => cf f xs s
  | .blt b es, r, s => (evs cf es r s).bind fun xs s => Res.ofO (bltop b xs) s
  | .isin a t, r, s => (ev cf a r s).bind fun x s => Res.ofO ((isTy t x).map .bl) s
  | .meth m a es, r, s => (ev cf a r s).bind fun x s => (evs cf es r s).bind fun ys s => Res.ofO (mtop m x ys) s
  | .step a lo hi, r, s => (ev cf a r s).bind fun x s => (ev cf lo r s).bind fun l s => (ev cf hi r s).bind fun h s => Res.ofO ((partOf lo l).bind fun l => (partOf hi h).bind fun h => stepV x l h) s
  | .sset a, r, s => (ev cf a r s).bind fun x s => Res.ofO (ssetV x) s
  | .lrng1 a, r, s => (ev cf a r s).bind fun x s => Res.ofO (lrngV (.int 0) x) s
  | .lrng2 a b, r, s => (ev cf a r s).bind fun x s => (ev cf b r s).bind fun y s => Res.ofO (lrngV x y) s
  | .lcnt a b, r, s => (ev cf a r s).bind fun x s => (ev cf b r s).bind fun y s => Res.ofO (lcntV x y) s
  | .lenset a, r, s => (ev cf a r s).bind fun x s => Res.ofO (lensetV x) s
  | .tzip a b, r, s => (ev cf a r s).bind fun x s => (ev cf b r s).bind fun y s => Res.ofO ((itemsOf x).bind fun xs => (itemsOf y).bind fun ys => if (zipL xs ys).length ≤ SZ then some (.tup (zipL xs ys)) else none) s
  | .dict a, r, s => (ev cf a r s).bind fun x s => Res.ofO (dictV x) s
  | .lidx a b, r, s => (ev cf a r s).bind fun x s => (ev cf b r s).bind fun y s => Res.ofO (lidxV x y) s
  | .newP es, r, s => (evs cf es r s).bind fun xs s => if xs.all isScal && decide (xs.length ≤ SZ) then .ok (.loc s.length) (s ++ [xs]) else .bad
  | .lend _ e, r, s => (ev cf e r s).bind fun x s => if lendOk (fresh e) x then .ok x s else .bad
  | .comp vs t it c e, r, s => (evI cf it r s).bind fun xs s => (compL (fun x s => (Res.ofO (asg t x (wipe r vs)) s).bind fun r1 s =>
      (ev cf c r1 s).bind fun b s => (Res.ofO (truth b) s).bind fun k s => if k then (ev cf e r1 s).bind fun y s => .ok (some y) s else .ok none s) xs s).bind fun ys s => if ys.length ≤ SZ then .ok (.lst ys) s else .bad
  | .comp2 vs vs1 t it c t1 it1 c1 e, r, s => (evI cf it r s).bind fun xs s => (compLs (fun x s => (Res.ofO (asg t x (wipe r vs)) s).bind fun r1 s =>
      (ev cf c r1 s).bind fun b s => (Res.ofO (truth b) s).bind fun k s => if k then (evI cf it1 r1 s).bind fun xs1 s =>
        compL (fun x1 s => (Res.ofO (asg t1 x1 (wipe r1 vs1)) s).bind fun r2 s => (ev cf c1 r2 s).bind fun b1 s => (Res.ofO (truth b1) s).bind fun k1 s =>
          if k1 then (ev cf e r2 s).bind fun y s => .ok (some y) s else .ok none s) xs1 s else .ok [] s) xs s).bind fun ys s => if ys.length ≤ SZ then .ok (.lst ys) s else .bad
def evs (cf : CF) : Es → Env → Store → Res (List PV)
  | .nil, _, s => .ok [] s
  | .cons e es, r, s => (ev cf e r s).bind fun x s => (evs cf es r s).bind fun xs s => .ok (x :: xs) s
def evI (cf : CF) : It → Env → Store → Res (List PV)
  | .seq e, r, s => (ev cf e r s).bind fun x s => Res.ofO (itemsOf x) s
  | .range1 a, r, s => (ev cf a r s).bind fun x s => Res.ofO (range1op x) s
  | .range2 a b, r, s => (ev cf a r s).bind fun x s => (ev cf b r s).bind fun y s => Res.ofO (range2op x y) s
  | .range3 a b c, r, s => (ev cf a r s).bind fun x s => (ev cf b r s).bind fun y s => (ev cf c r s).bind fun z s => Res.ofO (range3op x y z) s
  | .enum e, r, s => (ev cf e r s).bind fun x s => Res.ofO ((itemsOf x).map (enumL 0)) s
  | .enum2 e i, r, s => (ev cf e r s).bind fun x s => (ev cf i r s).bind fun y s => Res.ofO ((itemsOf x).bind fun xs => match y with | .int j => if lim62 j then some (enumL j xs) else none | _ => none) s
  | .zip a b, r, s => (ev cf a r s).bind fun x s => (ev cf b r s).bind fun y s => Res.ofO ((itemsOf x).bind fun xs => (itemsOf y).map fun ys => zipL xs ys) s
end

mutual
inductive S where
  | pass
  /-- a value dropped -/
  | drop (e : E)
  | asg (t : Tg) (e : E)
  /-- a, b, .. = x, y, .. to plain names -/
  | par (is : List Nat) (es : Es)
  /-- .. the o-th becomes an owner of a new list without items -/
  | parO (is : List Nat) (o : Nat) (es : Es)
  /-- a name that becomes an owner of a new list -/
  | own (i : Nat) (e : E)
  /-- .. of a new dict; of two -/
  | ownD (i : Nat)
  | ownDD (i j : Nat)
  /-- x = xs.pop(e) of an owner's list -/
  | popL (j i : Nat) (e : E)
  | free (i : Nat)
  | app (i : Nat) (e : E)
  | setL (i : Nat) (k e : E)
  /-- p[k] = e, p a place of the store -/
  | setP (i : Nat) (k e : E)
  | ret (e : E)
  | retN
  | ite (c : E) (a b : Ss)
  | for_ (t : Tg) (it : It) (b : Ss)
  | while_ (c : E) (b : Ss)
  | brk
  | cont
  | raise (c : Nat)
inductive Ss where
  | nil
  | cons (s : S) (ss : Ss)
end

inductive Fl where
  | next (r : Env)
  | brk (r : Env)
  | cont (r : Env)
  | ret (v : PV)

def setsEnv : List Nat → List PV → Env → Option Env
  | [], [], r => some r
  | i :: is, v :: vs, r => setsEnv is vs (r.set i (some v))
  | _, _, _ => none

def forL (f : PV → Env → Store → Res Fl) : List PV → Env → Store → Res Fl
  | [], r, s => .ok (.next r) s
  | x :: xs, r, s => (f x r s).bind fun fl s => match fl with
    | .next r => forL f xs r s
    | .cont r => forL f xs r s
    | .brk r => .ok (.next r) s
    | .ret v => .ok (.ret v) s
def whileL (c : Env → Store → Res Bool) (f : Env → Store → Res Fl) : Nat → Env → Store → Res Fl
  | 0, _, _ => .bad
  | n + 1, r, s => (c r s).bind fun k s => if k then (f r s).bind fun fl s => match fl with
      | .next r => whileL c f n r s
      | .cont r => whileL c f n r s
      | .brk r => .ok (.next r) s
      | .ret v => .ok (.ret v) s
    else .ok (.next r) s
def FUEL : Nat := 1000000

mutual
def ex (cf : CF) : S → Env → Store → Res Fl
  | .pass, r, s => .ok (.next r) s
  | .drop e, r, s => (ev cf e r s).bind fun _ s => .ok (.next r) s
  | .asg t e, r, s => (ev cf e r s).bind fun x s => (Res.ofO (asg t x r) s).bind fun r s => .ok (.next r) s
  | .par is es, r, s => (evs cf es r s).bind fun xs s => (Res.ofO (setsEnv is xs r) s).bind fun r s => .ok (.next r) s
  | .parO is o es, r, s => (evs cf es r s).bind fun xs s => match xs[o]? with
    | some (.lst _) => if is.all fun i => decide (i < r.length) then (Res.ofO (setsEnv is xs r) s).bind fun r s => .ok (.next r) s else .bad
    | _ => .bad
  | .own i e, r, s => (ev cf e r s).bind fun x s => match x with
    | .lst xs => if i < r.length then .ok (.next (r.set i (some (.lst xs)))) s else .bad
    | _ => .bad
  | .ownD i, r, s => if i < r.length then .ok (.next (r.set i (some (.dct [] [])))) s else .bad
  | .ownDD i j, r, s => if i < r.length && j < r.length then .ok (.next ((r.set i (some (.dct [] []))).set j (some (.dct [] [])))) s else .bad
  | .popL j i e, r, s => (ev cf e r s).bind fun y s => match r[i]?, y with
    | some (some (.lst xs)), .int n => (match ixN xs.length n with
      | some m => (match xs[m]? with
        | some x => if lim63 n then .ok (.next ((r.set i (some (.lst (xs.eraseIdx m)))).set j (some x))) s else .bad
        | none => .bad)
      | none => .bad)
    | _, _ => .bad
  | .free _, r, s => .ok (.next r) s
  | .app i e, r, s => (ev cf e r s).bind fun x s => match r[i]? with
    | some (some (.lst xs)) => if xs.length < SZ then .ok (.next (r.set i (some (.lst (xs ++ [x]))))) s else .bad
    | _ => .bad
  | .setL i k e, r, s => (ev cf e r s).bind fun x s => (ev cf k r s).bind fun y s => match r[i]?, y with
    | some (some (.lst xs)), .int j => (match ixN xs.length j with
      | some m => .ok (.next (r.set i (some (.lst (xs.set m x))))) s
      | none => .bad)
    | some (some (.dct ks xs)), y => (match kyP y with
      | some k => if ks.length < 100000 then .ok (.next (r.set i (some (.dct (putKs k ks) (putXs k x ks xs))))) s else .bad
      | none => .bad)
    | _, _ => .bad
  | .setP i k e, r, s => (ev cf e r s).bind fun x s => (ev cf k r s).bind fun y s => match r[i]?, y with
    | some (some (.loc p)), .int j => (match s[p]? with
      | some xs => (match ixN xs.length j with
        | some m => if isScal x then .ok (.next r) (s.set p (xs.set m x)) else .bad
        | none => .bad)
      | none => .bad)
    | _, _ => .bad
  | .ret e, r, s => (ev cf e r s).bind fun x s => .ok (.ret x) s
  | .retN, _, s => .ok (.ret .non) s
  | .ite c a b, r, s => (ev cf c r s).bind fun x s => (Res.ofO (truth x) s).bind fun k s => if k then exs cf a r s else exs cf b r s
  | .for_ t it b, r, s => (evI cf it r s).bind fun xs s => forL (fun x r s => (Res.ofO (asg t x r) s).bind fun r s => exs cf b r s) xs r s
  | .while_ c b, r, s => whileL (fun r s => (ev cf c r s).bind fun x s => Res.ofO (truth x) s) (fun r s => exs cf b r s) FUEL r s
  | .brk, r, s => .ok (.brk r) s
  | .cont, r, s => .ok (.cont r) s
  | .raise c, _, s => .exc c .non s
def exs (cf : CF) : Ss → Env → Store → Res Fl
  | .nil, r, s => .ok (.next r) s
  | .cons st ss, r, s => (ex cf st r s).bind fun fl s => match fl with
    | .next r => exs cf ss r s
    | .brk r => .ok (.brk r) s
    | .cont r => .ok (.cont r) s
    | .ret v => .ok (.ret v) s
end

structure Fn where
  /-- how many parameters, names -/
  np : Nat
  nn : Nat
  body : Ss
abbrev Tbl := Nat → Option Fn
def runFn (cf : CF) (f : Fn) (args : List PV) (s : Store) : Res PV :=
  if args.length = f.np then (exs cf f.body (args.map some ++ List.replicate (f.nn - args.length) none) s).bind fun fl s => match fl with
    | .ret v => .ok v s
    | .next _ => .ok .non s
    | _ => .bad
  else .bad
def callF (tbl : Tbl) : Nat → CF
  | 0, _, _, _ => .bad
  | k + 1, i, args, s => match tbl i with
    | some f => runFn (callF tbl k) f args s
    | none => .bad
end PyI

set_option maxRecDepth 100000
/-! PyI2: how trees stand in the layer's heap; the state of a def's body; what steps keep. -/
namespace PyI
open PySem PySem.Spec PyProof.Rows L2

/-- a list that nobody changes -/
def ScL (K : PySem.W.Frag) (H : Hp) (a : Addr) (xs : List V) : Prop := (∃ o, H a = some (.frz o (.lst xs))) ∨
  ∃ (o : Obj) (its : Array Value) (n : Nat), K.lookup a = some o ∧ o.cls = .type "list" ∧ o.dict = none ∧ o.data = .seq its n ∧ its.size ≤ sizeLine ∧ Vals xs its.toList
theorem ScL.sqL {K : PySem.W.Frag} {H : Hp} {a : Addr} {xs : List V} (h : ScL K H a xs) : SqL K H a xs := h.elim (fun ⟨o, h⟩ => .inl (.inr ⟨o, h⟩)) .inr
theorem Same.scL {K : PySem.W.Frag} {H H' : Hp} {a : Addr} {xs : List V} (e : Same H H') (h : ScL K H a xs) : ScL K H' a xs := h.elim (fun ⟨o, h⟩ => .inl ⟨o, e _ _ h⟩) .inr
/-- the pairs of a dict of texts -/
def kyK : Ky → L2.Key
  | .int i => .inl i
  | .str s => .inr ⟨s.toArray⟩
def okK : Ky → Bool
  | .int _ => true
  | .str s => okS s
def keyed (ks : List Ky) (vs : List V) : List (L2.Key × V) := (ks.zip vs).map fun q => (kyK q.1, q.2)
mutual
inductive PRel (K : PySem.W.Frag) (fa : Nat → Addr) (ρ : List Addr) (H : Hp) : PV → V → Prop
  | non : PRel K fa ρ H .non .non
  | bl (b : Bool) : PRel K fa ρ H (.bl b) (.bl b)
  | int (i : Int) : PRel K fa ρ H (.int i) (.int i)
  | str (x : List Nat) (h : okS x = true) : PRel K fa ρ H (.str x) (.str ⟨x.toArray⟩)
  | tup {a : Addr} {xs : List PV} {vs : List V} : SqT K H a vs → PRels K fa ρ H xs vs → PRel K fa ρ H (.tup xs) (.ref a)
  | lst {a : Addr} {xs : List PV} {vs : List V} : H a = some (.lst vs) → PRels K fa ρ H xs vs → PRel K fa ρ H (.lst xs) (.ref a)
  | scr {a : Addr} {xs : List PV} {vs : List V} : ScL K H a vs → PRels K fa ρ H xs vs → PRel K fa ρ H (.scr xs) (.ref a)
  | fn (i : Nat) : PRel K fa ρ H (.fn i) (.ref (fa i))
  | dct {a : Addr} {ks : List Ky} {xs : List PV} {vs : List V} : H a = some (.dK (keyed ks vs)) → ks.length = vs.length → ks.all okK = true → PRels K fa ρ H xs vs → PRel K fa ρ H (.dct ks xs) (.ref a)
  | loc {i : Nat} {a : Addr} : ρ[i]? = some a → PRel K fa ρ H (.loc i) (.ref a)
inductive PRels (K : PySem.W.Frag) (fa : Nat → Addr) (ρ : List Addr) (H : Hp) : List PV → List V → Prop
  | nil : PRels K fa ρ H [] []
  | cons {x : PV} {xs : List PV} {v : V} {vs : List V} : PRel K fa ρ H x v → PRels K fa ρ H xs vs → PRels K fa ρ H (x :: xs) (v :: vs)
end
theorem Same.sqT {K : PySem.W.Frag} {H H' : Hp} {a : Addr} {xs : List V} (e : Same H H') (h : SqT K H a xs) : SqT K H' a xs := by
  rcases h with (h | ⟨o, h⟩) | h
  · exact .inl (.inl (e _ _ h))
  · exact .inl (.inr ⟨o, e _ _ h⟩)
  · exact .inr h
section
variable {K : PySem.W.Frag} {fa : Nat → Addr} {ρ ρ' : List Addr} {H H' : Hp}
mutual
theorem PRel.mono (hp : ρ <+: ρ') (e : Same H H') : ∀ {x : PV} {v : V}, PRel K fa ρ H x v → PRel K fa ρ' H' x v
  | _, _, .non => .non
  | _, _, .bl b => .bl b
  | _, _, .int i => .int i
  | _, _, .str x h => .str x h
  | _, _, .tup h r => .tup (Same.sqT e h) (PRels.mono hp e r)
  | _, _, .lst h r => .lst (e _ _ h) (PRels.mono hp e r)
  | _, _, .scr h r => .scr (Same.scL e h) (PRels.mono hp e r)
  | _, _, .fn i => .fn i
  | _, _, .dct h l o r => .dct (e _ _ h) l o (PRels.mono hp e r)
  | _, _, .loc h => .loc (by
      obtain ⟨t, rfl⟩ := hp
      rw [List.getElem?_append_left (List.getElem?_eq_some_iff.mp h).1]
      exact h)
theorem PRels.mono (hp : ρ <+: ρ') (e : Same H H') : ∀ {xs : List PV} {vs : List V}, PRels K fa ρ H xs vs → PRels K fa ρ' H' xs vs
  | _, _, .nil => .nil
  | _, _, .cons h r => .cons (PRel.mono hp e h) (PRels.mono hp e r)
end
theorem PRels.length : ∀ {xs : List PV} {vs : List V}, PRels K fa ρ H xs vs → xs.length = vs.length
  | _, _, .nil => rfl
  | _, _, .cons _ r => congrArg (· + 1) (PRels.length r)
theorem PRels.get : ∀ {xs : List PV} {vs : List V} {i : Nat} {x : PV}, PRels K fa ρ H xs vs → xs[i]? = some x → ∃ v, vs[i]? = some v ∧ PRel K fa ρ H x v
  | _, _, _, _, .nil, e => by simp at e
  | _, _, 0, _, .cons h _, e => by simp at e; subst e; exact ⟨_, rfl, h⟩
  | _, _, i + 1, x, .cons _ r, e => by
    obtain ⟨v, h1, h2⟩ := PRels.get (i := i) (x := x) r (by simpa using e)
    exact ⟨v, by simpa using h1, h2⟩
theorem PRels.append : ∀ {xs ys : List PV} {vs ws : List V}, PRels K fa ρ H xs vs → PRels K fa ρ H ys ws → PRels K fa ρ H (xs ++ ys) (vs ++ ws)
  | _, _, _, _, .nil, s => s
  | _, _, _, _, .cons h r, s => .cons h (PRels.append r s)
theorem PRels.drop : ∀ {xs : List PV} {vs : List V} (n : Nat), PRels K fa ρ H xs vs → PRels K fa ρ H (xs.drop n) (vs.drop n)
  | _, _, 0, r => r
  | _, _, n + 1, .nil => .nil
  | _, _, n + 1, .cons _ r => PRels.drop n r
theorem PRels.take : ∀ {xs : List PV} {vs : List V} (n : Nat), PRels K fa ρ H xs vs → PRels K fa ρ H (xs.take n) (vs.take n)
  | _, _, 0, _ => .nil
  | _, _, n + 1, .nil => .nil
  | _, _, n + 1, .cons h r => .cons h (PRels.take n r)
theorem PRels.set {x : PV} {v : V} (h : PRel K fa ρ H x v) : ∀ {xs : List PV} {vs : List V} (i : Nat), PRels K fa ρ H xs vs → PRels K fa ρ H (xs.set i x) (vs.set i v)
  | _, _, _, .nil => .nil
  | _, _, 0, .cons _ r => .cons h r
  | _, _, i + 1, .cons q r => .cons q (PRels.set h i r)
theorem PRels.rep {xs : List PV} {vs : List V} (r : PRels K fa ρ H xs vs) : ∀ n : Nat, PRels K fa ρ H (rep xs n) (rep vs n)
  | 0 => .nil
  | n + 1 => PRels.append r (PRels.rep r n)
theorem PRels.ints : ∀ {ns : List Int} {vs : List V}, PRels K fa ρ H (ns.map .int) vs → vs = ns.map V.int
  | [], _, .nil => rfl
  | _ :: _, _, .cons h r => by
    cases h
    rw [PRels.ints r]
    rfl
theorem PRels.of_ints : ∀ (ns : List Int), PRels K fa ρ H (ns.map .int) (ns.map V.int)
  | [] => .nil
  | n :: r => .cons (.int n) (PRels.of_ints r)
theorem PRels.strs : ∀ {ns : List (List Nat)} {vs : List V}, PRels K fa ρ H (ns.map .str) vs → vs = ns.map fun x => V.str ⟨x.toArray⟩
  | [], _, .nil => rfl
  | _ :: _, _, .cons h r => by
    cases h
    rw [PRels.strs r]
    rfl
theorem PRels.of_strs : ∀ (ns : List (List Nat)), (∀ x ∈ ns, okS x = true) → PRels K fa ρ H (ns.map .str) (ns.map fun x => V.str ⟨x.toArray⟩)
  | [], _ => .nil
  | n :: r, h => .cons (.str n (h n List.mem_cons_self)) (PRels.of_strs r fun x hx => h x (List.mem_cons_of_mem _ hx))
/-- values that are the same, whatever the heap -/
theorem PRel.scal {x : PV} {v : V} {K' : PySem.W.Frag} {fa' : Nat → Addr} (hs : isScal x = true) (h : PRel K fa ρ H x v) : PRel K' fa' ρ' H' x v := by
  cases h with
  | non => exact .non
  | bl b => exact .bl b
  | int i => exact .int i
  | str x h => exact .str x h
  | tup _ _ => cases hs
  | lst _ _ => cases hs
  | scr _ _ => cases hs
  | dct _ _ _ _ => cases hs
  | fn _ => cases hs
  | loc _ => cases hs
theorem PRels.scals {K' : PySem.W.Frag} {fa' : Nat → Addr} : ∀ {xs : List PV} {vs : List V}, xs.all isScal = true → PRels K fa ρ H xs vs → PRels K' fa' ρ' H' xs vs
  | _, _, _, .nil => .nil
  | _, _, hs, .cons h r => by
    rw [List.all_cons, Bool.and_eq_true] at hs
    exact .cons (PRel.scal hs.1 h) (PRels.scals hs.2 r)
end

/-! ### the heap without what may change -/
open Classical in
noncomputable def fz (M : Addr → Prop) (H : Hp) : Hp := fun b => if M b then none else H b
theorem fz_eq {M : Addr → Prop} {H : Hp} {b : Addr} (h : ¬ M b) : fz M H b = H b := if_neg h
theorem fz_some {M : Addr → Prop} {H : Hp} {b : Addr} {o : HO} (h : fz M H b = some o) : ¬ M b ∧ H b = some o := by
  unfold fz at h
  split at h
  · cases h
  · exact ⟨by assumption, h⟩
theorem fz_same {M : Addr → Prop} {H : Hp} : Same (fz M H) H := fun _ _ h => (fz_some h).2
theorem fz_mono {M M' : Addr → Prop} {H H' : Hp} (h : ∀ b o, ¬ M b → H b = some o → ¬ M' b ∧ H' b = some o) : Same (fz M H) (fz M' H') := fun b o e => by
  obtain ⟨h1, h2⟩ := fz_some e
  obtain ⟨h3, h4⟩ := h b o h1 h2
  rw [fz_eq h3]
  exact h4
theorem same_updN {H : Hp} {p : Addr} {o : HO} (h : H p = none) : Same H (upd H p o) := fun b x e => by
  rw [upd_ne (ne_of_none e h)]
  exact e

/-- the store's objects -/
structure StR (ρ : List Addr) (H : Hp) (s : Store) : Prop where
  len : s.length = ρ.length
  nd : ρ.Nodup
  at_ : ∀ (i : Nat) (xs : List PV), s[i]? = some xs → ∃ a vs, ρ[i]? = some a ∧ H a = some (.lst vs) ∧ xs.all isScal = true ∧ PRels [] (fun _ => 0) [] (fun _ => none) xs vs
structure Step (ρ : List Addr) (H : Hp) (ρ' : List Addr) (H' : Hp) : Prop where
  pre : ρ <+: ρ'
  new : ∀ a ∈ ρ', a ∉ ρ → H a = none
  keep : ∀ b o, H b = some o → b ∉ ρ → H' b = some o
theorem Step.refl (ρ : List Addr) (H : Hp) : Step ρ H ρ H := ⟨List.prefix_rfl, fun _ h n => absurd h n, fun _ _ h _ => h⟩
theorem StR.some {ρ : List Addr} {H : Hp} {s : Store} (h : StR ρ H s) {a : Addr} (ha : a ∈ ρ) : ∃ vs, H a = some (.lst vs) := by
  obtain ⟨i, hi, e⟩ := List.getElem_of_mem ha
  have hi' : i < s.length := by rw [h.len]; exact hi
  obtain ⟨b, vs, h1, h2, _⟩ := h.at_ i _ (List.getElem?_eq_getElem hi')
  rw [List.getElem?_eq_getElem hi, e] at h1
  cases h1
  exact ⟨vs, h2⟩
theorem Step.mem {ρ ρ' : List Addr} {H H' : Hp} (h : Step ρ H ρ' H') {a : Addr} (ha : a ∈ ρ) : a ∈ ρ' := by
  obtain ⟨t, rfl⟩ := h.pre
  exact List.mem_append_left _ ha
theorem Step.trans {ρ ρ1 ρ2 : List Addr} {H H1 H2 : Hp} (a : Step ρ H ρ1 H1) (b : Step ρ1 H1 ρ2 H2) : Step ρ H ρ2 H2 where
  pre := a.pre.trans b.pre
  new := fun x hx hn => by
    by_cases h1 : x ∈ ρ1
    · exact a.new x h1 hn
    · have e := b.new x hx h1
      cases q : H x with
      | none => rfl
      | some o => rw [a.keep x o q hn] at e; cases e
  keep := fun x o e hn => b.keep x o (a.keep x o e hn) fun hx => by
    have := a.new x hx hn
    rw [e] at this
    cases this
/-- an object is laid -/
theorem Step.laid {ρ : List Addr} {H : Hp} {p : Addr} {o : HO} (h : H p = none) : Step ρ H ρ (upd H p o) :=
  ⟨List.prefix_rfl, fun _ h n => absurd h n, fun b x e _ => same_updN h b x e⟩
theorem Step.same {ρ : List Addr} {H H' : Hp} (h : Same H H') : Step ρ H ρ H' := ⟨List.prefix_rfl, fun _ h n => absurd h n, fun b x e _ => h b x e⟩
theorem StR.same {ρ : List Addr} {H H' : Hp} {s : Store} (x : StR ρ H s) (h : Same H H') : StR ρ H' s := ⟨x.len, x.nd, fun i xs e => by
  obtain ⟨a, vs, h1, h2, h3⟩ := x.at_ i xs e
  exact ⟨a, vs, h1, h _ _ h2, h3⟩⟩

/-- a def's entry: what it may not touch, the store's places, the heap -/
structure Par where
  K : PySem.W.Frag
  fa : Nat → Addr
  M0 : Addr → Prop
  ρ0 : List Addr
  H0 : Hp
abbrev Own := List (Nat × Addr)
/-- what may change now: Y (what is kept from us, what we own, what is just made), the store -/
def Mt (Y : Addr → Prop) (ρ : List Addr) : Addr → Prop := fun b => Y b ∨ b ∈ ρ

abbrev Rl (p : Par) (ρ : List Addr) (Y : Addr → Prop) (H : Hp) : PV → V → Prop := PRel p.K p.fa ρ (fz (Mt Y ρ) H)
abbrev Rls (p : Par) (ρ : List Addr) (Y : Addr → Prop) (H : Hp) : List PV → List V → Prop := PRels p.K p.fa ρ (fz (Mt Y ρ) H)

/-- what an owner holds: a list, a dict -/
inductive OwR (K : PySem.W.Frag) (fa : Nat → Addr) (ρ : List Addr) (H : Hp) : PV → HO → Prop
  | lst {xs : List PV} {vs : List V} : PRels K fa ρ H xs vs → OwR K fa ρ H (.lst xs) (.lst vs)
  | dct {ks : List Ky} {xs : List PV} {vs : List V} : ks.length = vs.length → ks.all okK = true → PRels K fa ρ H xs vs → OwR K fa ρ H (.dct ks xs) (.dK (keyed ks vs))
theorem OwR.mono {K : PySem.W.Frag} {fa : Nat → Addr} {ρ ρ' : List Addr} {H H' : Hp} {w : PV} {o : HO} (h : OwR K fa ρ H w o) (hp : ρ <+: ρ') (e : Same H H') : OwR K fa ρ' H' w o := by
  cases h with
  | lst r => exact .lst (r.mono hp e)
  | dct l o r => exact .dct l o (r.mono hp e)
theorem OwR.rel {K : PySem.W.Frag} {fa : Nat → Addr} {ρ : List Addr} {H : Hp} {a : Addr} {w : PV} {o : HO} (h : OwR K fa ρ H w o) (e : H a = some o) : PRel K fa ρ H w (.ref a) := by
  cases h with
  | lst r => exact .lst e r
  | dct l o r => exact .dct e l o r
structure SI (p : Par) (B : List Nat) (ρ : List Addr) (Y : Addr → Prop) (ow : Own) (σ : L2.St) (H : Hp) (r : Env) (s : Store) : Prop where
  bs : ow.map (·.1) = B
  bnd : B.Nodup
  pre : p.ρ0 <+: ρ
  new : ∀ a ∈ ρ, a ∉ p.ρ0 → p.H0 a = none
  frame : ∀ b o, p.H0 b = some o → b ∉ p.ρ0 → H b = some o
  m0 : ∀ b, p.M0 b → Y b
  th : ∀ b, Y b → H b ≠ none ∧ b ∉ ρ
  st : StR ρ H s
  len : r.length = σ.length
  vars : ∀ (i : Nat) (v : PV), i ∉ B → r[i]? = some (some v) → ∃ u, σ[i]? = some (some u) ∧ Rl p ρ Y H v u
  owns : ∀ (i : Nat) (a : Addr), (i, a) ∈ ow → ∃ w o, r[i]? = some (some w) ∧ σ[i]? = some (some (.ref a)) ∧ H a = some o ∧ OwR p.K p.fa ρ (fz (Mt Y ρ) H) w o ∧ p.H0 a = none ∧ Y a ∧ ¬ p.M0 a
  dis : (ow.map (·.2)).Nodup

section
variable {p : Par} {B : List Nat} {ρ ρ' : List Addr} {Y : Addr → Prop} {ow : Own} {σ : L2.St} {H H' : Hp} {r : Env} {s s' : Store}
/-- what may change stands -/
theorem SI.there (I : SI p B ρ Y ow σ H r s) {b : Addr} (h : Mt Y ρ b) : H b ≠ none := by
  rcases h with h | h
  · exact (I.th b h).1
  · obtain ⟨vs, h1⟩ := I.st.some h
    rw [h1]; exact fun z => nomatch z
theorem Step.fz (t : Step ρ H ρ' H') (hY : ∀ b, Y b → H b ≠ none) : Same (fz (Mt Y ρ) H) (fz (Mt Y ρ') H') := fz_mono fun b o hn e => by
  have hb : b ∉ ρ := fun z => hn (.inr z)
  refine ⟨fun z => ?_, t.keep b o e hb⟩
  rcases z with z | z
  · exact hn (.inl z)
  · have := t.new b z hb
    rw [e] at this
    cases this
theorem SI.same (I : SI p B ρ Y ow σ H r s) (t : Step ρ H ρ' H') : Same (PyI.fz (Mt Y ρ) H) (PyI.fz (Mt Y ρ') H') := t.fz fun b h => I.there (.inl h)
theorem Step.th (t : Step ρ H ρ' H') (h : ∀ b, Y b → H b ≠ none ∧ b ∉ ρ) : ∀ b, Y b → H' b ≠ none ∧ b ∉ ρ' := fun b hb => by
  obtain ⟨h1, h2⟩ := h b hb
  cases q : H b with
  | none => exact absurd q h1
  | some o =>
    refine ⟨(by rw [t.keep b o q h2]; exact fun z => nomatch z), fun z => ?_⟩
    have := t.new b z h2
    rw [q] at this
    cases this
theorem SI.step (I : SI p B ρ Y ow σ H r s) (t : Step ρ H ρ' H') (st : StR ρ' H' s') : SI p B ρ' Y ow σ H' r s' where
  bs := I.bs
  bnd := I.bnd
  pre := I.pre.trans t.pre
  new := fun a ha hn => by
    by_cases h1 : a ∈ ρ
    · exact I.new a h1 hn
    · have e := t.new a ha h1
      cases q : p.H0 a with
      | none => rfl
      | some o => rw [I.frame a o q hn] at e; cases e
  frame := fun b o e hn => t.keep b o (I.frame b o e hn) fun z => by
    have := I.new b z hn
    rw [e] at this
    cases this
  m0 := I.m0
  th := t.th I.th
  st := st
  len := I.len
  vars := fun i v hi e => by
    obtain ⟨u, h1, h2⟩ := I.vars i v hi e
    exact ⟨u, h1, h2.mono t.pre (I.same t)⟩
  owns := fun i a h => by
    obtain ⟨xs, vs, h1, h2, h3, h4, h5, h6, h7⟩ := I.owns i a h
    exact ⟨xs, vs, h1, h2, t.keep a _ h3 (I.th a h6).2, h4.mono t.pre (I.same t), h5, h6, h7⟩
  dis := I.dis
/-- from the entry on -/
theorem SI.whole (I : SI p B ρ Y ow σ H r s) : Step p.ρ0 p.H0 ρ H := ⟨I.pre, I.new, I.frame⟩
end

/-- what is given back: v, in a state that has stepped; fr: a new list of one's own -/
def Fr (p : Par) (Y : Addr → Prop) (H : Hp) (ρ' : List Addr) (H' : Hp) (v : PV) (u : V) : Prop :=
  ∀ xs, v = .lst xs → ∃ a vs, u = .ref a ∧ H a = none ∧ H' a = some (.lst vs) ∧ PRels p.K p.fa ρ' (fz (fun b => Mt Y ρ' b ∨ b = a) H') xs vs
def Post (p : Par) (ρ : List Addr) (Y : Addr → Prop) (H : Hp) (fr : Bool) (v : PV) (s' : Store) (Q : VK) : Prop :=
  ∀ u H' ρ', Step ρ H ρ' H' → StR ρ' H' s' → Rl p ρ' Y H' v u → (fr = true → Fr p Y H ρ' H' v u) → Q u H'
def simE (p : Par) (cf : CF) (B : List Nat) (e : E) : TE := fun σ H Q => ∃ ρ Y ow r s, SI p B ρ Y ow σ H r s ∧ ∃ v s', ev cf e r s = .ok v s' ∧ Post p ρ Y H (fresh e) v s' Q
def simT (p : Par) (cf : CF) (B : List Nat) (e : E) : TT := fun σ H Q => ∃ ρ Y ow r s, SI p B ρ Y ow σ H r s ∧ ∃ k s', ((ev cf e r s).bind fun x s => Res.ofO (truth x) s) = .ok k s' ∧
  ∀ H' ρ', Step ρ H ρ' H' → StR ρ' H' s' → Q k H'
def simEs (p : Par) (cf : CF) (B : List Nat) (es : Es) : TA := fun σ H Q => ∃ ρ Y ow r s, SI p B ρ Y ow σ H r s ∧ ∃ vs s', evs cf es r s = .ok vs s' ∧
  ∀ us H' ρ', Step ρ H ρ' H' → StR ρ' H' s' → Rls p ρ' Y H' vs us → Q us H'
/-- what a def promises -/
def simSp (K : PySem.W.Frag) (fa : Nat → Addr) (cf : CF) (n : Nat) (f : Nat) : Sp := fun vs H Q _ => vs.length = n ∧ ∃ (M : Addr → Prop) (ρ : List Addr) (xs : List PV) (s : Store), (∀ b, M b → H b ≠ none ∧ b ∉ ρ) ∧ StR ρ H s ∧
  PRels K fa ρ (fz (Mt M ρ) H) xs vs ∧ ∃ v s', cf f xs s = .ok v s' ∧
  ∀ u H' ρ', Step ρ H ρ' H' → StR ρ' H' s' → PRel K fa ρ' (fz (Mt M ρ') H') v u → Q u H'

/-! ### a weaker reading -/
section
variable {X : Cx}
theorem PE.imp {e : Expr} {t t' : TE} (h : PE X e t) (i : ∀ σ H Q, t' σ H Q → t σ H Q) : PE X e t' := ⟨fun pins s σ H Q I q => h.run pins s σ H Q I (i σ H Q q)⟩
theorem PT.imp {e : Expr} {t t' : TT} (h : PT X e t) (i : ∀ σ H Q, t' σ H Q → t σ H Q) : PT X e t' := ⟨fun pins s σ H Q I q => h.run pins s σ H Q I (i σ H Q q)⟩
theorem PW.imp {e : Expr} {t t' : TT} (h : PW X e t) (i : ∀ σ H Q, t' σ H Q → t σ H Q) : PW X e t' := ⟨fun wh pins s σ H Q I q => h.run wh pins s σ H Q I (i σ H Q q)⟩
theorem PA.imp {es : List Expr} {t t' : TA} (h : PA X es t) (i : ∀ σ H Q, t' σ H Q → t σ H Q) : PA X es t' := ⟨fun pos pins s σ H Q I q => h.run pos pins s σ H Q I (i σ H Q q)⟩
theorem PS.imp {st : Stmt} {t t' : TS} (h : PS X st t) (i : ∀ D σ H, t' D σ H → t D σ H) : PS X st t' := ⟨fun pins s σ H D I q => h.run pins s σ H D I (i D σ H q)⟩
theorem PSs.imp {st : List Stmt} {t t' : TS} (h : PSs X st t) (i : ∀ D σ H, t' D σ H → t D σ H) : PSs X st t' := ⟨fun pins s σ H D I q => h.run pins s σ H D I (i D σ H q)⟩
theorem PI.imp {tg it : Expr} {t t' : TI} (h : PI X tg it t) (i : ∀ σ H R, t' σ H R → t σ H R) : PI X tg it t' := ⟨fun pins s σ H R I q => h.run pins s σ H R I (i σ H R q)⟩
theorem PI.or {tg it : Expr} {t t' : TI} (h : PI X tg it t) (h' : PI X tg it t') : PI X tg it fun σ H R => t σ H R ∨ t' σ H R := ⟨fun pins s σ H R I q => q.elim (h.run pins s σ H R I) (h'.run pins s σ H R I)⟩
theorem PG.imp {tg : Expr} {t t' : TG} (h : PG X tg t) (i : ∀ v σ H Q, t' v σ H Q → t v σ H Q) : PG X tg t' := ⟨fun pins s σ H v u Q I r q => h.run pins s σ H v u Q I r (i v σ H Q q)⟩
theorem PTs.imp {ifs : List Expr} {t t' : TT} (h : PTs X ifs t) (i : ∀ σ H Q, t' σ H Q → t σ H Q) : PTs X ifs t' := ⟨fun pins s σ H Q I q => h.run pins s σ H Q I (i σ H Q q)⟩
end
end PyI

set_option maxRecDepth 100000
/-! PyI3: operators, comparisons, items, slices, built-in functions over trees. -/
namespace PyI
open PySem PySem.Spec PyProof.Rows L2

theorem sz_eq : sizeLine = SZ := sizeLine_eq

/-! ### trees as the library's data -/
mutual
def toD : PV → PyData
  | .non => .none
  | .bl b => .bool b
  | .int i => .int i
  | .str x => .str ⟨x.toArray⟩
  | .tup xs => .tuple (toDs xs)
  | .lst xs => .list (toDs xs)
  | .fn _ | .loc _ | .scr _ | .dct _ _ => .none
def toDs : List PV → List PyData
  | [] => []
  | x :: xs => toD x :: toDs xs
end
section
variable {K : PySem.W.Frag} {fa : Nat → Addr} {ρ : List Addr} {H H' : Hp}
mutual
theorem PRel.dp : ∀ {x : PV} {v : V}, PRel K fa ρ H x v → isD x = true → Same H H' → Dp K H' v (toD x) ∧ (toD x).canLay0 = true
  | _, _, .non, _, _ => ⟨.non, rfl⟩
  | _, _, .bl b, _, _ => ⟨.bl b, rfl⟩
  | _, _, .int i, _, _ => ⟨.int i, rfl⟩
  | _, _, .str x h, _, _ => ⟨.str _, by
      show PyData.canLay0 (.str ⟨x.toArray⟩) = true
      unfold PyData.canLay0 PyData.strOk
      simpa [okS] using h⟩
  | _, _, .tup (xs := xs) h r, hd, e => by
      obtain ⟨h1, h2⟩ := PRels.dp r (by simpa [isD] using hd) e
      exact ⟨.tup (Same.sqT e h) h1, by show PyData.canLay0 (.tuple (toDs xs)) = true; unfold PyData.canLay0; exact h2⟩
  | _, _, .lst (xs := xs) h r, hd, e => by
      obtain ⟨h1, h2⟩ := PRels.dp r (by simpa [isD] using hd) e
      exact ⟨.lst (SqL.of (e _ _ h)) h1, by show PyData.canLay0 (.list (toDs xs)) = true; unfold PyData.canLay0; exact h2⟩
  | _, _, .scr h r, hd, e => by cases hd
  | _, _, .dct _ _ _ _, hd, e => by cases hd
  | _, _, .fn i, hd, _ => by cases hd
  | _, _, .loc h, hd, _ => by cases hd
theorem PRels.dp : ∀ {xs : List PV} {vs : List V}, PRels K fa ρ H xs vs → isDs xs = true → Same H H' → DpAll K H' vs (toDs xs) ∧ PyData.canLayAll0 (toDs xs) = true
  | _, _, .nil, _, _ => ⟨.nil, rfl⟩
  | _, _, .cons (x := x) (xs := xs) h r, hd, e => by
      have hd' : isD x = true ∧ isDs xs = true := by simpa [isDs] using hd
      obtain ⟨h1, h2⟩ := PRel.dp h hd'.1 e
      obtain ⟨h3, h4⟩ := PRels.dp r hd'.2 e
      refine ⟨.cons h1 h3, ?_⟩
      unfold toDs PyData.canLayAll0
      rw [h2, h4]; rfl
end
end
mutual
theorem toD_depth : ∀ x : PV, (toD x).depth ≤ depth x
  | .non => by simp [toD, PyData.depth]
  | .bl _ => by simp [toD, PyData.depth]
  | .int _ => by simp [toD, PyData.depth]
  | .str _ => by simp [toD, PyData.depth]
  | .tup xs => by have := toDs_depth xs; simp only [toD, PyData.depth, depth]; omega
  | .lst xs => by have := toDs_depth xs; simp only [toD, PyData.depth, depth]; omega
  | .fn _ => by simp [toD, PyData.depth]
  | .loc _ => by simp [toD, PyData.depth]
  | .scr _ => by simp [toD, PyData.depth]
  | .dct _ _ => by simp [toD, PyData.depth]
theorem toDs_depth : ∀ xs : List PV, PyData.depthAll (toDs xs) ≤ depths xs
  | [] => by simp [toDs, PyData.depthAll]
  | x :: xs => by
    have h1 := toD_depth x
    have h2 := toDs_depth xs
    simp only [toDs, PyData.depthAll, depths]
    omega
end
theorem str_eqv (x y : List Nat) : ((⟨x.toArray⟩ : Str) == ⟨y.toArray⟩) = (x == y) := by
  by_cases h : x = y
  · subst h; simp
  · have h2 : (⟨x.toArray⟩ : Str) ≠ ⟨y.toArray⟩ := fun e => h (by simpa using e)
    rw [beq_eq_false_iff_ne.mpr h2, beq_eq_false_iff_ne.mpr h]
mutual
theorem toD_eqv : ∀ (x y : PV), isD x = true → isD y = true → PyData.eqv (toD x) (toD y) = eqv x y
  | .non, y, _, hy => by cases y <;> simp_all [toD, PyData.eqv, eqv, isD]
  | .bl a, y, _, hy => by cases y <;> simp_all [toD, PyData.eqv, eqv, isD, b2i]
  | .int a, y, _, hy => by cases y <;> simp_all [toD, PyData.eqv, eqv, isD, b2i]
  | .str a, y, _, hy => by
    cases y with
    | str b => simp only [toD, PyData.eqv, eqv]; exact str_eqv a b
    | _ => simp_all [toD, PyData.eqv, eqv, isD]
  | .tup a, y, hx, hy => by
    cases y with
    | tup b => simp only [toD, PyData.eqv, eqv]; exact toDs_eqv a b (by simpa [isD] using hx) (by simpa [isD] using hy)
    | _ => simp_all [toD, PyData.eqv, eqv, isD]
  | .lst a, y, hx, hy => by
    cases y with
    | lst b => simp only [toD, PyData.eqv, eqv]; exact toDs_eqv a b (by simpa [isD] using hx) (by simpa [isD] using hy)
    | _ => simp_all [toD, PyData.eqv, eqv, isD]
  | .fn _, _, hx, _ => by cases hx
  | .loc _, _, hx, _ => by cases hx
  | .scr _, _, hx, _ => by cases hx
  | .dct _ _, _, hx, _ => by cases hx
theorem toDs_eqv : ∀ (xs ys : List PV), isDs xs = true → isDs ys = true → PyData.eqvAll (toDs xs) (toDs ys) = eqvs xs ys
  | [], [], _, _ => by simp [toDs, PyData.eqvAll, eqvs]
  | [], _ :: _, _, _ => by simp [toDs, PyData.eqvAll, eqvs]
  | _ :: _, [], _, _ => by simp [toDs, PyData.eqvAll, eqvs]
  | x :: xs, y :: ys, hx, hy => by
    have hx' : isD x = true ∧ isDs xs = true := by simpa [isDs] using hx
    have hy' : isD y = true ∧ isDs ys = true := by simpa [isDs] using hy
    simp only [toDs, PyData.eqvAll, eqvs, toD_eqv x y hx'.1 hy'.1, toDs_eqv xs ys hx'.2 hy'.2]
end
theorem shaped_of {x : PV} (h : (toD x).canLay0 = true) (d : depth x ≤ 40) : SeqAt.shaped (toD x) = true := by
  have := toD_depth x
  unfold SeqAt.shaped
  rw [h, decide_eq_true (by omega)]; rfl

/-! ### what an operator gives -/
/-- u at H' is v; M: what may change -/
def Gv (K : PySem.W.Frag) (fa : Nat → Addr) (ρ : List Addr) (M : Addr → Prop) (H : Hp) (v : PV) (Q : VK) : Prop :=
  ∀ u H', Same H H' → PRel K fa ρ (fz M H') v u → (∀ xs, v = .lst xs → ∃ a vs, u = .ref a ∧ H a = none ∧ H' a = some (.lst vs) ∧ PRels K fa ρ (fz (fun b => M b ∨ b = a) H') xs vs) → Q u H'
section
variable {K : PySem.W.Frag} {fa : Nat → Addr} {ρ : List Addr} {M : Addr → Prop} {H : Hp} {Q : VK}
theorem Gv.int {i : Int} (g : Gv K fa ρ M H (.int i) Q) : Q (.int i) H := g _ H (Same.refl H) (.int i) fun _ e => by cases e
theorem Gv.bl {b : Bool} (g : Gv K fa ρ M H (.bl b) Q) : Q (.bl b) H := g _ H (Same.refl H) (.bl b) fun _ e => by cases e
theorem Gv.str {x : List Nat} (g : Gv K fa ρ M H (.str x) Q) (h : okS x = true) : Q (.str ⟨x.toArray⟩) H := g _ H (Same.refl H) (.str x h) fun _ e => by cases e
/-- a new list -/
theorem Gv.lst {xs : List PV} {vs : List V} (g : Gv K fa ρ M H (.lst xs) Q) (hM : ∀ b, M b → H b ≠ none) (r : PRels K fa ρ (fz M H) xs vs) : ∀ p, H p = none → Q (.ref p) (upd H p (.lst vs)) := fun p hp => by
  have nM : ¬ M p := fun z => hM p z hp
  have s1 : Same H (upd H p (.lst vs)) := same_updN hp
  have s2 : Same (fz M H) (fz (fun b => M b ∨ b = p) (upd H p (.lst vs))) := fz_mono fun b o hn e => ⟨(fun z => z.elim hn fun z => (by rw [z, hp] at e; cases e)), s1 b o e⟩
  have s3 : Same (fz M H) (fz M (upd H p (.lst vs))) := fz_mono fun b o hn e => ⟨hn, s1 b o e⟩
  refine g _ _ s1 (.lst ?_ (r.mono List.prefix_rfl s3)) fun ys e => ?_
  · rw [fz_eq nM, upd_same]
  · cases e
    exact ⟨p, vs, rfl, hp, upd_same, r.mono List.prefix_rfl s2⟩
/-- a new tuple -/
theorem Gv.tup {xs : List PV} {vs : List V} (g : Gv K fa ρ M H (.tup xs) Q) (hM : ∀ b, M b → H b ≠ none) (r : PRels K fa ρ (fz M H) xs vs) : ∀ p, H p = none → Q (.ref p) (upd H p (.tup vs)) := fun p hp => by
  have nM : ¬ M p := fun z => hM p z hp
  have s1 : Same H (upd H p (.tup vs)) := same_updN hp
  have s3 : Same (fz M H) (fz M (upd H p (.tup vs))) := fz_mono fun b o hn e => ⟨hn, s1 b o e⟩
  refine g _ _ s1 (.tup (SqT.of ?_) (r.mono List.prefix_rfl s3)) fun ys e => by cases e
  rw [fz_eq nM, upd_same]
/-- a tuple that stands -/
theorem Gv.tupAt {xs : List PV} {vs : List V} {p : Addr} (g : Gv K fa ρ M H (.tup xs) Q) (h : SqT K (fz M H) p vs) (r : PRels K fa ρ (fz M H) xs vs) : Q (.ref p) H :=
  g _ H (Same.refl H) (.tup h r) fun _ e => by cases e
end

abbrev binOp : BinO → Operator
  | .add => .Add | .sub => .Sub | .mul => .Mult | .fdiv => .FloorDiv | .mod => .Mod | .pow => .Pow
def rBin (K : PySem.W.Frag) (fa : Nat → Addr) (ρ : List Addr) (M : Addr → Prop) (o : BinO) : R2 := fun x y H Q => ∃ a b v, (∀ b, M b → H b ≠ none) ∧
  PRel K fa ρ (fz M H) a x ∧ PRel K fa ρ (fz M H) b y ∧ binop o a b = some v ∧ Gv K fa ρ M H v Q
theorem OpR.imp {X : Cx} {f : Value → Value → Sem Value} {r r' : R2} (h : OpR X f r) (i : ∀ x y H Q, r' x y H Q → r x y H Q) : OpR X f r' := fun pins s σ H x y v u Q I rx ry q => h pins s σ H x y v u Q I rx ry (i _ _ _ _ q)
theorem okS_app {x y : List Nat} (hx : okS x = true) (hy : okS y = true) : okS (x ++ y) = true := by
  unfold okS at *
  rw [List.all_append, hx, hy]; rfl
theorem okS_rep {x : List Nat} (hx : okS x = true) : ∀ n, okS (rep x n) = true
  | 0 => rfl
  | n + 1 => okS_app hx (okS_rep hx n)
theorem rep_flat {α : Type} (x : List α) : ∀ n, (List.replicate n x).flatten = rep x n
  | 0 => rfl
  | n + 1 => by rw [List.replicate_succ, List.flatten_cons, rep_flat x n]; rfl
theorem rep_length {α : Type} (x : List α) : ∀ n, (rep x n).length = n * x.length
  | 0 => by simp [rep]
  | n + 1 => by show (x ++ rep x n).length = _; rw [List.length_append, rep_length x n, Nat.succ_mul]; omega
theorem foldl_arr (x : List Nat) : ∀ (n : Nat) (acc : List Nat), (List.replicate n x.toArray).foldl (· ++ ·) acc.toArray = (acc ++ rep x n).toArray
  | 0, acc => by simp [rep]
  | n + 1, acc => by
    rw [List.replicate_succ, List.foldl_cons]
    show (List.replicate n x.toArray).foldl (· ++ ·) (acc.toArray ++ x.toArray) = _
    rw [List.append_toArray, foldl_arr x n (acc ++ x)]
    show _ = (acc ++ (x ++ rep x n)).toArray
    rw [List.append_assoc]
theorem txt_mul (x : List Nat) (n : Int) : PySem.Txt.mul ⟨x.toArray⟩ n = ⟨(rep x n.toNat).toArray⟩ := by
  unfold PySem.Txt.mul
  by_cases h : n < 1
  · rw [if_pos h, show n.toNat = 0 by omega]; rfl
  · rw [if_neg h]
    by_cases h1 : (n == 1 || (⟨x.toArray⟩ : Str).length == 0) = true
    · rw [if_pos h1]
      rw [Bool.or_eq_true] at h1
      rcases h1 with h1 | h1
      · have : n = 1 := by simpa using h1
        subst this
        show _ = (⟨(x ++ []).toArray⟩ : Str)
        rw [List.append_nil]
      · have : x = [] := by
          have : (⟨x.toArray⟩ : Str).length = 0 := by simpa using h1
          have h2 : x.toArray.size = 0 := this
          simpa using h2
        subst this
        have : ∀ n, rep ([] : List Nat) n = [] := fun n => by induction n with
          | zero => rfl
          | succ n ih => show [] ++ rep [] n = []; rw [ih]; rfl
        rw [this]
    · rw [if_neg h1]
      congr 1
      have := foldl_arr x n.toNat []
      simpa using this
theorem op_strmul {X : Cx} : OpR X (binaryOp .Mult) (fun x y H Q => ∃ (a : List Nat) (j : Int), x = .str ⟨a.toArray⟩ ∧ y = .int j ∧ lim63 j = true ∧ (a.length : Int) * j ≤ SZ ∧ Q (.str ⟨(rep a j.toNat).toArray⟩) H) := by
  intro pins s σ H x y v u Q I rx ry h
  obtain ⟨a, j, rfl, rfl, hl, hz, q⟩ := h
  obtain ⟨t, rfl⟩ := rx
  obtain ⟨t', rfl⟩ := ry
  have hl' : -(2 ^ 63) ≤ j ∧ j < 2 ^ 63 := by simpa [lim63] using hl
  refine SB.mul ⟨?_, fun h1 h2 => ?_, fun h1 h2 => ?_⟩ fun t' k => ?_
  · rw [decide_eq_false (by omega), decide_eq_false (by omega)]; rfl
  · show ¬ ((a.toArray.size : Int) > _)
    rw [List.size_toArray]
    have h3 : (a.length : Int) ≤ SZ / j := by
      rw [Int.le_ediv_iff_mul_le (by omega)]; exact hz
    have h4 : (SZ : Int) / j ≤ (2 ^ 63 - 1) / j := Int.ediv_le_ediv (by omega) (by decide)
    omega
  · show Builtin.Str.tooLong (a.toArray.size * j.toNat) = false
    rw [List.size_toArray]
    unfold Builtin.Str.tooLong
    have h3 : ((a.length * j.toNat : Nat) : Int) ≤ (SZ : Int) := by
      rw [Int.natCast_mul, Int.toNat_of_nonneg (by omega)]; exact hz
    have h4 : a.length * j.toNat ≤ SZ := by omega
    have h5 := sz_eq
    exact decide_eq_false (by omega)
  · rw [txt_mul]
    exact ⟨.str _, H, I.tok _, ⟨_, rfl⟩, q⟩

theorem or1 {A B : Prop} (h : A) : A ∨ B := .inl h
theorem or2 {A B : Prop} (h : B) : A ∨ B := .inr h
theorem bin_ok {X : Cx} {fa : Nat → Addr} {ρ : List Addr} {M : Addr → Prop} : ∀ o : BinO, OpR X (binaryOp (binOp o)) (rBin X.K fa ρ M o)
  | .add => OpR.imp ((op_add.or op_add_str).or (op_cat.or op_catA)) (by
      rintro x y H Q ⟨a, b, v, hM, ha, hb, e, g⟩
      cases ha with
      | int i => cases hb with
        | int j => cases e; exact or1 (or1 ⟨i, j, rfl, rfl, g.int⟩)
        | _ => cases e
      | str i hi => cases hb with
        | str j hj =>
          have e : (if i.length + j.length ≤ SZ then some (PV.str (i ++ j)) else none) = some v := e
          split at e
          · rename_i hz
            cases e
            refine or1 (or2 ⟨_, _, rfl, rfl, ?_, ?_⟩)
            · show i.toArray.size + j.toArray.size ≤ _
              rw [List.size_toArray, List.size_toArray, sz_eq]; exact hz
            · show Q (.str ⟨i.toArray ++ j.toArray⟩) H
              rw [List.append_toArray]
              exact g.str (okS_app hi hj)
          · cases e
        | _ => cases e
      | tup h1 r1 => cases hb with
        | tup h2 r2 =>
          rename_i _ xs1 _ _ xs2 _
          have e : (if xs1.length + xs2.length ≤ SZ then some (PV.tup (xs1 ++ xs2)) else none) = some v := e
          split at e
          · rename_i hz
            cases e
            have l1 := r1.length
            have l2 := r2.length
            refine or2 (or2 ⟨_, _, _, _, rfl, rfl, Same.sqT fz_same h1, Same.sqT fz_same h2, by rw [sz_eq]; omega, fun z => ?_, fun z1 z2 => ?_, fun z1 z2 => g.tup hM (r1.append r2)⟩)
            · subst z
              cases r1
              exact g.tupAt h2 r2
            · subst z2
              cases r2
              rw [List.append_nil] at g
              exact g.tupAt h1 r1
          · cases e
        | _ => cases e
      | lst h1 r1 => cases hb with
        | lst h2 r2 =>
          rename_i _ xs1 _ _ xs2 _
          have e : (if xs1.length + xs2.length ≤ SZ then some (PV.lst (xs1 ++ xs2)) else none) = some v := e
          split at e
          · rename_i hz
            cases e
            have l1 := r1.length
            have l2 := r2.length
            exact or2 (or1 ⟨_, _, _, _, rfl, rfl, fz_same _ _ h1, fz_same _ _ h2, by rw [sz_eq]; omega, g.lst hM (r1.append r2)⟩)
          · cases e
        | _ => cases e
      | _ => cases hb <;> cases e)
  | .sub => OpR.imp op_sub (by
      rintro x y H Q ⟨a, b, v, hM, ha, hb, e, g⟩
      cases ha with
      | int i => cases hb with
        | int j => cases e; exact ⟨i, j, rfl, rfl, g.int⟩
        | _ => cases e
      | _ => cases hb <;> cases e)
  | .mul => OpR.imp (((op_mul.or op_mulW).or op_strmul).or (op_rep.or op_repT)) (by
      rintro x y H Q ⟨a, b, v, hM, ha, hb, e, g⟩
      cases ha with
      | int i => cases hb with
        | int j =>
          have e : (if (lim64 i || lim64 j || decide (i.natAbs.log2 + j.natAbs.log2 < 1000000)) = true then some (PV.int (i * j)) else none) = some v := e
          split at e
          · rename_i hz
            cases e
            rw [Bool.or_eq_true] at hz
            rcases hz with hz | hz
            · refine or1 (or1 (or1 ⟨i, j, rfl, rfl, ?_, g.int⟩))
              simpa [lim64, CMul] using hz
            · exact or1 (or1 (or2 ⟨i, j, rfl, rfl, (of_decide_eq_true hz : i.natAbs.log2 + j.natAbs.log2 < 1000000), g.int⟩))
          · cases e
        | _ => cases e
      | str i hi => cases hb with
        | int j =>
          have e : (if (decide ((i.length : Int) * j ≤ SZ) && lim63 j) = true then some (PV.str (rep i j.toNat)) else none) = some v := e
          split at e
          · rename_i hz
            cases e
            have hz' : ((i.length : Int) * j ≤ SZ) ∧ lim63 j = true := by simpa using hz
            exact or1 (or2 ⟨_, _, rfl, rfl, hz'.2, hz'.1, g.str (okS_rep hi _)⟩)
          · cases e
        | _ => cases e
      | lst h1 r1 => cases hb with
        | int j =>
          rename_i _ xs _
          have e : (if (decide ((xs.length : Int) * j ≤ SZ) && lim63 j) = true then some (PV.lst (rep xs j.toNat)) else none) = some v := e
          split at e
          · rename_i hz
            cases e
            have hz' : ((xs.length : Int) * j ≤ SZ) ∧ lim63 j = true := by simpa using hz
            have hl' : -(2 ^ 63) ≤ j ∧ j < 2 ^ 63 := by simpa [lim63] using hz'.2
            refine or2 (or1 ⟨_, _, _, rfl, rfl, fz_same _ _ h1, hl'.1, hl'.2, ?_, ?_⟩)
            · rw [← r1.length, sz_eq]
              by_cases hj : 0 ≤ j
              · have h3 : ((xs.length * j.toNat : Nat) : Int) ≤ (SZ : Int) := by
                  rw [Int.natCast_mul, Int.toNat_of_nonneg hj]; exact hz'.1
                omega
              · rw [show j.toNat = 0 by omega]; omega
            · rw [rep_flat]
              exact g.lst hM (r1.rep _)
          · cases e
        | _ => cases e
      | tup h1 r1 => cases hb with
        | int j =>
          rename_i _ xs _
          have e : (if (decide (2 ≤ j) && decide (j ≤ 1000) && decide (1 ≤ xs.length) && decide (xs.length ≤ 1000)) = true then some (PV.tup (rep xs j.toNat)) else none) = some v := e
          split at e
          · rename_i hz
            cases e
            have hz' : ((2 ≤ j ∧ j ≤ 1000) ∧ 1 ≤ xs.length) ∧ xs.length ≤ 1000 := by simpa using hz
            have l1 := r1.length
            refine or2 (or2 ⟨_, _, _, rfl, rfl, Same.sqT fz_same h1, ?_, hz'.1.1.1, hz'.1.1.2, by omega, ?_⟩)
            · intro z
              subst z
              simp only [List.length_nil] at l1
              omega
            · rw [rep_flat]
              exact g.tup hM (r1.rep _)
          · cases e
        | _ => cases e
      | _ => cases hb <;> cases e)
  | .fdiv => OpR.imp op_fdiv (by
      rintro x y H Q ⟨a, b, v, hM, ha, hb, e, g⟩
      cases ha with
      | int i => cases hb with
        | int j =>
          have e : (if (decide (0 < j) && decide (j < 1073741824)) = true then some (PV.int (i / j)) else none) = some v := e
          split at e
          · rename_i hz
            cases e
            exact ⟨i, j, rfl, rfl, by simpa [CDiv] using hz, g.int⟩
          · cases e
        | _ => cases e
      | _ => cases hb <;> cases e)
  | .mod => OpR.imp op_mod (by
      rintro x y H Q ⟨a, b, v, hM, ha, hb, e, g⟩
      cases ha with
      | int i => cases hb with
        | int j =>
          have e : (if 0 < j then some (PV.int (i % j)) else none) = some v := e
          split at e
          · rename_i hz
            cases e
            exact ⟨i, j, rfl, rfl, by simpa using hz, g.int⟩
          · cases e
        | _ => cases e
      | _ => cases hb <;> cases e)
  | .pow => OpR.imp op_pow (by
      rintro x y H Q ⟨a, b, v, hM, ha, hb, e, g⟩
      cases ha with
      | int i => cases hb with
        | int j =>
          have e : (if (decide (0 ≤ j) && decide (j ≤ 1000000) && lim64 i) = true then some (PV.int (i ^ j.toNat)) else none) = some v := e
          split at e
          · rename_i hz
            cases e
            refine ⟨i, j, rfl, rfl, ?_, g.int⟩
            have hz' : (0 ≤ j ∧ j ≤ 1000000) ∧ (-(2 ^ 64) < i ∧ i < 2 ^ 64) := by simpa [lim64] using hz
            exact ⟨hz'.1.1, hz'.1.2, by omega⟩
          · cases e
        | _ => cases e
      | _ => cases hb <;> cases e)
end PyI

set_option maxRecDepth 100000
/-! PyI4: comparisons, items, slices. -/
namespace PyI
open PySem PySem.Spec PyProof.Rows L2

theorem strLt_eq : ∀ x y : List Nat, strLt x y = decide (x < y)
  | [], [] => by simp [strLt]
  | [], y :: ys => by simp [strLt]
  | x :: xs, [] => by simp [strLt]
  | x :: xs, y :: ys => by
    unfold strLt
    rw [strLt_eq xs ys]
    by_cases h1 : x < y
    · simp [h1, List.cons_lt_cons_iff]
    · by_cases h2 : y < x
      · have : ¬ x = y := by omega
        simp [h1, h2, List.cons_lt_cons_iff, this]
      · have : x = y := by omega
        subst this
        simp [List.cons_lt_cons_iff]

/-- y stands in x at i -/
def preAt (y x : List Nat) (i : Nat) : Bool := isPre y (x.drop i)
theorem isPre_iff : ∀ (y x : List Nat), isPre y x = true ↔ ∃ t, x = y ++ t
  | [], x => by simp [isPre]
  | y :: ys, [] => by simp [isPre]
  | y :: ys, x :: xs => by
    simp only [isPre, Bool.and_eq_true, beq_iff_eq, isPre_iff ys xs, List.cons_append, List.cons.injEq]
    constructor
    · rintro ⟨rfl, t, h⟩
      exact ⟨t, rfl, h⟩
    · rintro ⟨t, h, h2⟩
      exact ⟨h.symm, t, h2⟩
theorem isSub_iff : ∀ (y x : List Nat), isSub y x = true ↔ ∃ a b, x = a ++ y ++ b
  | y, [] => by
    simp only [isSub, List.isEmpty_iff]
    constructor
    · rintro rfl; exact ⟨[], [], rfl⟩
    · rintro ⟨a, b, h⟩
      have := congrArg List.length h
      simp only [List.length_nil, List.length_append] at this
      exact List.length_eq_zero_iff.mp (by omega)
  | y, x :: xs => by
    simp only [isSub, Bool.or_eq_true, isPre_iff, isSub_iff y xs]
    constructor
    · rintro (⟨t, h⟩ | ⟨a, b, h⟩)
      · exact ⟨[], t, h⟩
      · exact ⟨x :: a, b, by rw [h]; rfl⟩
    · rintro ⟨a, b, h⟩
      cases a with
      | nil => exact .inl ⟨b, h⟩
      | cons c a =>
        have : xs = a ++ y ++ b := by
          have := List.cons.inj h
          exact this.2
        exact .inr ⟨a, b, this⟩
theorem subAt_iff (x y : List Nat) (i : Nat) (h : i + y.length ≤ x.length) : Builtin.Str.subAt ⟨x.toArray⟩ ⟨y.toArray⟩ i = true ↔ ∃ a b, x = a ++ y ++ b ∧ a.length = i := by
  have e : Builtin.Str.subAt ⟨x.toArray⟩ ⟨y.toArray⟩ i = true ↔ (x.drop i).take y.length = y := by
    unfold Builtin.Str.subAt
    simp [Str.length]
  rw [e]
  constructor
  · intro q
    refine ⟨x.take i, (x.drop i).drop y.length, ?_, by rw [List.length_take]; omega⟩
    have h1 : y ++ (x.drop i).drop y.length = x.drop i := by
      conv => lhs; rw [← q]
      rw [q]
      exact (congrArg (· ++ _) q.symm).trans (List.take_append_drop _ _)
    rw [List.append_assoc, h1, List.take_append_drop]
  · rintro ⟨a, b, rfl, rfl⟩
    rw [List.append_assoc, List.drop_left, List.take_left]
theorem found_sub (x y : List Nat) : (!(Builtin.Str.occurrences ⟨x.toArray⟩ ⟨y.toArray⟩ 0 (⟨x.toArray⟩ : Str).length 1).isEmpty) = isSub y x := by
  rw [Bool.eq_iff_iff, PySem.StrLaws.found_iff, isSub_iff]
  constructor
  · rintro ⟨i, h1, h2⟩
    have h1' : i + y.length ≤ x.length := by simpa [Str.length] using h1
    obtain ⟨a, b, e, _⟩ := (subAt_iff x y i h1').mp h2
    exact ⟨a, b, e⟩
  · rintro ⟨a, b, e⟩
    have hl : a.length + y.length ≤ x.length := by rw [e]; simp only [List.length_append]; omega
    exact ⟨a.length, by simpa [Str.length] using hl, (subAt_iff x y a.length hl).mpr ⟨a, b, e, rfl⟩⟩

theorem isIn_eq {x : PV} (hx : isD x = true) : ∀ {ys : List PV}, isDs ys = true → ((toDs ys).any fun z => PyData.eqv z (toD x)) = isIn x ys
  | [], _ => rfl
  | y :: ys, h => by
    have h' : isD y = true ∧ isDs ys = true := by simpa [isDs] using h
    simp only [toDs, List.any_cons, isIn, toD_eqv y x h'.1 hx, isIn_eq hx h'.2]

/-! ### dicts of texts -/
theorem key_inj {j k : Ky} : (kyK j = kyK k) ↔ j = k := by
  constructor
  · intro h
    match j, k, h with
    | .int a, .int b, h => have h := Sum.inl.inj h; rw [h]
    | .str a, .str b, h =>
      have h := Sum.inr.inj h
      have h := congrArg (fun s : Str => s.cps.toList) h
      rw [show a = b by simpa using h]
    | .int _, .str _, h => cases h
    | .str _, .int _, h => cases h
  · rintro rfl
    rfl
theorem key_rel {K : PySem.W.Frag} {fa : Nat → Addr} {ρ : List Addr} {H : Hp} {b : PV} {y : V} {k : Ky} (e : kyP b = some k) (h : PRel K fa ρ H b y) : y = L2.kV (kyK k) ∧ okK k = true := by
  cases h with
  | int i => cases e; exact ⟨rfl, rfl⟩
  | str s hs => cases e; exact ⟨rfl, hs⟩
  | _ => cases e
theorem keyed_val {K : PySem.W.Frag} {fa : Nat → Addr} {ρ : List Addr} {H : Hp} {k : Ky} {x : PV} : ∀ {ks : List Ky} {xs : List PV} {vs : List V}, lookD k ks xs = some x → PRels K fa ρ H xs vs → ks.length = vs.length → ∃ v, L2.valV (keyed ks vs) (kyK k) = some v ∧ PRel K fa ρ H x v
  | [], _, _, e, _, _ => by cases e
  | _ :: _, [], _, e, _, _ => by cases e
  | j :: js, y :: ys, _, e, .cons (v := v) (vs := vs) h r, l => by
    have e : (if j = k then some y else lookD k js ys) = some x := e
    by_cases q : j = k
    · rw [if_pos q] at e
      cases e
      exact ⟨v, L2.valV_pos (p := (kyK j, v)) (r := keyed js vs) (key_inj.mpr q), h⟩
    · rw [if_neg q] at e
      obtain ⟨w, h1, h2⟩ := keyed_val e r (by simpa using l)
      exact ⟨w, (L2.valV_neg (p := (kyK j, v)) (r := keyed js vs) (fun z => q (key_inj.mp z))).trans h1, h2⟩
theorem keyed_has {k : Ky} : ∀ {ks : List Ky} {vs : List V}, ks.length = vs.length → (L2.valV (keyed ks vs) (kyK k)).isSome = decide (k ∈ ks)
  | [], [], _ => rfl
  | [], _ :: _, l => by cases l
  | _ :: _, [], l => by cases l
  | j :: js, v :: vs, l => by
    by_cases q : j = k
    · subst q
      rw [show L2.valV (keyed (j :: js) (v :: vs)) (kyK j) = some v from L2.valV_pos (p := (kyK j, v)) (r := keyed js vs) rfl, decide_eq_true (List.mem_cons_self)]
      rfl
    · rw [show L2.valV (keyed (j :: js) (v :: vs)) (kyK k) = L2.valV (keyed js vs) (kyK k) from L2.valV_neg (p := (kyK j, v)) (r := keyed js vs) (fun z => q (key_inj.mp z)), keyed_has (by simpa using l)]
      rw [decide_eq_decide, List.mem_cons]
      exact ⟨.inr, fun z => z.elim (fun z => absurd z.symm q) _root_.id⟩
section
variable {X : Cx}
theorem ix_dct : IxR X (fun x y H Q => ∃ (a : Addr) (kvs : List (L2.Key × V)) (k : L2.Key) (w : V), x = .ref a ∧ H a = some (.dK kvs) ∧ y = L2.kV k ∧ L2.valV kvs k = some w ∧ Q w H) := by
  rintro va sl pins s σ H x y v u Q I rx ry ⟨a, kvs, k, w, rfl, e, rfl, l, q⟩ hs
  obtain rfl : v = Value.ref a := rx
  obtain ⟨z, hd, vs, rel, dd⟩ := L2.dk_rd I.hok (.inl e)
  obtain ⟨w', hw, rw'⟩ := RelO.some_of (v := w) (o := valueAt vs k) (by rw [← l]; exact rel.val k)
  exact tail_any dd.typeIs PySem.F.slot_dict_getitem.lookup (wpAny_getItem_of (L2.kV_is ry) dd.mapOf hw ⟨w, H, I.tok _, rw', q⟩) hs
theorem op_inK : OpR X (compareOp .In) (fun x y H Q => ∃ (a : Addr) (kvs : List (L2.Key × V)) (k : L2.Key), y = .ref a ∧ H a = some (.dK kvs) ∧ x = L2.kV k ∧ Q (.bl (L2.valV kvs k).isSome) H) := by
  rintro pins s σ H x y v u Q I rx ry ⟨a, kvs, k, rfl, e, rfl, q⟩
  obtain rfl : u = Value.ref a := ry
  obtain ⟨z, hd, vs, rel, dd⟩ := L2.dk_rd I.hok (.inl e)
  refine wpAny_in_of (L2.kV_is rx) hd dd.mapOf ?_
  rw [← (rel.val k).isSome_eq]
  exact ⟨.bl _, H, I.tok _, rfl, q⟩
theorem op_ninK : OpR X (compareOp .NotIn) (fun x y H Q => ∃ (a : Addr) (kvs : List (L2.Key × V)) (k : L2.Key), y = .ref a ∧ H a = some (.dK kvs) ∧ x = L2.kV k ∧ Q (.bl (!(L2.valV kvs k).isSome)) H) := by
  rintro pins s σ H x y v u Q I rx ry ⟨a, kvs, k, rfl, e, rfl, q⟩
  obtain rfl : u = Value.ref a := ry
  obtain ⟨z, hd, vs, rel, dd⟩ := L2.dk_rd I.hok (.inl e)
  refine wpAny_notIn_of (L2.kV_is rx) hd dd.mapOf ?_
  rw [← (rel.val k).isSome_eq]
  exact ⟨.bl _, H, I.tok _, rfl, q⟩
end
section
variable {X : Cx}
theorem op_inT (hu : X.A.units + 65 < cLine) : OpR X (compareOp .In) (fun x y H Q => ∃ d ds, Dp X.K H x d ∧ Dp X.K H y (.tuple ds) ∧ SeqAt.shaped d = true ∧ SeqAt.shaped (.tuple ds) = true ∧ Q (.bl (ds.any fun z => PyData.eqv z d)) H) := by
  rintro pins s σ H x y v u Q I rx ry ⟨d, ds, hd, he, sd, se, q⟩
  obtain ⟨as, r1⟩ := Dp.reads I _ _ _ hd rx
  obtain ⟨bs, r2⟩ := Dp.reads I _ _ _ he ry
  have c2 : PyData.canLayAll0 ds = true := by
    have := SeqAt.canLay_of_shaped se
    simpa [PyData.canLay0] using this
  refine SeqAt.in_tuple_reads r2 r1 c2 (SeqAt.canLay_of_shaped sd) ?_ ⟨.bl _, H, I, rfl, q⟩
  have : d.depth ≤ 64 := by
    have := (Bool.and_eq_true_iff.mp sd).2
    exact of_decide_eq_true this
  omega
theorem op_ninT (hu : X.A.units + 65 < cLine) : OpR X (compareOp .NotIn) (fun x y H Q => ∃ d ds, Dp X.K H x d ∧ Dp X.K H y (.tuple ds) ∧ SeqAt.shaped d = true ∧ SeqAt.shaped (.tuple ds) = true ∧ Q (.bl (!ds.any fun z => PyData.eqv z d)) H) := by
  rintro pins s σ H x y v u Q I rx ry ⟨d, ds, hd, he, sd, se, q⟩
  obtain ⟨as, r1⟩ := Dp.reads I _ _ _ hd rx
  obtain ⟨bs, r2⟩ := Dp.reads I _ _ _ he ry
  have c2 : PyData.canLayAll0 ds = true := by
    have := SeqAt.canLay_of_shaped se
    simpa [PyData.canLay0] using this
  refine SeqAt.notIn_tuple_reads r2 r1 c2 (SeqAt.canLay_of_shaped sd) ?_ ⟨.bl _, H, I, rfl, q⟩
  have : d.depth ≤ 64 := by
    have := (Bool.and_eq_true_iff.mp sd).2
    exact of_decide_eq_true this
  omega
end

abbrev cmpOp : CmpO → CmpOp
  | .eq => .Eq | .ne => .NotEq | .lt => .Lt | .le => .LtE | .gt => .Gt | .ge => .GtE | .isN => .Is | .isNotN => .IsNot | .in_ => .In | .notIn => .NotIn | .isB => .Is | .isNotB => .IsNot
def rCmp (K : PySem.W.Frag) (fa : Nat → Addr) (ρ : List Addr) (M : Addr → Prop) (o : CmpO) : R2 := fun x y H Q => ∃ a b k, PRel K fa ρ (fz M H) a x ∧ PRel K fa ρ (fz M H) b y ∧ ((o = .isN ∨ o = .isNotN) → y = .non) ∧
  cmpop o a b = some k ∧ Q (.bl k) H
section
variable {K : PySem.W.Frag} {fa : Nat → Addr} {ρ : List Addr} {M : Addr → Prop} {H : Hp} {Q : VK}
theorem shapedTup {ys : List PV} (h : PyData.canLayAll0 (toDs ys) = true) (d : depths ys ≤ 40) : SeqAt.shaped (.tuple (toDs ys)) = true := by
  have : PyData.depth (.tuple (toDs ys)) ≤ 64 := by
    have := toDs_depth ys
    simp only [PyData.depth]; omega
  unfold SeqAt.shaped
  rw [show PyData.canLay0 (.tuple (toDs ys)) = true by unfold PyData.canLay0; exact h, decide_eq_true this]; rfl
theorem shapedLst {ys : List PV} (h : PyData.canLayAll0 (toDs ys) = true) (d : depths ys ≤ 40) : SeqAt.shaped (.list (toDs ys)) = true := by
  have : PyData.depth (.list (toDs ys)) ≤ 64 := by
    have := toDs_depth ys
    simp only [PyData.depth]; omega
  unfold SeqAt.shaped
  rw [show PyData.canLay0 (.list (toDs ys)) = true by unfold PyData.canLay0; exact h, decide_eq_true this]; rfl
theorem okEq_iff {a b : PV} : okEq a b = true ↔ ((isD a = true ∧ isD b = true) ∧ depth a ≤ 40) ∧ depth b ≤ 40 := by
  unfold okEq
  simp
theorem eqD_of {a b : PV} {x y : V} {k : Bool} (ha : PRel K fa ρ (fz M H) a x) (hb : PRel K fa ρ (fz M H) b y) (e : (if okEq a b = true then some (eqv a b) else none) = some k) :
    ∃ d e', Dp K H x d ∧ Dp K H y e' ∧ SeqAt.shaped d = true ∧ SeqAt.shaped e' = true ∧ PyData.eqv d e' = k := by
  split at e
  · rename_i hk
    rw [okEq_iff] at hk
    obtain ⟨h1, h2⟩ := ha.dp hk.1.1.1 (fz_same)
    obtain ⟨h3, h4⟩ := hb.dp hk.1.1.2 (fz_same)
    cases e
    exact ⟨_, _, h1, h3, shaped_of h2 hk.1.2, shaped_of h4 hk.2, toD_eqv a b hk.1.1.1 hk.1.1.2⟩
  · cases e
end
theorem cmp_ok {X : Cx} {fa : Nat → Addr} {ρ : List Addr} {M : Addr → Prop} (hu : X.A.units + 65 < cLine) : ∀ o : CmpO, OpR X (compareOp (cmpOp o)) (rCmp X.K fa ρ M o)
  | .eq => OpR.imp (op_eqD (by omega)) (by
      rintro x y H Q ⟨a, b, k, ha, hb, _, e, q⟩
      obtain ⟨d, e', h1, h2, h3, h4, h5⟩ := eqD_of ha hb e
      exact ⟨d, e', h1, h2, h3, h4, by rw [h5]; exact q⟩)
  | .ne => OpR.imp (op_neD (by omega)) (by
      rintro x y H Q ⟨a, b, k, ha, hb, _, e, q⟩
      have e : (if okEq a b = true then some (!eqv a b) else none) = some k := e
      have e2 : (if okEq a b = true then some (eqv a b) else none) = some (!k) := by
        split at e
        · rename_i z
          cases e
          rw [if_pos z, Bool.not_not]
        · cases e
      obtain ⟨d, e', h1, h2, h3, h4, h5⟩ := eqD_of ha hb e2
      exact ⟨d, e', h1, h2, h3, h4, by rw [h5, Bool.not_not]; exact q⟩)
  | .lt => OpR.imp (op_lt.or op_lt_str) (by
      rintro x y H Q ⟨a, b, k, ha, hb, _, e, q⟩
      cases ha with
      | int i => cases hb with
        | int j => cases e; exact or1 ⟨i, j, rfl, rfl, q⟩
        | _ => cases e
      | str i hi => cases hb with
        | str j hj => cases e; exact or2 ⟨_, _, rfl, rfl, by rw [strLt_eq] at q; exact q⟩
        | _ => cases e
      | _ => cases hb <;> cases e)
  | .le => OpR.imp (op_le.or op_le_str) (by
      rintro x y H Q ⟨a, b, k, ha, hb, _, e, q⟩
      cases ha with
      | int i => cases hb with
        | int j => cases e; exact or1 ⟨i, j, rfl, rfl, q⟩
        | _ => cases e
      | str i hi => cases hb with
        | str j hj => cases e; exact or2 ⟨_, _, rfl, rfl, by rw [strLt_eq] at q; exact q⟩
        | _ => cases e
      | _ => cases hb <;> cases e)
  | .gt => OpR.imp (op_gt.or op_gt_str) (by
      rintro x y H Q ⟨a, b, k, ha, hb, _, e, q⟩
      cases ha with
      | int i => cases hb with
        | int j => cases e; exact or1 ⟨i, j, rfl, rfl, q⟩
        | _ => cases e
      | str i hi => cases hb with
        | str j hj => cases e; exact or2 ⟨_, _, rfl, rfl, by rw [strLt_eq] at q; exact q⟩
        | _ => cases e
      | _ => cases hb <;> cases e)
  | .ge => OpR.imp (op_ge.or op_ge_str) (by
      rintro x y H Q ⟨a, b, k, ha, hb, _, e, q⟩
      cases ha with
      | int i => cases hb with
        | int j => cases e; exact or1 ⟨i, j, rfl, rfl, q⟩
        | _ => cases e
      | str i hi => cases hb with
        | str j hj => cases e; exact or2 ⟨_, _, rfl, rfl, by rw [strLt_eq] at q; exact q⟩
        | _ => cases e
      | _ => cases hb <;> cases e)
  | .isN => OpR.imp op_isN (by
      rintro x y H Q ⟨a, b, k, ha, hb, hn, e, q⟩
      refine ⟨hn (.inl rfl), ?_⟩
      cases ha <;> (cases e; exact q))
  | .isNotN => OpR.imp op_notN (by
      rintro x y H Q ⟨a, b, k, ha, hb, hn, e, q⟩
      refine ⟨hn (.inr rfl), ?_⟩
      cases ha <;> (cases e; exact q))
  | .isB => OpR.imp op_isBl (by
      rintro x y H Q ⟨a, b, k, ha, hb, hn, e, q⟩
      cases ha with
      | bl i => cases hb with
        | bl j => cases e; exact ⟨i, j, rfl, rfl, by rw [Bool.beq_eq_decide_eq] at q; exact q⟩
        | _ => cases e
      | _ => cases hb <;> cases e)
  | .isNotB => OpR.imp op_notBl (by
      rintro x y H Q ⟨a, b, k, ha, hb, hn, e, q⟩
      cases ha with
      | bl i => cases hb with
        | bl j => cases e; exact ⟨i, j, rfl, rfl, by rw [Bool.beq_eq_decide_eq] at q; exact q⟩
        | _ => cases e
      | _ => cases hb <;> cases e)
  | .in_ => OpR.imp (op_in_str.or ((op_inD hu).or ((op_inT hu).or op_inK))) (by
      rintro x y H Q ⟨a, b, k, ha, hb, _, e, q⟩
      cases hb with
      | str j hj =>
        cases ha with
        | str i hi => cases e; exact or1 ⟨_, _, rfl, rfl, by rw [found_sub]; exact q⟩
        | _ => cases e
      | lst h r =>
        rename_i ys _ _
        have e : (if (isD a && isDs ys && decide (depth a ≤ 40) && decide (depths ys ≤ 40)) = true then some (isIn a ys) else none) = some k := by cases a <;> exact e
        split at e
        · rename_i hk
          have hk' : ((isD a = true ∧ isDs ys = true) ∧ depth a ≤ 40) ∧ depths ys ≤ 40 := by simpa using hk
          cases e
          obtain ⟨h1, h2⟩ := ha.dp hk'.1.1.1 (fz_same)
          obtain ⟨h3, h4⟩ := r.dp hk'.1.1.2 (fz_same)
          exact or2 (or1 ⟨_, _, h1, .lst (SqL.of (fz_same _ _ h)) h3, shaped_of h2 hk'.1.2, shapedLst h4 hk'.2, by rw [isIn_eq hk'.1.1.1 hk'.1.1.2]; exact q⟩)
        · cases e
      | tup h r =>
        rename_i ys _ _
        have e : (if (isD a && isDs ys && decide (depth a ≤ 40) && decide (depths ys ≤ 40)) = true then some (isIn a ys) else none) = some k := by cases a <;> exact e
        split at e
        · rename_i hk
          have hk' : ((isD a = true ∧ isDs ys = true) ∧ depth a ≤ 40) ∧ depths ys ≤ 40 := by simpa using hk
          cases e
          obtain ⟨h1, h2⟩ := ha.dp hk'.1.1.1 (fz_same)
          obtain ⟨h3, h4⟩ := r.dp hk'.1.1.2 (fz_same)
          exact or2 (or2 (or1 ⟨_, _, h1, .tup (Same.sqT fz_same h) h3, shaped_of h2 hk'.1.2, shapedTup h4 hk'.2, by rw [isIn_eq hk'.1.1.1 hk'.1.1.2]; exact q⟩))
        · cases e
      | dct h l _ r =>
        rename_i ks _ _ _ _
        have e : (kyP a).map (fun k => decide (k ∈ ks)) = some k := by cases a <;> exact e
        cases ek : kyP a with
        | none => rw [ek] at e; cases e
        | some kk =>
          rw [ek] at e
          cases e
          exact or2 (or2 (or2 ⟨_, _, kyK kk, rfl, fz_same _ _ h, (key_rel ek ha).1, by rw [keyed_has l]; exact q⟩))
      | _ => cases ha <;> cases e)
  | .notIn => OpR.imp (op_notin_str.or ((op_notInD hu).or ((op_ninT hu).or op_ninK))) (by
      rintro x y H Q ⟨a, b, k, ha, hb, _, e, q⟩
      cases hb with
      | str j hj =>
        cases ha with
        | str i hi => cases e; exact or1 ⟨_, _, rfl, rfl, by rw [found_sub]; exact q⟩
        | _ => cases e
      | lst h r =>
        rename_i ys _ _
        have e : (if (isD a && isDs ys && decide (depth a ≤ 40) && decide (depths ys ≤ 40)) = true then some (!isIn a ys) else none) = some k := by cases a <;> exact e
        split at e
        · rename_i hk
          have hk' : ((isD a = true ∧ isDs ys = true) ∧ depth a ≤ 40) ∧ depths ys ≤ 40 := by simpa using hk
          cases e
          obtain ⟨h1, h2⟩ := ha.dp hk'.1.1.1 (fz_same)
          obtain ⟨h3, h4⟩ := r.dp hk'.1.1.2 (fz_same)
          exact or2 (or1 ⟨_, _, h1, .lst (SqL.of (fz_same _ _ h)) h3, shaped_of h2 hk'.1.2, shapedLst h4 hk'.2, by rw [isIn_eq hk'.1.1.1 hk'.1.1.2]; exact q⟩)
        · cases e
      | tup h r =>
        rename_i ys _ _
        have e : (if (isD a && isDs ys && decide (depth a ≤ 40) && decide (depths ys ≤ 40)) = true then some (!isIn a ys) else none) = some k := by cases a <;> exact e
        split at e
        · rename_i hk
          have hk' : ((isD a = true ∧ isDs ys = true) ∧ depth a ≤ 40) ∧ depths ys ≤ 40 := by simpa using hk
          cases e
          obtain ⟨h1, h2⟩ := ha.dp hk'.1.1.1 (fz_same)
          obtain ⟨h3, h4⟩ := r.dp hk'.1.1.2 (fz_same)
          exact or2 (or2 (or1 ⟨_, _, h1, .tup (Same.sqT fz_same h) h3, shaped_of h2 hk'.1.2, shapedTup h4 hk'.2, by rw [isIn_eq hk'.1.1.1 hk'.1.1.2]; exact q⟩))
        · cases e
      | dct h l _ r =>
        rename_i ks _ _ _ _
        have e : (kyP a).map (fun k => !decide (k ∈ ks)) = some k := by cases a <;> exact e
        cases ek : kyP a with
        | none => rw [ek] at e; cases e
        | some kk =>
          rw [ek] at e
          cases e
          exact or2 (or2 (or2 ⟨_, _, kyK kk, rfl, fz_same _ _ h, (key_rel ek ha).1, by rw [keyed_has l]; exact q⟩))
      | _ => cases ha <;> cases e)

/-! ### - x -/
abbrev unOp : UnO → UnaryOp
  | .neg => .USub
def rUn (K : PySem.W.Frag) (fa : Nat → Addr) (ρ : List Addr) (M : Addr → Prop) (o : UnO) : V → Hp → VK → Prop := fun x H Q => ∃ a v, PRel K fa ρ (fz M H) a x ∧ unop o a = some v ∧ Gv K fa ρ M H v Q
theorem un_ok {X : Cx} {fa : Nat → Addr} {ρ : List Addr} {M : Addr → Prop} : ∀ o : UnO, UnR X (unaryOp (unOp o)) (rUn X.K fa ρ M o)
  | .neg => fun pins s σ H x v Q I rx ⟨a, w, ha, e, g⟩ => un_neg pins s σ H x v Q I rx (by
      cases ha with
      | int i => cases e; exact ⟨i, rfl, g.int⟩
      | _ => cases e)

/-! ### items -/
theorem okS_get {x : List Nat} {i : Nat} {c : Nat} (h : okS x = true) (e : x[i]? = some c) : okS [c] = true := by
  have := List.all_eq_true.mp h c (List.mem_of_getElem? e)
  unfold okS
  rw [List.all_cons, this]; rfl
theorem getAt_some {α : Type} {xs : List α} {i : Int} {v : α} (h : getAt xs i = some v) : ∃ j, ixN xs.length i = some j ∧ xs[j]? = some v := by
  unfold getAt at h
  cases e : ixN xs.length i with
  | none => rw [e] at h; cases h
  | some j => rw [e] at h; exact ⟨j, rfl, h⟩
theorem ixN_eq (n : Nat) (i : Int) : ixN n i = L2.ixN n i := rfl
theorem atI_of {α β : Type} {xs : List α} {ys : List β} {i : Int} {j : Nat} {v : β} (hl : xs.length = ys.length) (h : ixN xs.length i = some j) (e : ys[j]? = some v) : L2.atI ys i = some v := by
  unfold L2.atI
  rw [← hl, ← ixN_eq, h]; exact e
def rSub (K : PySem.W.Frag) (fa : Nat → Addr) (ρ : List Addr) (M : Addr → Prop) : R2 := fun x y H Q => ∃ a b v s, PRel K fa ρ (fz M H) a x ∧ PRel K fa ρ (fz M H) b y ∧ StR ρ H s ∧ subS s a b = some v ∧ (∀ u, PRel K fa ρ (fz M H) v u → Q u H)
theorem IxR.imp {X : Cx} {r r' : R2} (h : IxR X r) (i : ∀ x y H Q, r' x y H Q → r x y H Q) : IxR X r' := by
  intro va sl pins s σ H x y v u Q I rx ry q hs
  exact h va sl pins s σ H x y v u Q I rx ry (i _ _ _ _ q) hs
theorem sub_ok0 {X : Cx} {fa : Nat → Addr} {ρ : List Addr} {M : Addr → Prop} : IxR X (fun x y H Q => ∃ a b v s, (∀ ks xs, a ≠ .dct ks xs) ∧ PRel X.K fa ρ (fz M H) a x ∧ PRel X.K fa ρ (fz M H) b y ∧ StR ρ H s ∧ subS s a b = some v ∧ (∀ u, PRel X.K fa ρ (fz M H) v u → Q u H)) := IxR.imp ix_seq (by
  rintro x y H Q ⟨a, b, w, st, hd, ha, hb, hs, e, q⟩
  cases ha with
  | lst h1 r => cases hb with
    | int i =>
      obtain ⟨j, h2, h3⟩ := getAt_some e
      obtain ⟨z, h4, h5⟩ := r.get h3
      exact or1 ⟨_, _, i, z, rfl, rfl, SqL.of (fz_same _ _ h1), atI_of r.length h2 h4, q z h5⟩
    | _ => cases e
  | tup h1 r => cases hb with
    | int i =>
      obtain ⟨j, h2, h3⟩ := getAt_some e
      obtain ⟨z, h4, h5⟩ := r.get h3
      exact or2 (or1 ⟨_, _, i, z, rfl, rfl, Same.sqT fz_same h1, atI_of r.length h2 h4, q z h5⟩)
    | _ => cases e
  | loc hp => cases hb with
    | int i =>
      rename_i p _
      have e : ((st[p]?).bind fun xs => getAt xs i) = some w := e
      cases e0 : st[p]? with
      | none => rw [e0] at e; cases e
      | some xs =>
        rw [e0] at e
        obtain ⟨b, vs, k1, k2, k3, k4⟩ := hs.at_ _ _ e0
        rw [hp] at k1
        cases k1
        obtain ⟨j, h2, h3⟩ := getAt_some e
        obtain ⟨z, h4, h5⟩ := k4.get h3
        exact or1 ⟨_, _, i, z, rfl, rfl, SqL.of k2, atI_of k4.length h2 h4, q z (h5.scal (List.all_eq_true.mp k3 _ (List.mem_of_getElem? h3)))⟩
    | _ => cases e
  | str x hx => cases hb with
    | int i =>
      have e : (if x.length ≤ SZ then (getAt x i).map fun c => PV.str [c] else none) = some w := e
      split at e
      · rename_i hz
        cases e0 : getAt x i with
        | none => rw [e0] at e; cases e
        | some c =>
          rw [e0] at e
          cases e
          obtain ⟨j, h2, h3⟩ := getAt_some e0
          refine or2 (or2 ⟨_, i, c, rfl, rfl, ?_, ?_, q _ (.str [c] (okS_get hx h3))⟩)
          · show x.toArray.size ≤ _
            rw [List.size_toArray, sz_eq]; exact hz
          · show L2.atI x.toArray.toList i = some c
            exact atI_of (xs := x) rfl h2 h3
      · cases e
    | _ => cases e
  | dct _ _ _ _ => exact absurd rfl (hd _ _)
  | _ => cases hb <;> cases e)

theorem sub_ok {X : Cx} {fa : Nat → Addr} {ρ : List Addr} {M : Addr → Prop} : IxR X (rSub X.K fa ρ M) := IxR.imp (sub_ok0 (fa := fa) (ρ := ρ) (M := M) |>.or ix_dct) (by
  rintro x y H Q ⟨a, b, w, st, ha, hb, hs, e, q⟩
  by_cases hd : ∀ ks xs, a ≠ .dct ks xs
  · exact .inl ⟨a, b, w, st, hd, ha, hb, hs, e, q⟩
  · right
    have : ∃ ks xs, a = .dct ks xs := Classical.byContradiction fun z => hd fun ks xs h => z ⟨ks, xs, h⟩
    obtain ⟨ks, xs, rfl⟩ := this
    cases ha with
    | dct h l _ r =>
      have e : ((kyP b).bind fun k => lookD k ks xs) = some w := by cases b <;> exact e
      cases ek : kyP b with
      | none => rw [ek] at e; cases e
      | some kk =>
        rw [ek] at e
        obtain ⟨v, h1, h2⟩ := keyed_val (show lookD kk ks xs = some w from e) r l
        exact ⟨_, _, kyK kk, v, rfl, fz_same _ _ h, (key_rel ek hb).1, h1, q v h2⟩)

/-! ### slices -/
theorem okS_drop {x : List Nat} (h : okS x = true) (n : Nat) : okS (x.drop n) = true := List.all_eq_true.mpr fun c hc => List.all_eq_true.mp h c (List.mem_of_mem_drop hc)
theorem okS_take {x : List Nat} (h : okS x = true) (n : Nat) : okS (x.take n) = true := List.all_eq_true.mpr fun c hc => List.all_eq_true.mp h c (List.mem_of_mem_take hc)
theorem sIx_eq (n d : Nat) (o : Option Int) : sIx n d o = HT.sIx n d o := by cases o <;> rfl
theorem cut_eqV (xs : List V) (lo hi : Option Int) : cutV xs lo hi = cut xs lo hi := by
  unfold cutV cut
  simp only [sIx_eq]
theorem PRels.cut {K : PySem.W.Frag} {fa : Nat → Addr} {ρ : List Addr} {H : Hp} {xs : List PV} {vs : List V} (r : PRels K fa ρ H xs vs) (lo hi : Option Int) : PRels K fa ρ H (cut xs lo hi) (cut vs lo hi) := by
  unfold PyI.cut
  rw [r.length]
  exact (r.drop _).take _
theorem SlR.imp {X : Cx} {r r' : V → Option Int → Option Int → Hp → VK → Prop} (h : SlR X r) (i : ∀ x lo hi H Q, r' x lo hi H Q → r x lo hi H Q) : SlR X r' := by
  intro pins s σ H x v vl vu lo hi sl Q I rx hs pl pu q
  exact h pins s σ H x v vl vu lo hi sl Q I rx hs pl pu (i _ _ _ _ _ q)
def rSlc (K : PySem.W.Frag) (fa : Nat → Addr) (ρ : List Addr) (M : Addr → Prop) : V → Option Int → Option Int → Hp → VK → Prop := fun x lo hi H Q => ∃ a v, (∀ b, M b → H b ≠ none) ∧ PRel K fa ρ (fz M H) a x ∧ slV a lo hi = some v ∧ Gv K fa ρ M H v Q
theorem cut_all {α : Type} (xs : List α) (lo hi : Option Int) (h : sIx xs.length 0 lo = 0 ∧ sIx xs.length xs.length hi = xs.length) : cut xs lo hi = xs := by
  unfold cut
  rw [h.1, h.2, Nat.sub_zero, List.drop_zero, List.take_length]
theorem slc_ok {X : Cx} {fa : Nat → Addr} {ρ : List Addr} {M : Addr → Prop} : SlR X (rSlc X.K fa ρ M) := SlR.imp ((sl_list.or sl_tupA).or sl_str) (by
  rintro x lo hi H Q ⟨a, v, hM, ha, e, g⟩
  cases ha with
  | lst h r =>
    cases e
    exact or1 (or1 ⟨_, _, rfl, SqL.of (fz_same _ _ h), by rw [cut_eqV]; exact g.lst hM (r.cut lo hi)⟩)
  | tup h r =>
    cases e
    have hl := r.length
    refine or1 (or2 ⟨_, _, rfl, Same.sqT fz_same h, fun z => ?_, fun z => by rw [cut_eqV]; exact g.tup hM (r.cut lo hi)⟩)
    rw [← sIx_eq, ← sIx_eq, ← hl] at z
    rw [cut_all _ _ _ z] at g
    exact g.tupAt h r
  | str s hs =>
    have e : (if s.length ≤ SZ then some (PV.str (cut s lo hi)) else none) = some v := e
    split at e
    · rename_i hz
      cases e
      refine or2 ⟨_, rfl, ?_, ?_⟩
      · show s.toArray.size ≤ _
        rw [List.size_toArray, sz_eq]; exact hz
      · have e2 : cutS ⟨s.toArray⟩ lo hi = ⟨(cut s lo hi).toArray⟩ := by
          unfold cutS cut
          simp only [sIx_eq, Str.length, List.size_toArray]
        rw [e2]
        exact g.str (okS_take (okS_drop hs _) _)
    · cases e
  | _ => cases e)
end PyI

set_option maxRecDepth 100000
/-! PyIL: list(x), x a text. -/
namespace PyI
open PySem PySem.Spec PyProof.Rows L2
theorem signs_vals : ∀ (cs : List Nat) (vs : List Value), vs.length = cs.length → (∀ (j : Nat) (v : Value), vs[j]? = some v → ∃ c u, cs[j]? = some c ∧ v = .str ⟨#[c]⟩ u) → Vals (cs.map fun c => V.str ⟨#[c]⟩) vs
  | [], [], _, _ => .nil
  | c :: cs, v :: vs, hl, h => by
    obtain ⟨c', u, e, rfl⟩ := h 0 v rfl
    cases e
    exact .cons ⟨u, rfl⟩ (signs_vals cs vs (by simpa using hl) fun j v hj => h (j + 1) v hj)
  | [], _ :: _, hl, _ => by cases hl
  | _ :: _, [], hl, _ => by cases hl
theorem call_list_txt {X : Cx} (hc : X.calm = true) : CallR X (.type "list") (fun xs H Q => ∃ z : Str, xs = [.str z] ∧ z.length ≤ sizeLine ∧ ∀ l, H l = none → Q (.ref l) (upd H l (.lst (z.cps.toList.map fun c => V.str ⟨#[c]⟩)))) := by
  intro pins s σ H xs us Q I r h
  obtain ⟨z, rfl, hz, q⟩ := h
  obtain ⟨u, rfl, rx⟩ := vals1 r
  obtain ⟨t, rfl⟩ := rx
  refine call_list_str (I.ok.hd hc) z t (fun h' tk acc' c' kp e it => ?_) hz
  have rr : Vals (z.cps.toList.map fun c => V.str ⟨#[c]⟩) acc'.toList := signs_vals _ _ (by rw [Array.length_toList, Array.length_toList]; exact it.1) fun j v hj => by
    obtain ⟨c, u, e1, e2⟩ := it.2 j v (by rw [← Array.getElem?_toList]; exact hj)
    exact ⟨c, u, by rw [Array.getElem?_toList]; exact e1, e2⟩
  refine ⟨.ref _, _, I.laid (t' := tk) kp (Nat.le_refl _) (show ObjOk X.prog X.w _ h' _ (.lst _) from ⟨?_, acc'.toList, c', rr, by rw [Array.toArray_toList]; exact e⟩), rfl, q _ (I.hok.fresh (Nat.le_refl _))⟩
  rw [List.length_map, Array.length_toList]
  exact hz
theorem call_tuple_txt {X : Cx} (hc : X.calm = true) : CallR X (.type "tuple") (fun xs H Q => ∃ z : Str, xs = [.str z] ∧ z.length ≤ sizeLine ∧ ∀ l, H l = none → Q (.ref l) (upd H l (.tup (z.cps.toList.map fun c => V.str ⟨#[c]⟩)))) := by
  intro pins s σ H xs us Q I r h
  obtain ⟨z, rfl, hz, q⟩ := h
  obtain ⟨u, rfl, rx⟩ := vals1 r
  obtain ⟨t, rfl⟩ := rx
  refine call_tuple_str (I.ok.hd hc) z t (fun h' tk acc kp it => ?_) hz
  have rr : Vals (z.cps.toList.map fun c => V.str ⟨#[c]⟩) acc.toList := signs_vals _ _ (by rw [Array.length_toList, Array.length_toList]; exact it.1) fun j v hj => by
    obtain ⟨c, u, e1, e2⟩ := it.2 j v (by rw [← Array.getElem?_toList]; exact hj)
    exact ⟨c, u, by rw [Array.getElem?_toList]; exact e1, e2⟩
  have I3 : L2.Inv X pins σ H { s with heap := h', toks := tk } := I.kept (t' := tk) kp
  refine ⟨.ref _, _, I3.laid (t' := tk) (fun b o e => Heap.get?_push_of_some _ e) (Nat.le_refl _) (show ObjOk X.prog X.w _ _ _ (.tup _) from ⟨?_, acc.toList, rr, ?_⟩), rfl, q _ (I3.hok.fresh (Nat.le_refl _))⟩
  · rw [List.length_map, Array.length_toList]
    exact hz
  · rw [Array.toArray_toList]
    exact IsTup.new _ _
end PyI

set_option maxRecDepth 100000
/-! PyIU: a list unpacked to targets. -/
namespace PyI
open PySem PySem.Spec PyProof.Rows L2
section
variable {prog : Program} {w : World} {A : Around} {E : Value → Shared → Prop} {s : Shared}
theorem draw_list {it t : Addr} {items : Array Value} (hne : t ≠ it) : ∀ (n i : Nat) (s : Shared) (Q : List Value → Shared → Prop), s.heap.IsListIter it t i → s.heap.IsList t items → i + n ≤ items.size →
    (∀ h' : Heap, h'.IsListIter it t (i + n) → Heap.SameBut it s.heap h' → Q ((items.toList.drop i).take n) { s with heap := h' }) → wpAny (model prog w) A (draw (.ref it) n) Q E s
  | 0, i, s, Q, hit, _, _, hQ => by
    show wpAny _ _ (pure []) Q E s
    exact wpAny_pure (by simpa using hQ s.heap hit (Heap.SameBut.refl ..))
  | n + 1, i, s, Q, hit, ht, hle, hQ => by
    have hlt : i < items.size := by omega
    show wpAny _ _ (pyNext (.ref it) >>= _) Q E s
    refine wpAny_bind (wpAny_pyNext_list_item hit ht (x := items[i]) (by simp [hlt]) fun h₁ hit₁ hs₁ => ?_)
    refine wpAny_bind (wpAny_holding (draw_list hne n (i + 1) _ _ hit₁ (ht.extBut hs₁.extBut hne) (by omega) fun h₂ hit₂ hs₂ => wpAny_pure ?_))
    have hd : items.toList.drop i = items[i] :: items.toList.drop (i + 1) := by simp [List.drop_eq_getElem_cons, hlt]
    have := hQ h₂ (by rw [show i + (n + 1) = i + 1 + n by omega]; exact hit₂) (hs₁.trans hs₂)
    rw [hd, List.take_succ_cons] at this
    exact this
theorem unpackItems_list {t : Addr} {items : Array Value} {Q : List Value → Shared → Prop} (hh : A.handled = none) (ht : s.heap.IsList t items)
    (hQ : ∀ h', Heap.ExtBut s.heap.objs.size s.heap h' → Q items.toList { s with heap := h' }) : wpAny (model prog w) A (unpackItems (.ref t) items.size none) Q E s := by
  have hlt : t ≠ s.heap.objs.size := by obtain ⟨o, ho, _⟩ := ht; exact Nat.ne_of_lt (Heap.lt_size ho)
  unfold unpackItems
  refine wpAny_bind ?_
  · unfold notIterableAtAll
    refine wpAny_bind (wpAny_specialOf ht.typeIs PySem.slot_list_iter.lookup ?_)
    refine wpAny_pure ?_
    simp only [Bool.false_eq_true, if_false]
    refine wpAny_bind (wpAny_holding (wpAny_pyIter_list ht ?_))
    refine wpAny_bind (wpAny_holding (draw_list hlt items.size 0 _ _ ⟨_, Heap.get?_push_size _ rfl, rfl, rfl⟩ (ht.push _) (by omega) fun h₁ hit₁ hs₁ => ?_))
    have hall : List.take items.size (List.drop 0 items.toList) = items.toList := by
      rw [List.drop_zero]; exact List.take_of_length_le (by simp)
    rw [hall]
    rw [if_neg (by simp)]
    have ht₁ : h₁.IsList t items := (ht.push _).extBut hs₁.extBut hlt
    refine wpAny_bind (wpAny_holding (wpAny_pyNext_list_end hh hit₁ ht₁ (by simp) fun h₂ he₂ => ?_))
    simp only [Option.isSome_none, Bool.false_eq_true, if_false]
    refine wpAny_pure (hQ h₂ fun b o hb e => he₂ b o hb (hs₁.extBut b o hb (Heap.get?_push_of_some _ e)))
theorem unpack_list {t : Addr} {items : Array Value} {targets : List (Bool × (Value → Sem Unit))} {Q : Unit → Shared → Prop} (hh : A.handled = none) (ht : s.heap.IsList t items)
    (hn : targets.length = items.size) (hstar : targets.findIdx? (·.1) = none)
    (h : ∀ h', Heap.ExtBut s.heap.objs.size s.heap h' → wpAny (model prog w) A (assignInOrder (targets.map (·.2)) items.toList) Q E { s with heap := h' }) :
    wpAny (model prog w) A (unpack (.ref t) targets) Q E s := by
  unfold unpack
  rw [hn, hstar]
  exact wpAny_bind (wpAny_holding (unpackItems_list hh ht h))
theorem assign_Tuple_list {env : PySem.Env} {elts : List Expr} {x1} {pos : Pos} {t : Addr} {items : Array Value} {Q : Unit → Shared → Prop} (hh : A.handled = none) (ht : s.heap.IsList t items)
    (hn : (assignEach elts env).length = items.size) (hstar : (assignEach elts env).findIdx? (·.1) = none)
    (h : ∀ h', Heap.ExtBut s.heap.objs.size s.heap h' → wpAny (model prog w) A (assignInOrder ((assignEach elts env).map (·.2)) items.toList) Q E { s with heap := h' }) :
    wpAny (model prog w) A (assign (.Tuple elts x1 pos) env (.ref t)) Q E s := by
  rw [assign_Tuple]
  exact wpAny_bind (wpAny_standAt (unpack_list hh ht hn hstar h))
end
/-- a tuple or a list unpacked -/
def gTupE (K : PySem.W.Frag) (n : Nat) (t : TGs) : TG := fun v σ H Q => ∃ a xs, v = .ref a ∧ (SqT K H a xs ∨ SqL K H a xs) ∧ xs.length = n ∧ t xs σ H Q
theorem pg_tupE {X : Cx} {pos : Pos} {es : List Expr} {k : Nat} {t : TGs} {n : Nat} (hc : X.calm = true) (h : PGs X es t)
    (hn : (assignEach es X.env).length = n) (hst : (assignEach es X.env).findIdx? (·.1) = none) : PG X (.Tuple es k pos) (gTupE X.K n t) := by
  refine ⟨fun pins s σ H v u Q I r hw => ?_⟩
  obtain ⟨a, xs, e1, hq, hl, hw⟩ := hw
  subst e1
  cases r
  rcases hq with hq | hq
  · obtain ⟨its, rv, ht, hz⟩ := I.tuple hq
    refine assign_Tuple_tuple (I.ok.hd hc) ht (by simp [hn, ← hl, rv.length]) hst fun h' hx => ?_
    have I1 : Inv X pins σ H { s with heap := h' } := I.kept (t' := s.toks) fun b o e => hx b o (Nat.ne_of_lt (Heap.lt_size e)) e
    exact h.run pins _ σ H xs _ Q I1 (by simpa using rv) hw
  · obtain ⟨its, rv, pl, hz⟩ := I.list hq
    refine assign_Tuple_list (I.ok.hd hc) pl.isList (by simp [hn, ← hl, rv.length]) hst fun h' hx => ?_
    have I1 : Inv X pins σ H { s with heap := h' } := I.kept (t' := s.toks) fun b o e => hx b o (Nat.ne_of_lt (Heap.lt_size e)) e
    exact h.run pins _ σ H xs _ Q I1 (by simpa using rv) hw
end PyI

set_option maxRecDepth 100000
/-! PyIV: min(xs), max(xs) of texts. -/
namespace PyI
open PySem PySem.Spec PyProof.Rows L2
def minZ (x : Str) (xs : List Str) : Str := xs.foldl (fun a y => if decide (y.cps.toList < a.cps.toList) then y else a) x
def maxZ (x : Str) (xs : List Str) : Str := xs.foldl (fun a y => if decide (a.cps.toList < y.cps.toList) then y else a) x
theorem minD_strs : ∀ (xs : List Str) (x : Str), PySem.W.minD (.str x) (xs.map .str) = .str (minZ x xs)
  | [], x => rfl
  | y :: r, x => by
    show PySem.W.minD (if PySem.W.dataLt (.str y) (.str x) then .str y else .str x) (r.map .str) = _
    rw [PySem.W.dataLt_str]
    show _ = PyData.str (minZ (if decide (y.cps.toList < x.cps.toList) then y else x) r)
    rw [← minD_strs r]
    by_cases h : y.cps.toList < x.cps.toList
    · rw [decide_eq_true h]; rfl
    · rw [decide_eq_false h]; rfl
theorem maxD_strs : ∀ (xs : List Str) (x : Str), PySem.W.maxD (.str x) (xs.map .str) = .str (maxZ x xs)
  | [], x => rfl
  | y :: r, x => by
    show PySem.W.maxD (if PySem.W.dataLt (.str x) (.str y) then .str y else .str x) (r.map .str) = _
    rw [PySem.W.dataLt_str]
    show _ = PyData.str (maxZ (if decide (x.cps.toList < y.cps.toList) then y else x) r)
    rw [← maxD_strs r]
    by_cases h : x.cps.toList < y.cps.toList
    · rw [decide_eq_true h]; rfl
    · rw [decide_eq_false h]; rfl
theorem alike_strs (xs : List Str) : PySem.W.AlikeAll (xs.map PyData.str) := by
  refine ⟨fun a ha b hb => ?_, fun a ha => ?_⟩
  · obtain ⟨x, _, rfl⟩ := List.mem_map.mp ha
    obtain ⟨y, _, rfl⟩ := List.mem_map.mp hb
    rfl
  · obtain ⟨x, _, rfl⟩ := List.mem_map.mp ha
    exact fun z => nomatch z
theorem depth_strs : ∀ xs : List Str, PyData.depthAll (xs.map PyData.str) = 0
  | [] => rfl
  | x :: xs => by
    show max (PyData.depth (.str x)) (PyData.depthAll (xs.map PyData.str)) = 0
    rw [depth_strs xs]
    rfl
theorem cr_minS {X : Cx} (hc : X.calm = true) (hu : X.A.units + 65 < cLine) : CallR X (.builtin "min") (fun vs H Q => ∃ (a : Addr) (x : Str) (xs : List Str), vs = [V.ref a] ∧ SqL X.K H a ((x :: xs).map V.str) ∧ Q (.str (minZ x xs)) H) := by
  intro pins s σ H vs us Q I r h
  obtain ⟨a, x, xs, rfl, hs, q⟩ := h
  rw [Vals.ref1 r]
  obtain ⟨its, rv, pl, hz⟩ := I.list hs
  have hr : ReadsAll s.heap its.toArray.toList (.str x :: xs.map .str) [] := by
    rw [List.toList_toArray]
    exact strs_readAll s.heap rv.strs
  refine PySem.W.min_list_data (I.ok.hd hc) pl.isList hr (alike_strs (x :: xs)) (by rw [show (PyData.str x :: xs.map PyData.str) = (x :: xs).map PyData.str from rfl, depth_strs]; omega) fun i v h' tk bs hi rd hk => ?_
  rw [minD_strs] at rd
  obtain ⟨t, rfl, _⟩ := reads_str_inv rd
  exact ⟨.str _, H, I.kept (t' := tk) hk, ⟨t, rfl⟩, q⟩
theorem cr_maxS {X : Cx} (hc : X.calm = true) (hu : X.A.units + 65 < cLine) : CallR X (.builtin "max") (fun vs H Q => ∃ (a : Addr) (x : Str) (xs : List Str), vs = [V.ref a] ∧ SqL X.K H a ((x :: xs).map V.str) ∧ Q (.str (maxZ x xs)) H) := by
  intro pins s σ H vs us Q I r h
  obtain ⟨a, x, xs, rfl, hs, q⟩ := h
  rw [Vals.ref1 r]
  obtain ⟨its, rv, pl, hz⟩ := I.list hs
  have hr : ReadsAll s.heap its.toArray.toList (.str x :: xs.map .str) [] := by
    rw [List.toList_toArray]
    exact strs_readAll s.heap rv.strs
  refine PySem.W.max_list_data (I.ok.hd hc) pl.isList hr (alike_strs (x :: xs)) (by rw [show (PyData.str x :: xs.map PyData.str) = (x :: xs).map PyData.str from rfl, depth_strs]; omega) fun i v h' tk bs hi rd hk => ?_
  rw [maxD_strs] at rd
  obtain ⟨t, rfl, _⟩ := reads_str_inv rd
  exact ⟨.str _, H, I.kept (t' := tk) hk, ⟨t, rfl⟩, q⟩
/-- of texts as lists of signs -/
theorem minZ_eq (xs : List (List Nat)) : ∀ x : List Nat, minZ ⟨x.toArray⟩ (xs.map fun y => ⟨y.toArray⟩) = ⟨(minS x xs).toArray⟩ := by
  induction xs with
  | nil => intro x; rfl
  | cons y r ih =>
    intro x
    show minZ (if decide (y < x) then ⟨y.toArray⟩ else ⟨x.toArray⟩) (r.map fun y => ⟨y.toArray⟩) = ⟨(minS (if strLt y x then y else x) r).toArray⟩
    rw [← strLt_eq]
    cases strLt y x with
    | true => exact ih y
    | false => exact ih x
theorem maxZ_eq (xs : List (List Nat)) : ∀ x : List Nat, maxZ ⟨x.toArray⟩ (xs.map fun y => ⟨y.toArray⟩) = ⟨(maxS x xs).toArray⟩ := by
  induction xs with
  | nil => intro x; rfl
  | cons y r ih =>
    intro x
    show maxZ (if decide (x < y) then ⟨y.toArray⟩ else ⟨x.toArray⟩) (r.map fun y => ⟨y.toArray⟩) = ⟨(maxS (if strLt x y then y else x) r).toArray⟩
    rw [← strLt_eq]
    cases strLt x y with
    | true => exact ih y
    | false => exact ih x
theorem minS_mem {xs : List (List Nat)} : ∀ {x : List Nat}, minS x xs = x ∨ minS x xs ∈ xs := by
  induction xs with
  | nil => intro x; exact .inl rfl
  | cons y r ih =>
    intro x
    show minS (if strLt y x then y else x) r = x ∨ minS (if strLt y x then y else x) r ∈ y :: r
    cases strLt y x with
    | true => exact .inr ((ih (x := y)).elim (fun e => by rw [if_pos rfl, e]; exact List.mem_cons_self) fun h => List.mem_cons_of_mem _ h)
    | false => exact (ih (x := x)).elim .inl fun h => .inr (List.mem_cons_of_mem _ h)
theorem maxS_mem {xs : List (List Nat)} : ∀ {x : List Nat}, maxS x xs = x ∨ maxS x xs ∈ xs := by
  induction xs with
  | nil => intro x; exact .inl rfl
  | cons y r ih =>
    intro x
    show maxS (if strLt x y then y else x) r = x ∨ maxS (if strLt x y then y else x) r ∈ y :: r
    cases strLt x y with
    | true => exact .inr ((ih (x := y)).elim (fun e => by rw [if_pos rfl, e]; exact List.mem_cons_self) fun h => List.mem_cons_of_mem _ h)
    | false => exact (ih (x := x)).elim .inl fun h => .inr (List.mem_cons_of_mem _ h)
end PyI

set_option maxRecDepth 100000
/-! PyIQ: sorted(xs) of a tuple of texts. -/
namespace PyI
open PySem PySem.Spec PyProof.Rows L2
section
variable {prog : Program} {w : World} {A : Around} {E : Value → Shared → Prop} {s : Shared}
theorem collect_tup {l : Addr} {vs : List Value} {Q : List Value → Shared → Prop} (hl : IsTup s.heap l vs.toArray)
    (h : Q vs { s with heap := (s.heap.push (seqObj "list" #[] 0)).update s.heap.objs.size (Obj.mapSeq (· ++ vs.toArray)) }) (hsz : vs.length ≤ sizeLine := by size_fits) :
    wpAny (model prog w) A (collect (.ref l)) Q E s := by
  obtain ⟨o, ho, hc, n, hd⟩ := id hl
  unfold collect
  refine wpAny_bind (wpAny_runValue (codeAny_builtin entry_proto_collect' ?_))
  show wpAny _ _ (do again (.builtin "list.__iadd__" ⟨[← newList [], .ref l], []⟩)) _ _ s
  refine wpAny_bind (wpAny_newList (wpAny_pure ⟨Code.quiet_builtin _ (by decide +kernel), codeAny_builtin entry_list_iadd' ?_⟩))
  show wpAny _ _ (Builtin.List.listExtendWith (.ref s.heap.objs.size) (.ref l) (.ref s.heap.objs.size)) _ _ { s with heap := s.heap.push (seqObj "list" #[] 0) }
  unfold Builtin.List.listExtendWith
  have ho' : (s.heap.push (seqObj "list" #[] 0)).get? l = some o := Heap.get?_push_of_some _ ho
  refine wpAny_bind (wpAny_typeOf (T := "tuple") ⟨o, ho', hc⟩ ?_)
  have ht : (Value.type "tuple" == Value.type "tuple") = true := by rfl
  rw [if_pos (by rw [ht]; simp)]
  refine wpAny_bind (listItems_at ho' hd ?_)
  refine wpAny_bind (listItems_at (xs := #[]) (n := 0) (Heap.get?_push_size _ rfl) rfl ?_)
  rw [if_neg (by simp)]
  refine wpAny_bind (listUpdate_at (xs := #[]) (n := 0) (Heap.get?_push_size _ rfl) rfl ?_ (Nat.zero_le _) (by show (#[] ++ vs.toArray).size ≤ sizeLine + 1; simp only [Array.size_append, List.size_toArray, List.length_nil]; omega))
  refine wpAny_pure ?_
  show wpAny (model prog w) A (do
      let o ← load s.heap.objs.size
      match o.data with
      | .seq xs _ => pure xs.toList
      | _ => unsupported "internal:collect") Q E { s with heap := (s.heap.push (seqObj "list" #[] 0)).update s.heap.objs.size (Obj.mapSeq (· ++ vs.toArray)) }
  refine wpAny_bind (wpAny_load (get?_update_seq (Heap.get?_push_size _ rfl) _) ?_)
  show wpAny _ _ (pure ((#[] : Array Value) ++ vs.toArray).toList) Q E _
  rw [show ((#[] : Array Value) ++ vs.toArray).toList = vs by simp]
  exact wpAny_pure h
theorem sorted_strsTup {l : Addr} {vs : List Value} {ss : List Str} {Q : Value → Shared → Prop} (hl : IsTup s.heap l vs.toArray) (hS : StrsAre vs ss) (hL : vs.length ≤ sizeLine)
    (h : ∀ (out : Array Value) (ss' : List Str), StrsAre out.toList ss' → ss'.Perm ss → sortedS ss' = true → Q (.ref (s.heap.objs.size + 1)) { s with heap := sortedAll s.heap vs out }) :
    wpAny (model prog w) A (call (.builtin "sorted") [.ref l]) Q E s := by
  refine Calls.call_function_entry kind_sorted plain_sorted entry_sorted (args_sorted1 _) ?_
  unfold Builtin.«sorted»
  refine wpAny_bind (m := checkCount "sorted" 1 1 _) (wpAny_pure ?_)
  refine wpAny_bind (collect_tup hl ?_)
  refine wpAny_bind (wpAny_newList ?_)
  have hsz : ((s.heap.push (seqObj "list" #[] 0)).update s.heap.objs.size (Obj.mapSeq (· ++ vs.toArray))).objs.size = s.heap.objs.size + 1 := by
    rw [Heap.size_update, size_push']
  have hoL : (((s.heap.push (seqObj "list" #[] 0)).update s.heap.objs.size (Obj.mapSeq (· ++ vs.toArray))).push (seqObj "list" vs.toArray 0)).get? (s.heap.objs.size + 1) = some (seqObj "list" vs.toArray 0) := by
    rw [← hsz]; exact Heap.get?_push_size _ rfl
  show wpAny _ _ _ _ _ { s with heap := ((s.heap.push (seqObj "list" #[] 0)).update s.heap.objs.size (Obj.mapSeq (· ++ vs.toArray))).push (seqObj "list" vs.toArray 0) }
  rw [hsz]
  refine wpAny_bind (wpAny_holding (wpAny_call_entry slot_list_sort ⟨_, hoL, rfl⟩ entry_list_sort (list_sort_treeKAny strKind_oneLt hoL hS.keysOf (fun v₁ v₂ rest e => keyKind_strs (by rw [← e]; exact hS)) hL fun st' hp hs => ⟨_, rfl, ?_⟩) (args_list_sort _)))
  obtain ⟨ss', h1, h2, h3⟩ := sorted_out_str hS hp hs
  exact wpAny_pure ⟨_, rfl, h _ ss' h1 h2 h3⟩
end
theorem cr_sortedTS {X : Cx} : CallR X (.builtin "sorted") (fun vs H Q => ∃ (a : Addr) (xs : List Str), vs = [V.ref a] ∧ SqT X.K H a (xs.map V.str) ∧ ∀ (ys : List Str) (p : Addr), ys.Perm xs → sortedS ys = true → H p = none → Q (.ref p) (upd H p (.lst (ys.map V.str)))) := by
  intro pins s σ H vs us Q I r h
  obtain ⟨a, xs, rfl, hs, q⟩ := h
  obtain ⟨its, rv, hl, hz⟩ := I.tuple hs
  rw [Vals.ref1 r]
  have hlen0 := rv.length
  rw [List.length_map] at hlen0 hz
  refine sorted_strsTup hl rv.strs (by rw [← hlen0]; exact hz) fun out ys h1 h2 h3 => ?_
  obtain ⟨ep, he'⟩ := PyProof.Rows.sortedAll_at s.heap its out
  have hlen : (ys.map V.str).length ≤ sizeLine := by rw [List.length_map, h2.length_eq]; exact hz
  exact ⟨.ref _, upd H (s.heap.objs.size + 1) (.lst (ys.map V.str)), I.laid (t' := s.toks) (fun _ _ => PyProof.Rows.sortedAll_old) (Nat.le_succ _) ⟨hlen, out.toList, ep, vals_of_strs h1, he'⟩, rfl, q ys _ h2 h3 (I.hok.fresh (Nat.le_succ _))⟩
end PyI

set_option maxRecDepth 100000
/-! PyI5: built-in functions, isinstance. -/
namespace PyI
open PySem PySem.Spec PyProof.Rows L2

def rBlt (K : PySem.W.Frag) (fa : Nat → Addr) (ρ : List Addr) (M : Addr → Prop) (b : Blt) : List V → Hp → VK → Prop := fun vs H Q => ∃ xs v, (∀ b, M b → H b ≠ none) ∧ PRels K fa ρ (fz M H) xs vs ∧ bltop b xs = some v ∧ Gv K fa ρ M H v Q
theorem CallR.imp {X : Cx} {f : Value} {r r' : List V → Hp → VK → Prop} (h : CallR X f r) (i : ∀ vs H Q, r' vs H Q → r vs H Q) : CallR X f r' := fun pins s σ H vs us Q I rv q => h pins s σ H vs us Q I rv (i _ _ _ q)
section
variable {K : PySem.W.Frag} {fa : Nat → Addr} {ρ : List Addr} {M : Addr → Prop} {H : Hp} {Q : VK}
theorem PRels.one {x : PV} {vs : List V} (h : PRels K fa ρ H [x] vs) : ∃ v, vs = [v] ∧ PRel K fa ρ H x v := by
  cases h with
  | cons h r => cases r; exact ⟨_, rfl, h⟩
theorem PRels.two {x y : PV} {vs : List V} (h : PRels K fa ρ H [x, y] vs) : ∃ v u, vs = [v, u] ∧ PRel K fa ρ H x v ∧ PRel K fa ρ H y u := by
  cases h with
  | cons h r => cases r with
    | cons h2 r => cases r; exact ⟨_, _, rfl, h, h2⟩
theorem allB_bls : ∀ {x : List PV} {k : Bool} {vs : List V}, PRels K fa ρ H x vs → allB x = some k → ∃ bs : List Bool, vs = bs.map V.bl ∧ bs.all id = k
  | [], _, _, .nil, e => by cases e; exact ⟨[], rfl, rfl⟩
  | .bl b :: r, k, _, .cons h t, e => by
    cases h
    have e : (allB r).map (fun c => b && c) = some k := e
    cases e0 : allB r with
    | none => rw [e0] at e; cases e
    | some c =>
      rw [e0] at e
      obtain ⟨bs, h1, h2⟩ := allB_bls t e0
      cases e
      exact ⟨b :: bs, by rw [h1]; rfl, by rw [List.all_cons, h2]; rfl⟩
  | .non :: _, _, _, _, e => by cases e
  | .int _ :: _, _, _, _, e => by cases e
  | .str _ :: _, _, _, _, e => by cases e
  | .tup _ :: _, _, _, _, e => by cases e
  | .lst _ :: _, _, _, _, e => by cases e
  | .scr _ :: _, _, _, _, e => by cases e
  | .dct _ _ :: _, _, _, _, e => by cases e
  | .fn _ :: _, _, _, _, e => by cases e
  | .loc _ :: _, _, _, _, e => by cases e
theorem anyB_bls : ∀ {x : List PV} {k : Bool} {vs : List V}, PRels K fa ρ H x vs → anyB x = some k → ∃ bs : List Bool, vs = bs.map V.bl ∧ bs.any id = k
  | [], _, _, .nil, e => by cases e; exact ⟨[], rfl, rfl⟩
  | .bl b :: r, k, _, .cons h t, e => by
    cases h
    have e : (anyB r).map (fun c => b || c) = some k := e
    cases e0 : anyB r with
    | none => rw [e0] at e; cases e
    | some c =>
      rw [e0] at e
      obtain ⟨bs, h1, h2⟩ := anyB_bls t e0
      cases e
      exact ⟨b :: bs, by rw [h1]; rfl, by rw [List.any_cons, h2]; rfl⟩
  | .non :: _, _, _, _, e => by cases e
  | .int _ :: _, _, _, _, e => by cases e
  | .str _ :: _, _, _, _, e => by cases e
  | .tup _ :: _, _, _, _, e => by cases e
  | .lst _ :: _, _, _, _, e => by cases e
  | .scr _ :: _, _, _, _, e => by cases e
  | .dct _ _ :: _, _, _, _, e => by cases e
  | .fn _ :: _, _, _, _, e => by cases e
  | .loc _ :: _, _, _, _, e => by cases e
theorem intsOf_eq : ∀ {x : List PV} {l : List Int}, intsOf x = some l → x = l.map .int
  | [], _, e => by cases e; rfl
  | .int i :: r, l, e => by
    have e : (intsOf r).map (fun l => i :: l) = some l := e
    cases e0 : intsOf r with
    | none => rw [e0] at e; cases e
    | some c => rw [e0] at e; cases e; rw [intsOf_eq e0]; rfl
  | .non :: _, _, e => by cases e
  | .bl _ :: _, _, e => by cases e
  | .str _ :: _, _, e => by cases e
  | .tup _ :: _, _, e => by cases e
  | .lst _ :: _, _, e => by cases e
  | .scr _ :: _, _, e => by cases e
  | .dct _ _ :: _, _, e => by cases e
  | .fn _ :: _, _, e => by cases e
  | .loc _ :: _, _, e => by cases e
end
/-! ### sorting -/
theorem strsOf_eq : ∀ {x : List PV} {l : List (List Nat)}, strsOf x = some l → x = l.map .str
  | [], _, e => by cases e; rfl
  | .str i :: r, l, e => by
    have e : (strsOf r).map (fun l => i :: l) = some l := e
    cases e0 : strsOf r with
    | none => rw [e0] at e; cases e
    | some l0 =>
      rw [e0] at e
      cases e
      rw [strsOf_eq e0]
      rfl
  | .non :: _, _, e => by cases e
  | .bl _ :: _, _, e => by cases e
  | .int _ :: _, _, e => by cases e
  | .tup _ :: _, _, e => by cases e
  | .lst _ :: _, _, e => by cases e
  | .scr _ :: _, _, e => by cases e
  | .dct _ _ :: _, _, e => by cases e
  | .fn _ :: _, _, e => by cases e
  | .loc _ :: _, _, e => by cases e
theorem perm_one {α : Type} {le : α → α → Prop} (as : ∀ a b, le a b → le b a → a = b) : ∀ {x y : List α}, x.Perm y → x.Pairwise le → y.Pairwise le → x = y
  | [], y, h, _, _ => h.nil_eq
  | a :: x, [], h, _, _ => by simpa using h.length_eq
  | a :: x, b :: y, h, hx, hy => by
    obtain ⟨x1, x2⟩ := List.pairwise_cons.mp hx
    obtain ⟨y1, y2⟩ := List.pairwise_cons.mp hy
    have e : a = b := by
      rcases List.mem_cons.mp (h.mem_iff.mp List.mem_cons_self) with e | e
      · exact e
      · rcases List.mem_cons.mp (h.mem_iff.mpr List.mem_cons_self) with e2 | e2
        · exact e2.symm
        · exact as a b (x1 b e2) (y1 a e)
    subst e
    rw [perm_one as h.cons_inv x2 y2]
theorem insI_perm (x : Int) : ∀ l, (insI x l).Perm (x :: l)
  | [] => .refl _
  | y :: r => by
    unfold insI
    split
    · exact .refl _
    · exact ((insI_perm x r).cons y).trans (.swap x y r)
theorem sortI_perm : ∀ l, (sortI l).Perm l
  | [] => .refl _
  | x :: r => (insI_perm x (sortI r)).trans ((sortI_perm r).cons x)
theorem insI_le (x : Int) : ∀ {l : List Int}, l.Pairwise (· ≤ ·) → (insI x l).Pairwise (· ≤ ·)
  | [], _ => by simp [insI]
  | y :: r, h => by
    obtain ⟨h1, h2⟩ := List.pairwise_cons.mp h
    unfold insI
    split
    · rename_i hxy
      exact List.pairwise_cons.mpr ⟨fun z hz => by
        rcases List.mem_cons.mp hz with e | e
        · rw [e]; exact hxy
        · have := h1 z e; omega, h⟩
    · rename_i hxy
      refine List.pairwise_cons.mpr ⟨fun z hz => ?_, insI_le x h2⟩
      rcases List.mem_cons.mp ((insI_perm x r).mem_iff.mp hz) with e | e
      · rw [e]; omega
      · exact h1 z e
theorem sortI_le : ∀ l, (sortI l).Pairwise (· ≤ ·)
  | [] => .nil
  | x :: r => insI_le x (sortI_le r)
theorem strLt_ltCps : ∀ x y : List Nat, strLt x y = ltCps x y
  | [], [] => rfl
  | [], _ :: _ => rfl
  | _ :: _, [] => rfl
  | x :: xs, y :: ys => by
    show (if x < y then true else if y < x then false else strLt xs ys) = (decide (x < y) || (x == y && ltCps xs ys))
    rw [strLt_ltCps xs ys]
    by_cases h : x < y
    · simp [h]
    · by_cases h2 : y < x
      · have : x ≠ y := by omega
        simp [h, h2, this]
      · have : x = y := by omega
        simp [this]
/-- not after -/
def leS (x y : List Nat) : Prop := strLt y x = false
theorem leS_as (a b : List Nat) (h : leS a b) (h2 : leS b a) : a = b := by
  unfold leS at h h2
  rw [strLt_eq] at h h2
  have h := of_decide_eq_false h
  have h2 := of_decide_eq_false h2
  exact List.le_antisymm h h2
theorem leS_tr {a b c : List Nat} (h : leS a b) (h2 : leS b c) : leS a c := by
  unfold leS at h h2 ⊢
  rw [strLt_eq] at h h2 ⊢
  have h := of_decide_eq_false h
  have h2 := of_decide_eq_false h2
  exact decide_eq_false (List.not_lt.mpr (List.le_trans (List.not_lt.mp h) (List.not_lt.mp h2)))
theorem leS_of {a b : List Nat} (h : strLt a b = true) : leS a b := by
  unfold leS
  rw [strLt_eq] at h ⊢
  exact decide_eq_false (List.not_lt.mpr (List.le_of_lt (of_decide_eq_true h)))
theorem insS_perm (x : List Nat) : ∀ l, (insS x l).Perm (x :: l)
  | [] => .refl _
  | y :: r => by
    unfold insS
    split
    · exact ((insS_perm x r).cons y).trans (.swap x y r)
    · exact .refl _
theorem sortS_perm : ∀ l, (sortS l).Perm l
  | [] => .refl _
  | x :: r => (insS_perm x (sortS r)).trans ((sortS_perm r).cons x)
theorem insS_le (x : List Nat) : ∀ {l : List (List Nat)}, l.Pairwise leS → (insS x l).Pairwise leS
  | [], _ => by simp [insS]
  | y :: r, h => by
    obtain ⟨h1, h2⟩ := List.pairwise_cons.mp h
    unfold insS
    split
    · rename_i hxy
      refine List.pairwise_cons.mpr ⟨fun z hz => ?_, insS_le x h2⟩
      rcases List.mem_cons.mp ((insS_perm x r).mem_iff.mp hz) with e | e
      · rw [e]; exact leS_of hxy
      · exact h1 z e
    · rename_i hxy
      have hxy : leS x y := by
        unfold leS
        cases q : strLt y x
        · rfl
        · exact absurd q hxy
      exact List.pairwise_cons.mpr ⟨fun z hz => by
        rcases List.mem_cons.mp hz with e | e
        · rw [e]; exact hxy
        · exact leS_tr hxy (h1 z e), h⟩
theorem sortS_le : ∀ l, (sortS l).Pairwise leS
  | [] => .nil
  | x :: r => insS_le x (sortS_le r)
theorem rising_le : ∀ (l : List PySem.Str) (p : PySem.Str), PyProof.Rows.risingS p l = true → (p :: l).Pairwise fun a b => leS a.cps.toList b.cps.toList
  | [], p, _ => by simp
  | x :: r, p, h => by
    have h' : leS p.cps.toList x.cps.toList ∧ PyProof.Rows.risingS x r = true := by
      have h : (!ltCps x.cps.toList p.cps.toList && PyProof.Rows.risingS x r) = true := h
      rw [Bool.and_eq_true, Bool.not_eq_true'] at h
      exact ⟨by unfold leS; rw [strLt_ltCps]; exact h.1, h.2⟩
    have ih := rising_le r x h'.2
    refine List.pairwise_cons.mpr ⟨fun z hz => ?_, ih⟩
    rcases List.mem_cons.mp hz with e | e
    · rw [e]; exact h'.1
    · exact leS_tr h'.1 ((List.pairwise_cons.mp ih).1 z e)
theorem sortS_one {l : List (List Nat)} {ys : List PySem.Str} (hp : ys.Perm (l.map mkS)) (hs : PyProof.Rows.sortedS ys = true) : ys = (sortS l).map mkS := by
  have e : (ys.map fun y => y.cps.toList) = sortS l := by
    refine perm_one leS_as ?_ ?_ (sortS_le l)
    · have q := hp.map fun y : PySem.Str => y.cps.toList
      rw [List.map_map] at q
      have : ((fun y : PySem.Str => y.cps.toList) ∘ mkS) = id := by funext z; simp [mkS]
      rw [this, List.map_id] at q
      exact q.trans (sortS_perm l).symm
    · rw [List.pairwise_map]
      cases ys with
      | nil => exact .nil
      | cons y r => exact rising_le r y hs
  rw [← e, List.map_map]
  have : (mkS ∘ fun y : PySem.Str => y.cps.toList) = id := by
    funext z
    show (⟨z.cps.toList.toArray⟩ : PySem.Str) = z
    rw [Array.toArray_toList]
  rw [this, List.map_id]
theorem sumI_eq : ∀ l : List Int, sumI l = l.sum
  | [] => rfl
  | i :: r => by rw [List.sum_cons, ← sumI_eq r]; rfl
theorem minI_spec : ∀ (r : List Int) (i : Int), minI i r ∈ i :: r ∧ ∀ y ∈ i :: r, minI i r ≤ y
  | [], i => ⟨List.mem_cons_self, fun y h => by have : y = i := by simpa using h
                                                subst this; exact Int.le_refl _⟩
  | j :: r, i => by
    unfold minI
    obtain ⟨h1, h2⟩ := minI_spec r (if j < i then j else i)
    constructor
    · rcases List.mem_cons.mp h1 with h | h
      · rw [h]; split <;> simp
      · exact List.mem_cons_of_mem _ (List.mem_cons_of_mem _ h)
    · intro y hy
      have h3 := h2 _ List.mem_cons_self
      rcases List.mem_cons.mp hy with h | h
      · subst h; split at h3 <;> split <;> omega
      · rcases List.mem_cons.mp h with h | h
        · subst h; split at h3 <;> split <;> omega
        · exact h2 y (List.mem_cons_of_mem _ h)
theorem maxI_spec : ∀ (r : List Int) (i : Int), maxI i r ∈ i :: r ∧ ∀ y ∈ i :: r, y ≤ maxI i r
  | [], i => ⟨List.mem_cons_self, fun y h => by have : y = i := by simpa using h
                                                subst this; exact Int.le_refl _⟩
  | j :: r, i => by
    unfold maxI
    obtain ⟨h1, h2⟩ := maxI_spec r (if j > i then j else i)
    constructor
    · rcases List.mem_cons.mp h1 with h | h
      · rw [h]; split <;> simp
      · exact List.mem_cons_of_mem _ (List.mem_cons_of_mem _ h)
    · intro y hy
      have h3 := h2 _ List.mem_cons_self
      rcases List.mem_cons.mp hy with h | h
      · subst h; split at h3 <;> split <;> omega
      · rcases List.mem_cons.mp h with h | h
        · subst h; split at h3 <;> split <;> omega
        · exact h2 y (List.mem_cons_of_mem _ h)
theorem log2_small {i : Int} (h : -(2 ^ 64) < i ∧ i < 2 ^ 64) : i.natAbs.log2 < 1920 := by
  by_cases h0 : i.natAbs = 0
  · rw [h0]; decide
  · have : i.natAbs.log2 < 64 := (Nat.log2_lt h0).mpr (by omega)
    omega
theorem CallR.none {X : Cx} {f : Value} : CallR X f fun _ _ _ => False := fun _ _ _ _ _ _ _ _ _ h => h.elim
/-- the value of a built-in's name -/
abbrev bltV : Blt → Value
  | .len => .builtin "len" | .abs => .builtin "abs" | .int => .type "int" | .list => .type "list" | .tuple => .type "tuple" | .sum => .builtin "sum" | .min1 => .builtin "min" | .max1 => .builtin "max"
  | .min2 => .builtin "min" | .max2 => .builtin "max" | .sorted => .builtin "sorted" | .all => .builtin "all" | .any => .builtin "any" | .str => .type "str"
theorem strOf_eq (i : Int) : (Str.ofString (toString i)) = ⟨(decS i).toArray⟩ := rfl
section
variable {X : Cx} {fa : Nat → Addr} {ρ : List Addr} {M : Addr → Prop}
theorem oks_of {K : PySem.W.Frag} {fa : Nat → Addr} {ρ : List Addr} {H : Hp} : ∀ {l : List (List Nat)} {vs : List V}, PRels K fa ρ H (l.map .str) vs → ∀ x ∈ l, okS x = true := by
  intro l
  induction l with
  | nil => intro vs _ x hx; simp at hx
  | cons y l ih =>
    intro vs r x hx
    cases r with
    | cons h1 r =>
      rcases List.mem_cons.mp hx with e | e
      · subst e
        cases h1 with
        | str _ h => exact h
      · exact ih r x e
theorem blt_ok1 (hc : X.calm = true) (hu : X.A.units + 65 < cLine) : ∀ b : Blt, CallR X (bltV b) (fun vs H Q => ∃ x v y, vs = [y] ∧ (∀ b, M b → H b ≠ Option.none) ∧ PRel X.K fa ρ (fz M H) x y ∧ blt1 b x = some v ∧ Gv X.K fa ρ M H v Q)
  | .len => CallR.imp call_len (by
      rintro vs H Q ⟨x, v, y, rfl, hM, r, e, g⟩
      cases r with
      | str s hs =>
        have e : (if s.length ≤ SZ then some (PV.int s.length) else none) = some v := e
        split at e
        · rename_i hz
          cases e
          refine ⟨_, s.length, rfl, ⟨?_, ?_⟩, g.int⟩
          · show s.toArray.size ≤ _
            rw [List.size_toArray, sz_eq]; exact hz
          · show _ = s.toArray.size
            rw [List.size_toArray]
        · cases e
      | lst h r =>
        cases e
        exact ⟨_, _, rfl, .inl ⟨_, SqL.of (fz_same _ _ h), r.length⟩, g.int⟩
      | tup h r =>
        cases e
        exact ⟨_, _, rfl, .inr ⟨_, Same.sqT fz_same h, r.length⟩, g.int⟩
      | scr h r =>
        cases e
        exact ⟨_, _, rfl, .inl ⟨_, (Same.scL fz_same h).sqL, r.length⟩, g.int⟩
      | _ => cases e)
  | .abs => CallR.imp call_abs (by
      rintro vs H Q ⟨x, v, y, rfl, hM, r, e, g⟩
      cases r with
      | int i => cases e; exact ⟨i, rfl, g.int⟩
      | _ => cases e)
  | .int => CallR.imp call_int1 (by
      rintro vs H Q ⟨x, v, y, rfl, hM, r, e, g⟩
      cases r with
      | int i => cases e; exact .inl ⟨i, rfl, g.int⟩
      | _ => cases e)
  | .list => CallR.imp (call_list_of.or (call_list_txt hc)) (by
      rintro vs H Q ⟨x, v, y, rfl, hM, r, e, g⟩
      cases r with
      | lst h r => cases e; exact .inl ⟨_, _, rfl, .inl (SqL.of (fz_same _ _ h)), g.lst hM r⟩
      | tup h r => cases e; exact .inl ⟨_, _, rfl, .inr (Same.sqT fz_same h), g.lst hM r⟩
      | scr h r => cases e; exact .inl ⟨_, _, rfl, .inl (Same.scL fz_same h).sqL, g.lst hM r⟩
      | str x hx =>
        have e : (if x.length ≤ SZ then some (PV.lst (x.map fun c => .str [c])) else none) = some v := e
        split at e
        · rename_i hz
          cases e
          refine .inr ⟨_, rfl, ?_, ?_⟩
          · rw [sz_eq]
            show (List.toArray _).size ≤ SZ
            rw [List.size_toArray]
            exact hz
          · have rr := PRels.of_strs (K := X.K) (fa := fa) (ρ := ρ) (H := fz M H) (x.map fun c => [c]) fun y hy => by
              obtain ⟨c, hc', rfl⟩ := List.mem_map.mp hy
              exact List.all_eq_true.mpr fun d hd => by rw [List.mem_singleton.mp hd]; exact List.all_eq_true.mp hx c hc'
            rw [List.map_map, List.map_map] at rr
            exact g.lst hM rr
        · cases e
      | _ => cases e)
  | .tuple => CallR.imp (call_tuple_of.or (call_tuple_txt hc)) (by
      rintro vs H Q ⟨x, v, y, rfl, hM, r, e, g⟩
      cases r with
      | lst h r => cases e; exact .inl ⟨_, _, rfl, .inl ⟨SqL.of (fz_same _ _ h), g.tup hM r⟩⟩
      | tup h r => cases e; exact .inl ⟨_, _, rfl, .inr ⟨Same.sqT fz_same h, g.tupAt h r⟩⟩
      | str x hx =>
        have e : (if x.length ≤ SZ then some (PV.tup (x.map fun c => .str [c])) else none) = some v := e
        split at e
        · rename_i hz
          cases e
          refine .inr ⟨_, rfl, ?_, ?_⟩
          · rw [sz_eq]
            show (List.toArray _).size ≤ SZ
            rw [List.size_toArray]
            exact hz
          · have rr := PRels.of_strs (K := X.K) (fa := fa) (ρ := ρ) (H := fz M H) (x.map fun c => [c]) fun y hy => by
              obtain ⟨c, hc', rfl⟩ := List.mem_map.mp hy
              exact List.all_eq_true.mpr fun d hd => by rw [List.mem_singleton.mp hd]; exact List.all_eq_true.mp hx c hc'
            rw [List.map_map, List.map_map] at rr
            exact g.tup hM rr
        · cases e
      | _ => cases e)
  | .all => CallR.imp (cr_all hc) (by
      rintro vs H Q ⟨x, v, y, rfl, hM, r, e, g⟩
      cases r with
      | lst h r =>
        rename_i _ xs _
        have e : (allB xs).map PV.bl = some v := e
        cases e0 : allB xs with
        | none => rw [e0] at e; cases e
        | some k =>
          rw [e0] at e
          cases e
          obtain ⟨bs, rfl, h2⟩ := allB_bls r e0
          exact ⟨_, bs, rfl, SqL.of (fz_same _ _ h), by rw [h2]; exact g.bl⟩
      | _ => cases e)
  | .any => CallR.imp (cr_any hc) (by
      rintro vs H Q ⟨x, v, y, rfl, hM, r, e, g⟩
      cases r with
      | lst h r =>
        rename_i _ xs _
        have e : (anyB xs).map PV.bl = some v := e
        cases e0 : anyB xs with
        | none => rw [e0] at e; cases e
        | some k =>
          rw [e0] at e
          cases e
          obtain ⟨bs, rfl, h2⟩ := anyB_bls r e0
          exact ⟨_, bs, rfl, SqL.of (fz_same _ _ h), by rw [h2]; exact g.bl⟩
      | _ => cases e)
  | .sum => CallR.imp (cr_sum hc) (by
      rintro vs H Q ⟨x, v, y, rfl, hM, r, e, g⟩
      cases r with
      | lst h r =>
        rename_i _ xs _
        have e : (intsOf xs).map (fun l => PV.int (sumI l)) = some v := e
        cases e0 : intsOf xs with
        | none => rw [e0] at e; cases e
        | some l =>
          rw [e0] at e
          cases e
          have := intsOf_eq e0
          subst this
          have := r.ints
          subst this
          exact ⟨_, l, rfl, SqL.of (fz_same _ _ h), by rw [← sumI_eq]; exact g.int⟩
      | _ => cases e)
  | .min1 => CallR.imp ((cr_min hc).or (cr_minS hc hu)) (by
      rintro vs H Q ⟨x, v, y, rfl, hM, r, e, g⟩
      cases r with
      | lst h r =>
        rename_i _ xs _
        have e : (match intsOf xs with
          | some (i :: r) => some (PV.int (minI i r))
          | some [] => none
          | none => (match strsOf xs with
            | some (i :: r) => some (.str (minS i r))
            | _ => none)) = some v := e
        cases e0 : intsOf xs with
        | none =>
          rw [e0] at e
          cases e1 : strsOf xs with
          | none => rw [e1] at e; cases e
          | some l =>
            rw [e1] at e
            cases l with
            | nil => cases e
            | cons i l =>
              cases e
              have := strsOf_eq e1
              subst this
              have ok := oks_of r
              have ev := r.strs
              subst ev
              have zz : (List.map (fun x => V.str ⟨x.toArray⟩) (i :: l)) = ((⟨i.toArray⟩ : Str) :: l.map fun y => (⟨y.toArray⟩ : Str)).map V.str := by
                rw [List.map_cons, List.map_cons, List.map_map]
                rfl
              rw [zz] at h
              refine .inr ⟨_, _, _, rfl, SqL.of (fz_same _ _ h), ?_⟩
              rw [minZ_eq]
              refine g.str ?_
              rcases minS_mem (x := i) (xs := l) with q | q
              · rw [q]; exact ok i List.mem_cons_self
              · exact ok _ (List.mem_cons_of_mem _ q)
        | some l =>
          rw [e0] at e
          cases l with
          | nil => cases e
          | cons i l =>
            cases e
            have := intsOf_eq e0
            subst this
            have := r.ints
            subst this
            refine .inl ⟨_, i :: l, rfl, SqL.of (fz_same _ _ h), by simp, fun m h1 h2 => ?_⟩
            obtain ⟨h3, h4⟩ := minI_spec l i
            have e2 : m = minI i l := Int.le_antisymm (h2 _ h3) (h4 _ h1)
            rw [e2]; exact g.int
      | _ => cases e)
  | .max1 => CallR.imp ((cr_max hc).or (cr_maxS hc hu)) (by
      rintro vs H Q ⟨x, v, y, rfl, hM, r, e, g⟩
      cases r with
      | lst h r =>
        rename_i _ xs _
        have e : (match intsOf xs with
          | some (i :: r) => some (PV.int (maxI i r))
          | some [] => none
          | none => (match strsOf xs with
            | some (i :: r) => some (.str (maxS i r))
            | _ => none)) = some v := e
        cases e0 : intsOf xs with
        | none =>
          rw [e0] at e
          cases e1 : strsOf xs with
          | none => rw [e1] at e; cases e
          | some l =>
            rw [e1] at e
            cases l with
            | nil => cases e
            | cons i l =>
              cases e
              have := strsOf_eq e1
              subst this
              have ok := oks_of r
              have ev := r.strs
              subst ev
              have zz : (List.map (fun x => V.str ⟨x.toArray⟩) (i :: l)) = ((⟨i.toArray⟩ : Str) :: l.map fun y => (⟨y.toArray⟩ : Str)).map V.str := by
                rw [List.map_cons, List.map_cons, List.map_map]
                rfl
              rw [zz] at h
              refine .inr ⟨_, _, _, rfl, SqL.of (fz_same _ _ h), ?_⟩
              rw [maxZ_eq]
              refine g.str ?_
              rcases maxS_mem (x := i) (xs := l) with q | q
              · rw [q]; exact ok i List.mem_cons_self
              · exact ok _ (List.mem_cons_of_mem _ q)
        | some l =>
          rw [e0] at e
          cases l with
          | nil => cases e
          | cons i l =>
            cases e
            have := intsOf_eq e0
            subst this
            have := r.ints
            subst this
            refine .inl ⟨_, i :: l, rfl, SqL.of (fz_same _ _ h), by simp, fun m h1 h2 => ?_⟩
            obtain ⟨h3, h4⟩ := maxI_spec l i
            have e2 : m = maxI i l := Int.le_antisymm (h4 _ h1) (h2 _ h3)
            rw [e2]; exact g.int
      | _ => cases e)
  | .str => CallR.imp call_str_int (by
      rintro vs H Q ⟨x, v, y, rfl, hM, r, e, g⟩
      cases r with
      | int i =>
        have e : (if (lim64 i && okS (decS i)) = true then some (PV.str (decS i)) else none) = some v := e
        split at e
        · rename_i hz
          cases e
          have hz' : (-(2 ^ 64) < i ∧ i < 2 ^ 64) ∧ okS (decS i) = true := by simpa [lim64] using hz
          refine ⟨i, rfl, log2_small hz'.1, ?_⟩
          exact g.str hz'.2
        · cases e
      | _ => cases e)
  | .min2 => CallR.imp CallR.none (by rintro vs H Q ⟨x, v, y, rfl, hM, r, e, g⟩; cases r <;> cases e)
  | .max2 => CallR.imp CallR.none (by rintro vs H Q ⟨x, v, y, rfl, hM, r, e, g⟩; cases r <;> cases e)
  | .sorted => CallR.imp ((cr_sortedI.or cr_sortedS).or cr_sortedTS) (by
      rintro vs H Q ⟨x, v, y, rfl, hM, r, e, g⟩
      cases r with
      | lst h r =>
        rename_i _ xs vs
        have e : (match intsOf xs with
          | some l => some (.lst ((sortI l).map .int))
          | none => (match strsOf xs with
            | some l => if l.length < 64 then some (.lst ((sortS l).map .str)) else none
            | none => none)) = some v := e
        cases e0 : intsOf xs with
        | some l =>
          rw [e0] at e
          cases e
          have := intsOf_eq e0
          subst this
          have := r.ints
          subst this
          refine .inl (.inl ⟨_, l, rfl, SqL.of (fz_same _ _ h), fun ns' p hp hle hn => ?_⟩)
          have e1 : ns' = sortI l := perm_one (fun a b h1 h2 => Int.le_antisymm h1 h2) (hp.trans (sortI_perm l).symm) hle (sortI_le l)
          rw [e1]
          exact g.lst hM (PRels.of_ints _) p hn
        | none =>
          rw [e0] at e
          cases e1 : strsOf xs with
          | none => rw [e1] at e; cases e
          | some l =>
            rw [e1] at e
            have e : (if l.length < 64 then some (PV.lst ((sortS l).map .str)) else none) = some v := e
            split at e
            · rename_i h64
              cases e
              have := strsOf_eq e1
              subst this
              have ev := r.strs
              have ev' : vs = (l.map mkS).map V.str := by rw [ev, List.map_map]; rfl
              refine .inl (.inr ⟨_, l.map mkS, rfl, by rw [← ev']; exact SqL.of (fz_same _ _ h), by rw [List.length_map]; exact h64, fun ys p hp hs hn => ?_⟩)
              rw [sortS_one hp hs]
              refine g.lst hM ?_ p hn
              have ok : ∀ x ∈ l, okS x = true := by
                have : ∀ {l : List (List Nat)} {vs : List V}, PRels X.K fa ρ (fz M H) (l.map .str) vs → ∀ x ∈ l, okS x = true := by
                  intro l
                  induction l with
                  | nil => intro vs _ x hx; simp at hx
                  | cons y l ih =>
                    intro vs r x hx
                    cases r with
                    | cons h1 r =>
                      rcases List.mem_cons.mp hx with e | e
                      · subst e
                        cases h1 with
                        | str _ h => exact h
                      · exact ih r x e
                exact this r
              have q := PRels.of_strs (K := X.K) (fa := fa) (ρ := ρ) (H := fz M H) (sortS l) fun x hx => ok x ((sortS_perm l).mem_iff.mp hx)
              rw [List.map_map]
              exact q
            · cases e
      | tup h r =>
        rename_i _ xs vs
        have e : (strsOf xs).map (fun l => PV.lst ((sortS l).map .str)) = some v := e
        cases e1 : strsOf xs with
        | none => rw [e1] at e; cases e
        | some l =>
          rw [e1] at e
          cases e
          have := strsOf_eq e1
          subst this
          have ev := r.strs
          have ev' : vs = (l.map mkS).map V.str := by rw [ev, List.map_map]; rfl
          refine .inr ⟨_, l.map mkS, rfl, by rw [← ev']; exact Same.sqT fz_same h, fun ys p hp hs hn => ?_⟩
          rw [sortS_one hp hs]
          refine g.lst hM ?_ p hn
          have ok : ∀ x ∈ l, okS x = true := by
            have : ∀ {l : List (List Nat)} {vs : List V}, PRels X.K fa ρ (fz M H) (l.map .str) vs → ∀ x ∈ l, okS x = true := by
              intro l
              induction l with
              | nil => intro vs _ x hx; simp at hx
              | cons y l ih =>
                intro vs r x hx
                cases r with
                | cons h1 r =>
                  rcases List.mem_cons.mp hx with e | e
                  · subst e
                    cases h1 with
                    | str _ h => exact h
                  · exact ih r x e
            exact this r
          have q := PRels.of_strs (K := X.K) (fa := fa) (ρ := ρ) (H := fz M H) (sortS l) fun x hx => ok x ((sortS_perm l).mem_iff.mp hx)
          rw [List.map_map]
          exact q
      | _ => cases e)
theorem blt_ok2 (hc : X.calm = true) : ∀ b : Blt, CallR X (bltV b) (fun vs H Q => ∃ x x2 v y y2, vs = [y, y2] ∧ PRel X.K fa ρ (fz M H) x y ∧ PRel X.K fa ρ (fz M H) x2 y2 ∧ blt2 b x x2 = some v ∧ Gv X.K fa ρ M H v Q)
  | .max2 => CallR.imp (call_max2 hc) (by
      rintro vs H Q ⟨x, x2, v, y, y2, rfl, r, r2, e, g⟩
      cases r with
      | int i => cases r2 with
        | int j => cases e; exact ⟨i, j, rfl, g.int⟩
        | _ => cases e
      | _ => cases e)
  | .min2 => CallR.imp (call_min2 hc) (by
      rintro vs H Q ⟨x, x2, v, y, y2, rfl, r, r2, e, g⟩
      cases r with
      | int i => cases r2 with
        | int j => cases e; exact ⟨i, j, rfl, g.int⟩
        | _ => cases e
      | _ => cases e)
  | .len | .abs | .int | .list | .tuple | .sum | .min1 | .max1 | .sorted | .all | .any | .str => CallR.imp CallR.none (by rintro vs H Q ⟨x, x2, v, y, y2, rfl, r, r2, e, g⟩; cases r <;> cases e)
theorem blt_ok (hc : X.calm = true) (hu : X.A.units + 65 < cLine) (b : Blt) : CallR X (bltV b) (rBlt X.K fa ρ M b) := CallR.imp ((blt_ok1 (fa := fa) (ρ := ρ) (M := M) hc hu b).or (blt_ok2 (fa := fa) (ρ := ρ) (M := M) hc b)) (by
  rintro vs H Q ⟨xs, v, hM, r, e, g⟩
  match xs, r, e with
  | [x], r, e =>
    obtain ⟨y, rfl, r1⟩ := r.one
    exact .inl ⟨x, v, y, rfl, hM, r1, e, g⟩
  | [x, x2], r, e =>
    obtain ⟨y, y2, rfl, r1, r2⟩ := r.two
    exact .inr ⟨x, x2, v, y, y2, rfl, r1, r2, e, g⟩)

/-! ### isinstance -/
abbrev tyN : Ty → String
  | .int => "int" | .bool => "bool" | .str => "str" | .tuple => "tuple" | .list => "list"
def rIsin (K : PySem.W.Frag) (fa : Nat → Addr) (ρ : List Addr) (M : Addr → Prop) (t : Ty) : List V → Hp → VK → Prop := fun vs H Q => ∃ x y k, vs = [y, .ty (tyN t)] ∧ PRel K fa ρ (fz M H) x y ∧ isTy t x = some k ∧ Q (.bl k) H
theorem tyx_tup {K : PySem.W.Frag} {H : Hp} {a : Addr} {vs : List V} (h : SqT K H a vs) : TyX K H (.ref a) (.type "tuple") := by
  rcases h with (h | ⟨o, h⟩) | ⟨o, its, n, h1, h2, _⟩
  · exact .base (.tup h)
  · exact .fTuple h
  · exact .kTuple h1 h2
theorem isin_ok (t : Ty) : CallR X (.builtin "isinstance") (rIsin X.K fa ρ M t) := CallR.imp call_isi (by
  rintro vs H Q ⟨x, y, k, rfl, r, e, q⟩
  have c : ClsV (.ty (tyN t)) (.type (tyN t)) := .ty _
  cases r with
  | non => exact ⟨_, _, _, _, k, rfl, c, .base .non, by cases t <;> (cases e; exact kit_ty (by decide +kernel)), q⟩
  | bl b => exact ⟨_, _, _, _, k, rfl, c, .base (.bl b), by cases t <;> (cases e; exact kit_ty (by decide +kernel)), q⟩
  | int b => exact ⟨_, _, _, _, k, rfl, c, .base (.int b), by cases t <;> (cases e; exact kit_ty (by decide +kernel)), q⟩
  | str b hb => exact ⟨_, _, _, _, k, rfl, c, .base (.str _), by cases t <;> (cases e; exact kit_ty (by decide +kernel)), q⟩
  | tup h r => exact ⟨_, _, _, _, k, rfl, c, tyx_tup (Same.sqT fz_same h), by cases t <;> (cases e; exact kit_ty (by decide +kernel)), q⟩
  | lst h r => exact ⟨_, _, _, _, k, rfl, c, .base (.lst (fz_same _ _ h)), by cases t <;> (cases e; exact kit_ty (by decide +kernel)), q⟩
  | scr h r => cases t <;> cases e
  | dct _ _ _ _ => cases t <;> cases e
  | fn i => cases t <;> cases e
  | loc h => cases t <;> cases e)
end
end PyI

set_option maxRecDepth 100000
/-! PyI6: expressions: what a tree of the language gives is what the program's expression gives. -/
namespace PyI
open PySem PySem.Spec PyProof.Rows L2

structure Ctx where
  N : List Str
  sc : Scope
  fns : List (Str × Nat)
  cons : List (Str × PV)
  free : List Str
  /-- cells of the block's own -/
  fnF : Str → Bool

structure GoodX (c : Ctx) (p : Par) (k : Nat) (cf : CF) (X : Cx) : Prop where
  N : X.N = c.N
  nd : c.N.Nodup
  sc : X.env.scope = c.sc
  K : X.K = p.K
  calm : X.calm = true
  room : Room k X.A
  xe : X.xe = fun _ _ => False
  st : ∀ x, c.fnF x = true → X.fn x = true
  kind : c.sc.kind = .function
  fns : ∀ x i, c.fns.lookup x = some i → X.mg x = some (.ref (p.fa i)) ∧ PySem.W.keepIn X.K (.ref (p.fa i)) = true ∧ ∃ fd ps, FnOk X.prog X.w X.K X.mg X.base CX0 k (p.fa i) fd ps (simSp p.K p.fa cf ps.length i) ∧ Binds X.K fd ps [] ∧ ∀ xs s v s', cf i xs s = .ok v s' → xs.length = ps.length
  cons : ∀ x v, c.cons.lookup x = some v → ∃ w u, X.mg x = some w ∧ L2.RelV u w ∧ PRel p.K p.fa [] (fun _ => none) v u
  free : ∀ x, x ∈ c.free → X.mg x = none

/-- a name of the def -/
def visC (sc : Scope) (x : Str) : Bool := match sc.names.lookup x with
  | some .local | some .cell | some .free => true
  | _ => false
def locC (sc : Scope) (x : Str) : Bool := match sc.names.lookup x with
  | some .local | some .cell => true
  | _ => false
def isLc (sc : Scope) (x : Str) : Bool := match sc.names.lookup x with
  | some .local => true
  | _ => false
def stoC (c : Ctx) (x : Str) : Bool := isLc c.sc x || (locC c.sc x && c.fnF x)
def glC (sc : Scope) (x : Str) : Bool := match sc.names.lookup x with
  | some .globalImplicit => true
  | _ => false
def plainN (x : Str) : Bool := !(x == ("__debug__" : Str)) && !(x == ("__classdict__" : Str)) && !(x == ("__name__" : Str))
theorem visC_ok {sc : Scope} {x : Str} (h : visC sc x = true) : Vis sc x := by
  unfold visC at h
  split at h
  · exact .inl (by assumption)
  · exact .inr (.inl (by assumption))
  · exact .inr (.inr (by assumption))
  · cases h
theorem locC_ok {sc : Scope} {x : Str} (h : locC sc x = true) : Loc sc x := by
  unfold locC at h
  split at h
  · exact .inl (by assumption)
  · exact .inr (by assumption)
  · cases h
theorem isLc_ok {sc : Scope} {x : Str} (h : isLc sc x = true) : sc.names.lookup x = some .local := by
  unfold isLc at h
  split at h
  · assumption
  · cases h
theorem stoC_ok {c : Ctx} {p : Par} {k : Nat} {cf : CF} {X : Cx} (g : GoodX c p k cf X) {x : Str} (h : stoC c x = true) : Loc X.env.scope x ∧ (X.fn x = true ∨ X.env.scope.names.lookup x = some .local) := by
  unfold stoC at h
  rw [g.sc]
  rw [Bool.or_eq_true, Bool.and_eq_true] at h
  rcases h with h | h
  · exact ⟨.inl (isLc_ok h), .inr (isLc_ok h)⟩
  · exact ⟨locC_ok h.1, .inl (g.st x h.2)⟩
theorem glC_ok {c : Ctx} {p : Par} {k : Nat} {cf : CF} {X : Cx} (g : GoodX c p k cf X) {x : Str} (h : glC c.sc x = true) : Gl X x := by
  unfold glC at h
  rw [← g.sc] at h
  split at h
  · assumption
  · cases h
theorem plainN_ok {x : Str} (h : plainN x = true) : (x == ("__debug__" : Str)) = false ∧ (x == ("__classdict__" : Str)) = false ∧ x ≠ "__name__" := by
  unfold plainN at h
  simp only [Bool.and_eq_true, Bool.not_eq_true'] at h
  exact ⟨h.1.1, h.1.2, fun e => by have := h.2; rw [e] at this; simp at this⟩

section
variable {c : Ctx} {p : Par} {k : Nat} {cf : CF} {X : Cx} {B : List Nat}

/-- the simple end: nothing but new objects -/
theorem Post.use {ρ : List Addr} {Y : Addr → Prop} {H H' : Hp} {v : PV} {s : Store} {Q : VK} {u : V} (q : Post p ρ Y H false v s Q) (st : StR ρ H s) (sm : Same H H') (r : Rl p ρ Y H' v u) : Q u H' :=
  q u H' ρ (Step.same sm) (st.same sm) r fun h => absurd h Bool.false_ne_true
/-- an operator's end -/
theorem Post.gv {ρ ρ2 : List Addr} {Y : Addr → Prop} {H H2 : Hp} {v : PV} {s2 : Store} {Q : VK} {fr : Bool} (q : Post p ρ Y H fr v s2 Q) (t : Step ρ H ρ2 H2) (st : StR ρ2 H2 s2) : Gv p.K p.fa ρ2 (Mt Y ρ2) H2 v Q := fun u H3 sm r f =>
  q u H3 ρ2 (t.trans (Step.same sm)) (st.same sm) r fun _ xs e => by
    obtain ⟨a, vs, h1, h2, h3, h4⟩ := f xs e
    refine ⟨a, vs, h1, ?_, h3, h4⟩
    cases z : H a with
    | none => rfl
    | some o =>
      by_cases hr : a ∈ ρ
      · obtain ⟨vs, hv⟩ := st.some (t.mem hr)
        rw [hv] at h2
        cases h2
      · rw [t.keep a o z hr] at h2
        cases h2

theorem e_con {x : Expr} {v : PV} {u : V} (h : PE X x (tC u)) (r : PRel p.K p.fa [] (fun _ => none) v u) : PE X x (simE p cf B (.con v)) := PE.imp h (by
  rintro σ H Q ⟨ρ, Y, ow, r, s, I, v', s', e, q⟩
  cases e
  exact q.use I.st (Same.refl H) ((by assumption : PRel p.K p.fa [] (fun _ => none) v u).mono (List.nil_prefix) fun _ _ z => by cases z))
theorem e_var (g : GoodX c p k cf X) {x : Str} {pos : Pos} {i : Nat} (hN : c.N[i]? = some x) (hv : visC c.sc x = true) (hp : plainN x = true) (hB : i ∉ B) : PE X (.Name x pos) (simE p cf B (.var i)) := by
  obtain ⟨h1, h2, _⟩ := plainN_ok hp
  refine PE.imp (pe_var (i := i) (by rw [g.N]; exact hN) (by rw [g.sc]; exact visC_ok hv) h1 h2) ?_
  rintro σ H Q ⟨ρ, Y, ow, r, s, I, v, s', e, q⟩
  have e : (match r[i]? with | some (some v) => Res.ok v s | _ => Res.bad) = Res.ok v s' := e
  split at e
  · rename_i w hw
    cases e
    obtain ⟨u, h1, h2⟩ := I.vars i _ hB hw
    exact ⟨u, h1, q.use I.st (Same.refl H) h2⟩
  · cases e
theorem e_bin (g : GoodX c p k cf X) {o : BinO} {a b : E} {x y : Expr} {pos : Pos} (ha : PE X x (simE p cf B a)) (hb : PE X y (simE p cf B b)) : PE X (.BinOp x (binOp o) y pos) (simE p cf B (.bin o a b)) := by
  have key : ∀ (ρ : List Addr) (M : Addr → Prop), True := fun _ _ => trivial
  refine ⟨fun pins s0 σ H Q I0 h => ?_⟩
  obtain ⟨ρ, Y, ow, r, s, I, v, s', e, q⟩ := h
  obtain ⟨va, s1, e1, e⟩ := Res.bind_eq_ok (show (ev cf a r s).bind _ = _ from e)
  obtain ⟨vb, s2, e2, e⟩ := Res.bind_eq_ok e
  obtain ⟨e3, rfl⟩ := Res.ofO_eq_ok e
  refine wpAny_BinOp (bin ha hb (R := fun x y H2 => ∃ ρ2, (rBin X.K p.fa ρ2 (Mt Y ρ2) o) x y H2 Q) I0 ?_ fun v u s2 x y H2 I2 rx ry ⟨ρ2, q⟩ => bin_ok o pins s2 σ H2 x y v u Q I2 rx ry q)
  refine ⟨ρ, Y, ow, r, s, I, va, s1, e1, fun x H1 ρ1 t1 st1 r1 _ => ?_⟩
  have I1 := I.step t1 st1
  refine ⟨ρ1, Y, ow, r, s1, I1, vb, s', e2, fun y H2 ρ2 t2 st2 r2 _ => ?_⟩
  have I2 := I1.step t2 st2
  refine ⟨ρ2, va, vb, v, fun b h => I2.there h, ?_, ?_, e3, ?_⟩
  · rw [g.K]; exact r1.mono t2.pre (I1.same t2)
  · rw [g.K]; exact r2
  · rw [g.K]; exact q.gv (t1.trans t2) st2
theorem e_un (g : GoodX c p k cf X) {o : UnO} {a : E} {x : Expr} {pos : Pos} (ha : PE X x (simE p cf B a)) : PE X (.UnaryOp (unOp o) x pos) (simE p cf B (.un o a)) := by
  refine ⟨fun pins s0 σ H Q I0 h => ?_⟩
  obtain ⟨ρ, Y, ow, r, s, I, v, s', e, q⟩ := h
  obtain ⟨va, s1, e1, e⟩ := Res.bind_eq_ok (show (ev cf a r s).bind _ = _ from e)
  obtain ⟨e3, rfl⟩ := Res.ofO_eq_ok e
  refine (pe_un (r := fun x H1 Q => ∃ ρ1, rUn X.K p.fa ρ1 (Mt Y ρ1) o x H1 Q) ?_ ha).run pins s0 σ H Q I0 ⟨ρ, Y, ow, r, s, I, va, s', e1, fun x H1 ρ1 t1 st1 r1 _ => ⟨ρ1, va, v, ?_, e3, ?_⟩⟩
  · exact fun pins s σ H x v Q I rx ⟨ρ1, q⟩ => un_ok o pins s σ H x v Q I rx q
  · rw [g.K]; exact r1
  · rw [g.K]; exact q.gv t1 st1
theorem nomk {c : CmpO} {y : Expr} (h : c ≠ .in_ ∧ c ≠ .notIn ∨ ∀ es k ps, y ≠ .Set es k ps) : behindInMarks (cmpOp c) y = false := by
  rcases h with ⟨h1, h2⟩ | h
  · exact nobehind y (by cases c <;> first | decide | exact absurd rfl h1) (by cases c <;> first | decide | exact absurd rfl h2)
  · cases y <;> first | rfl | exact absurd rfl (h _ _ _)
/-- a comparison by values, through the parts -/
theorem cmp_rd (g : GoodX c p k cf X) {o : CmpO} {a b : E} {σ : L2.St} {H : Hp} {ρ : List Addr} {Y : Addr → Prop} {ow : Own} {r : Env} {s s' : Store} {kk : Bool} {R : Bool → Hp → Prop}
    (I : SI p B ρ Y ow σ H r s) (hb : (o = .isN ∨ o = .isNotN) → b = .con .non) (e : ((ev cf a r s).bind fun x s => (ev cf b r s).bind fun y s => Res.ofO (cmpop o x y) s) = .ok kk s')
    (q : ∀ H' ρ', Step ρ H ρ' H' → StR ρ' H' s' → R kk H') :
    simE p cf B a σ H fun x H1 => simE p cf B b σ H1 fun y H2 => ∃ ρ2, rCmp X.K p.fa ρ2 (Mt Y ρ2) o x y H2 fun v H3 => ∃ j, v = .bl j ∧ R j H3 := by
  obtain ⟨va, s1, e1, e⟩ := Res.bind_eq_ok e
  obtain ⟨vb, s2, e2, e⟩ := Res.bind_eq_ok e
  obtain ⟨e3, rfl⟩ := Res.ofO_eq_ok e
  refine ⟨ρ, Y, ow, r, s, I, va, s1, e1, fun x H1 ρ1 t1 st1 r1 _ => ?_⟩
  have I1 := I.step t1 st1
  refine ⟨ρ1, Y, ow, r, s1, I1, vb, s', e2, fun y H2 ρ2 t2 st2 r2 _ => ?_⟩
  have I2 := I1.step t2 st2
  refine ⟨ρ2, va, vb, kk, ?_, ?_, fun h => ?_, e3, kk, rfl, q H2 ρ2 (t1.trans t2) st2⟩
  · rw [g.K]; exact r1.mono t2.pre (I1.same t2)
  · rw [g.K]; exact r2
  · have := hb h
    subst this
    cases e2
    cases r2
    rfl
theorem e_cmp (g : GoodX c p k cf X) {o : CmpO} {a b : E} {x y : Expr} {pos : Pos} (hm : behindInMarks (cmpOp o) y = false) (hn : (o = .isN ∨ o = .isNotN) → b = .con .non) (ha : PE X x (simE p cf B a)) (hb : PE X y (simE p cf B b)) :
    PE X (.Compare x [cmpOp o] [y] pos) (simE p cf B (.cmp o a b)) ∧ PT X (.Compare x [cmpOp o] [y] pos) (simT p cf B (.cmp o a b)) := by
  have hu : X.A.units + 65 < cLine := by have := g.room.un; omega
  have OK : ∀ Y : Addr → Prop, OpR X (compareOp (cmpOp o)) fun x y H Q => ∃ ρ2, rCmp X.K p.fa ρ2 (Mt Y ρ2) o x y H Q := fun Y pins s σ H x y v u Q I rx ry ⟨ρ2, q⟩ => cmp_ok hu o pins s σ H x y v u Q I rx ry q
  constructor
  · refine ⟨fun pins s0 σ H Q I0 h => ?_⟩
    obtain ⟨ρ, Y, ow, r, s, I, v, s', e, q⟩ := h
    obtain ⟨va, s1, e1, e⟩ := Res.bind_eq_ok (show (ev cf a r s).bind _ = _ from e)
    obtain ⟨vb, s2, e2, e⟩ := Res.bind_eq_ok e
    obtain ⟨e3, rfl⟩ := Res.ofO_eq_ok e
    cases e4 : cmpop o va vb with
    | none => rw [e4] at e3; cases e3
    | some kk =>
      rw [e4] at e3
      cases e3
      refine (pe_cmpR (OK Y) ha hb hm).run pins s0 σ H Q I0 ?_
      have z := cmp_rd (B := B) (cf := cf) g (R := fun j H3 => Q (.bl j) H3) (kk := kk) (s' := s') I hn (by rw [e1]; show (ev cf b r s1).bind _ = _; rw [e2]; show Res.ofO (cmpop o va vb) s' = _; rw [e4]; rfl) fun H' ρ' t st => q _ _ _ t st (.bl kk) fun h => absurd h Bool.false_ne_true
      obtain ⟨ρ, Y', ow, r, s, I, va, s1, e1, q1⟩ := z
      refine ⟨ρ, Y', ow, r, s, I, va, s1, e1, fun x H1 ρ1 t1 st1 r1 f1 => ?_⟩
      obtain ⟨ρ, Y', ow, r, s, I, va, s1, e1, q2⟩ := q1 x H1 ρ1 t1 st1 r1 f1
      refine ⟨ρ, Y', ow, r, s, I, va, s1, e1, fun y H2 ρ2 t2 st2 r2 f2 => ?_⟩
      obtain ⟨ρ2, a, b, k2, h1, h2, h3, h4, j, h5, h6⟩ := q2 y H2 ρ2 t2 st2 r2 f2
      cases h5
      exact ⟨ρ2, a, b, _, h1, h2, h3, h4, h6⟩
  · refine ⟨fun pins s0 σ H Q I0 h => ?_⟩
    obtain ⟨ρ, Y, ow, r, s, I, kk, s', e, q⟩ := h
    obtain ⟨v, s0', e0, e⟩ := Res.bind_eq_ok e
    obtain ⟨e5, rfl⟩ := Res.ofO_eq_ok e
    obtain ⟨va, s1, e1, e⟩ := Res.bind_eq_ok (show (ev cf a r s).bind _ = _ from e0)
    obtain ⟨vb, s2, e2, e⟩ := Res.bind_eq_ok e
    obtain ⟨e3, rfl⟩ := Res.ofO_eq_ok e
    cases e4 : cmpop o va vb with
    | none => rw [e4] at e3; cases e3
    | some k2 =>
      rw [e4] at e3
      cases e3
      cases e5
      refine (pt_cmpR (OK Y) ha hb hm).run pins s0 σ H Q I0 ?_
      have z := cmp_rd (B := B) (cf := cf) g (R := fun j H3 => Q j H3) (kk := kk) (s' := s') I hn (by rw [e1]; show (ev cf b r s1).bind _ = _; rw [e2]; show Res.ofO (cmpop o va vb) s' = _; rw [e4]; rfl) q
      exact z
theorem e_chain (g : GoodX c p k cf X) {o o2 : CmpO} {a b d : E} {x y z : Expr} {pos : Pos} (hm : lastMarks [cmpOp o, cmpOp o2] [y, z] = false) (hn : ¬ (o = .isN ∨ o = .isNotN) ∧ ¬ (o2 = .isN ∨ o2 = .isNotN)) (ha : PE X x (simE p cf B a)) (hb : PE X y (simE p cf B b)) (hd : PE X z (simE p cf B d)) :
    PE X (.Compare x [cmpOp o, cmpOp o2] [y, z] pos) (simE p cf B (.chain o o2 a b d)) ∧ PT X (.Compare x [cmpOp o, cmpOp o2] [y, z] pos) (simT p cf B (.chain o o2 a b d)) := by
  have hu : X.A.units + 65 < cLine := by have := g.room.un; omega
  have OK : ∀ (o : CmpO) (Y : Addr → Prop), OpR X (compareOp (cmpOp o)) fun x y H Q => ∃ ρ2, rCmp X.K p.fa ρ2 (Mt Y ρ2) o x y H Q := fun o Y pins s σ H x y v u Q I rx ry ⟨ρ2, q⟩ => cmp_ok hu o pins s σ H x y v u Q I rx ry q
  have key : ∀ (σ : L2.St) (H : Hp) (ρ : List Addr) (Y : Addr → Prop) (ow : Own) (r : Env) (s s' : Store) (kk : Bool) (Q : VK), SI p B ρ Y ow σ H r s → ev cf (.chain o o2 a b d) r s = .ok (.bl kk) s' → (∀ H' ρ', Step ρ H ρ' H' → StR ρ' H' s' → Q (.bl kk) H') →
      tChain (fun x y H Q => ∃ ρ2, rCmp X.K p.fa ρ2 (Mt Y ρ2) o x y H Q) (fun x y H Q => ∃ ρ2, rCmp X.K p.fa ρ2 (Mt Y ρ2) o2 x y H Q) (simE p cf B a) (simE p cf B b) (simE p cf B d) σ H Q := by
    intro σ H ρ Y ow r s s' kk Q I e q
    obtain ⟨va, s1, e1, e⟩ := Res.bind_eq_ok (show (ev cf a r s).bind _ = _ from e)
    obtain ⟨vb, s2, e2, e⟩ := Res.bind_eq_ok e
    obtain ⟨k1, s3, e3, ee⟩ := Res.bind_eq_ok e
    obtain ⟨f3, rfl⟩ := Res.ofO_eq_ok e3
    refine ⟨ρ, Y, ow, r, s, I, va, s1, e1, fun x H1 ρ1 t1 st1 r1 _ => ?_⟩
    have I1 := I.step t1 st1
    refine ⟨ρ1, Y, ow, r, s1, I1, vb, s3, e2, fun y H2 ρ2 t2 st2 r2 _ => ?_⟩
    have I2 := I1.step t2 st2
    refine ⟨ρ2, va, vb, k1, ?_, ?_, fun h => absurd h hn.1, f3, k1, rfl, ?_⟩
    · rw [g.K]; exact r1.mono t2.pre (I1.same t2)
    · rw [g.K]; exact r2
    cases k1 with
    | false =>
      rw [if_neg Bool.false_ne_true]
      cases ee
      exact q H2 ρ2 (t1.trans t2) st2
    | true =>
      rw [if_pos rfl]
      obtain ⟨vd, s4, e4, e⟩ := Res.bind_eq_ok (show (ev cf d r s3).bind _ = _ from ee)
      obtain ⟨e5, rfl⟩ := Res.ofO_eq_ok e
      refine ⟨ρ2, Y, ow, r, s3, I2, vd, s', e4, fun z H3 ρ3 t3 st3 r3 _ => ?_⟩
      have I3 := I2.step t3 st3
      cases e6 : cmpop o2 vb vd with
      | none => rw [e6] at e5; cases e5
      | some k2 =>
        rw [e6] at e5
        cases e5
        refine ⟨ρ3, vb, vd, _, ?_, ?_, fun h => absurd h hn.2, e6, q H3 ρ3 ((t1.trans t2).trans t3) st3⟩
        · rw [g.K]; exact r2.mono t3.pre (I2.same t3)
        · rw [g.K]; exact r3
  have isb : ∀ (r : Env) (s s' : Store) (v : PV), ev cf (.chain o o2 a b d) r s = .ok v s' → ∃ kk, v = .bl kk := by
    intro r s s' v e
    obtain ⟨va, s1, e1, e⟩ := Res.bind_eq_ok (show (ev cf a r s).bind _ = _ from e)
    obtain ⟨vb, s2, e2, e⟩ := Res.bind_eq_ok e
    obtain ⟨k1, s3, e3, ee⟩ := Res.bind_eq_ok e
    cases k1 with
    | false => cases ee; exact ⟨_, rfl⟩
    | true =>
      obtain ⟨vd, s4, e4, e⟩ := Res.bind_eq_ok (show (ev cf d r s3).bind _ = _ from ee)
      obtain ⟨e5, rfl⟩ := Res.ofO_eq_ok e
      cases e6 : cmpop o2 vb vd with
      | none => rw [e6] at e5; cases e5
      | some k2 => rw [e6] at e5; cases e5; exact ⟨_, rfl⟩
  constructor
  · refine ⟨fun pins s0 σ H Q I0 ⟨ρ, Y, ow, r, s, I, v, s', e, q⟩ => ?_⟩
    obtain ⟨kk, rfl⟩ := isb _ _ _ _ e
    exact (pe_chain (OK o Y) (OK o2 Y) ha hb hd hm).run pins s0 σ H Q I0 (key σ H ρ Y ow r s s' kk Q I e fun H' ρ' t st => q _ _ _ t st (.bl kk) fun h => absurd h Bool.false_ne_true)
  · refine ⟨fun pins s0 σ H Q I0 ⟨ρ, Y, ow, r, s, I, kk, s', e, q⟩ => ?_⟩
    obtain ⟨v, s0', e0, e⟩ := Res.bind_eq_ok e
    obtain ⟨e5, rfl⟩ := Res.ofO_eq_ok e
    obtain ⟨k2, rfl⟩ := isb _ _ _ _ e0
    cases e5
    exact (pt_chain (OK o Y) (OK o2 Y) ha hb hd hm).run pins s0 σ H Q I0 (key σ H ρ Y ow r s s' kk (fun x H' => ∃ k, x = .bl k ∧ Q k H') I e0 fun H' ρ' t st => ⟨kk, rfl, q H' ρ' t st⟩)

/-- a test of a form that asks its value -/
theorem t_val {e : E} {x : Expr} (h : PE X x (simE p cf B e)) (he : ∀ whole, isTrue x X.env whole = (do let v ← whole; standAt x.pos; holding [v] (truthy v))) : PT X x (simT p cf B e) := PT.imp (pt_val h he) (by
  rintro σ H Q ⟨ρ, Y, ow, r, s, I, kk, s', e, q⟩
  obtain ⟨v, s1, e1, e⟩ := Res.bind_eq_ok e
  obtain ⟨e2, rfl⟩ := Res.ofO_eq_ok e
  refine ⟨ρ, Y, ow, r, s, I, v, s', e1, fun u H1 ρ1 t1 st1 r1 _ => ?_⟩
  cases r1 <;> cases e2
  exact ⟨kk, rfl, q H1 ρ1 t1 st1⟩)
theorem truth_bl {v : PV} {kk : Bool} (h : truth v = some kk) : v = .bl kk := by
  cases v <;> cases h
  rfl
/-- from a test of a part to the rest -/
theorem simT_of {a : E} {σ : L2.St} {H : Hp} {ρ : List Addr} {Y : Addr → Prop} {ow : Own} {r : Env} {s s1 : Store} {v : PV} {kk : Bool} {R : Bool → Hp → Prop} (I : SI p B ρ Y ow σ H r s) (e1 : ev cf a r s = .ok v s1) (e2 : truth v = some kk)
    (q : ∀ H' ρ', Step ρ H ρ' H' → StR ρ' H' s1 → R kk H') : simT p cf B a σ H R := ⟨ρ, Y, ow, r, s, I, kk, s1, by rw [e1]; show Res.ofO (truth v) s1 = _; rw [e2]; rfl, q⟩
theorem e_not (ha : PT X x (simT p cf B a)) (hv : PE X x (simE p cf B a)) : PE X (.UnaryOp .Not x pos) (simE p cf B (.not a)) ∧ PT X (.UnaryOp .Not x pos) (simT p cf B (.not a)) := by
  constructor
  · refine PE.imp (pe_not hv) ?_
    rintro σ H Q ⟨ρ, Y, ow, r, s, I, v, s', e, q⟩
    obtain ⟨va, s1, e1, e⟩ := Res.bind_eq_ok (show (ev cf a r s).bind _ = _ from e)
    obtain ⟨k1, s2, e2, ee⟩ := Res.bind_eq_ok e
    obtain ⟨f2, rfl⟩ := Res.ofO_eq_ok e2
    cases ee
    have := truth_bl f2
    subst this
    refine ⟨ρ, Y, ow, r, s, I, _, s', e1, fun u H1 ρ1 t1 st1 r1 _ => ?_⟩
    cases r1
    exact ⟨k1, rfl, q _ _ _ t1 st1 (.bl _) fun h => absurd h Bool.false_ne_true⟩
  · refine PT.imp (pt_not ha) ?_
    rintro σ H Q ⟨ρ, Y, ow, r, s, I, kk, s', e, q⟩
    obtain ⟨v, s0, e0, e⟩ := Res.bind_eq_ok e
    obtain ⟨e5, rfl⟩ := Res.ofO_eq_ok e
    obtain ⟨va, s1, e1, e⟩ := Res.bind_eq_ok (show (ev cf a r s).bind _ = _ from e0)
    obtain ⟨k1, s2, e2, ee⟩ := Res.bind_eq_ok e
    obtain ⟨f2, rfl⟩ := Res.ofO_eq_ok e2
    cases ee
    cases e5
    exact simT_of I e1 f2 q
theorem e_ite {a b d : E} {x y z : Expr} {pos : Pos} (hd : PT X z (simT p cf B d)) (ha : PE X x (simE p cf B a)) (hb : PE X y (simE p cf B b)) (ta : PT X x (simT p cf B a)) (tb : PT X y (simT p cf B b)) :
    PE X (.IfExp z x y pos) (simE p cf B (.ite d a b)) ∧ PT X (.IfExp z x y pos) (simT p cf B (.ite d a b)) := by
  constructor
  · refine PE.imp (pe_ifExp hd ha hb) ?_
    rintro σ H Q ⟨ρ, Y, ow, r, s, I, v, s', e, q⟩
    obtain ⟨va, s1, e1, e⟩ := Res.bind_eq_ok (show (ev cf d r s).bind _ = _ from e)
    obtain ⟨k1, s2, e2, ee⟩ := Res.bind_eq_ok e
    obtain ⟨f2, rfl⟩ := Res.ofO_eq_ok e2
    refine simT_of I e1 f2 fun H1 ρ1 t1 st1 => ?_
    have I1 := I.step t1 st1
    cases k1 with
    | true =>
      rw [if_pos rfl]
      exact ⟨ρ1, Y, ow, r, s2, I1, v, s', ee, fun u H2 ρ2 t2 st2 r2 _ => q u H2 ρ2 (t1.trans t2) st2 r2 fun h => absurd h Bool.false_ne_true⟩
    | false =>
      rw [if_neg Bool.false_ne_true]
      exact ⟨ρ1, Y, ow, r, s2, I1, v, s', ee, fun u H2 ρ2 t2 st2 r2 _ => q u H2 ρ2 (t1.trans t2) st2 r2 fun h => absurd h Bool.false_ne_true⟩
  · refine ⟨fun pins s0 σ H Q I0 ⟨ρ, Y, ow, r, s, I, kk, s', e, q⟩ => ?_⟩
    obtain ⟨v, s0', e0, e⟩ := Res.bind_eq_ok e
    obtain ⟨e5, rfl⟩ := Res.ofO_eq_ok e
    obtain ⟨va, s1, e1, e⟩ := Res.bind_eq_ok (show (ev cf d r s).bind _ = _ from e0)
    obtain ⟨k1, s2, e2, ee⟩ := Res.bind_eq_ok e
    obtain ⟨f2, rfl⟩ := Res.ofO_eq_ok e2
    refine PyProof.Rows.isTrue_IfExp (thn (hd.run pins s0 σ H _ I0 (simT_of I e1 f2 (R := fun j H1 => j = k1 ∧ ∃ ρ1, Step ρ H ρ1 H1 ∧ StR ρ1 H1 s2) fun H1 ρ1 t1 st1 => ⟨rfl, ρ1, t1, st1⟩)) fun j s5 ⟨H1, I1, hj, ρ1, t1, st1⟩ => ?_)
    subst hj
    have I2 := I.step t1 st1
    cases j with
    | true => exact ta.run pins s5 σ H1 Q I1 (simT_of I2 ee e5 fun H2 ρ2 t2 st2 => q H2 ρ2 (t1.trans t2) st2)
    | false => exact tb.run pins s5 σ H1 Q I1 (simT_of I2 ee e5 fun H2 ρ2 t2 st2 => q H2 ρ2 (t1.trans t2) st2)
/-- and, or: b is the rest -/
theorem e_and1 {a b : E} {x y : Expr} {rest : List Expr} {pos : Pos} (ha : PE X x (simE p cf B a)) (ta : PT X x (simT p cf B a)) (hb : PE X (.BoolOp .And (y :: rest) pos) (simE p cf B b)) (wb : PW X (.BoolOp .And (y :: rest) pos) (simT p cf B b)) :
    PE X (.BoolOp .And (x :: y :: rest) pos) (simE p cf B (.and a b)) ∧ PW X (.BoolOp .And (x :: y :: rest) pos) (simT p cf B (.and a b)) := by
  constructor
  · refine PE.imp (pe_and ha hb) ?_
    rintro σ H Q ⟨ρ, Y, ow, r, s, I, v, s', e, q⟩
    obtain ⟨va, s1, e1, e⟩ := Res.bind_eq_ok (show (ev cf a r s).bind _ = _ from e)
    obtain ⟨k1, s2, e2, ee⟩ := Res.bind_eq_ok e
    obtain ⟨f2, rfl⟩ := Res.ofO_eq_ok e2
    have := truth_bl f2
    subst this
    refine ⟨ρ, Y, ow, r, s, I, _, s2, e1, fun u H1 ρ1 t1 st1 r1 _ => ?_⟩
    have I1 := I.step t1 st1
    cases r1
    refine ⟨k1, rfl, ?_⟩
    cases k1 with
    | true =>
      rw [if_pos rfl]
      exact ⟨ρ1, Y, ow, r, s2, I1, v, s', ee, fun u H2 ρ2 t2 st2 r2 _ => q u H2 ρ2 (t1.trans t2) st2 r2 fun h => absurd h Bool.false_ne_true⟩
    | false =>
      rw [if_neg Bool.false_ne_true]
      cases ee
      exact q _ _ _ t1 st1 (.bl _) fun h => absurd h Bool.false_ne_true
  · refine PW.imp (pw_and ta wb) ?_
    rintro σ H Q ⟨ρ, Y, ow, r, s, I, kk, s', e, q⟩
    obtain ⟨v, s0, e0, e⟩ := Res.bind_eq_ok e
    obtain ⟨e5, rfl⟩ := Res.ofO_eq_ok e
    obtain ⟨va, s1, e1, e⟩ := Res.bind_eq_ok (show (ev cf a r s).bind _ = _ from e0)
    obtain ⟨k1, s2, e2, ee⟩ := Res.bind_eq_ok e
    obtain ⟨f2, rfl⟩ := Res.ofO_eq_ok e2
    refine simT_of I e1 f2 fun H1 ρ1 t1 st1 => ?_
    have I1 := I.step t1 st1
    cases k1 with
    | true =>
      rw [if_pos rfl]
      exact simT_of I1 ee e5 fun H2 ρ2 t2 st2 => q H2 ρ2 (t1.trans t2) st2
    | false =>
      rw [if_neg Bool.false_ne_true]
      cases ee
      cases e5
      exact q H1 ρ1 t1 st1
theorem e_or1 {a b : E} {x y : Expr} {rest : List Expr} {pos : Pos} (ha : PE X x (simE p cf B a)) (ta : PT X x (simT p cf B a)) (hb : PE X (.BoolOp .Or (y :: rest) pos) (simE p cf B b)) (wb : PW X (.BoolOp .Or (y :: rest) pos) (simT p cf B b)) :
    PE X (.BoolOp .Or (x :: y :: rest) pos) (simE p cf B (.or a b)) ∧ PW X (.BoolOp .Or (x :: y :: rest) pos) (simT p cf B (.or a b)) := by
  constructor
  · refine PE.imp (pe_or ha hb) ?_
    rintro σ H Q ⟨ρ, Y, ow, r, s, I, v, s', e, q⟩
    obtain ⟨va, s1, e1, e⟩ := Res.bind_eq_ok (show (ev cf a r s).bind _ = _ from e)
    obtain ⟨k1, s2, e2, ee⟩ := Res.bind_eq_ok e
    obtain ⟨f2, rfl⟩ := Res.ofO_eq_ok e2
    have := truth_bl f2
    subst this
    refine ⟨ρ, Y, ow, r, s, I, _, s2, e1, fun u H1 ρ1 t1 st1 r1 _ => ?_⟩
    have I1 := I.step t1 st1
    cases r1
    refine ⟨k1, rfl, ?_⟩
    cases k1 with
    | false =>
      rw [if_neg Bool.false_ne_true]
      exact ⟨ρ1, Y, ow, r, s2, I1, v, s', ee, fun u H2 ρ2 t2 st2 r2 _ => q u H2 ρ2 (t1.trans t2) st2 r2 fun h => absurd h Bool.false_ne_true⟩
    | true =>
      rw [if_pos rfl]
      cases ee
      exact q _ _ _ t1 st1 (.bl _) fun h => absurd h Bool.false_ne_true
  · refine PW.imp (pw_or ta wb) ?_
    rintro σ H Q ⟨ρ, Y, ow, r, s, I, kk, s', e, q⟩
    obtain ⟨v, s0, e0, e⟩ := Res.bind_eq_ok e
    obtain ⟨e5, rfl⟩ := Res.ofO_eq_ok e
    obtain ⟨va, s1, e1, e⟩ := Res.bind_eq_ok (show (ev cf a r s).bind _ = _ from e0)
    obtain ⟨k1, s2, e2, ee⟩ := Res.bind_eq_ok e
    obtain ⟨f2, rfl⟩ := Res.ofO_eq_ok e2
    refine simT_of I e1 f2 fun H1 ρ1 t1 st1 => ?_
    have I1 := I.step t1 st1
    cases k1 with
    | false =>
      rw [if_neg Bool.false_ne_true]
      exact simT_of I1 ee e5 fun H2 ρ2 t2 st2 => q H2 ρ2 (t1.trans t2) st2
    | true =>
      rw [if_pos rfl]
      cases ee
      cases e5
      exact q H1 ρ1 t1 st1
end
end PyI

set_option maxRecDepth 100000
/-! PyI7: displays, items, slices, calls. -/
namespace PyI
open PySem PySem.Spec PyProof.Rows L2
section
variable {c : Ctx} {p : Par} {k : Nat} {cf : CF} {X : Cx} {B : List Nat}

/-- not an expression with a star -/
def plainE (x : Expr) : Bool := match x with
  | .Starred _ _ => false
  | .Slice _ _ _ _ => false
  | .Set _ _ _ => false
  | _ => true
theorem star_cons {x : Expr} {xs : List Expr} {env : PySem.Env} (h : plainE x = true) : starEach (x :: xs) env = (false, eval x env) :: starEach xs env := by
  cases x <;> first | rfl | cases h
theorem star_any {pos : Pos} {env : PySem.Env} : ∀ {xs : List Expr}, xs.all plainE = true → (backTo pos (starEach xs env)).any (·.1) = false
  | [], _ => rfl
  | x :: xs, h => by
    rw [List.all_cons, Bool.and_eq_true] at h
    rw [star_cons h.1]
    have ih := star_any (pos := pos) (env := env) h.2
    revert ih
    cases starEach xs env with
    | nil => intro _; rfl
    | cons a l =>
      intro ih
      first
        | exact ih
        | (cases a; first | exact ih | simpa [backTo] using ih)
theorem es_nil : PA X [] (simEs p cf B .nil) := PA.imp pa_nil (by
  rintro σ H Q ⟨ρ, Y, ow, r, s, I, vs, s', e, q⟩
  cases e
  exact q _ _ _ (Step.refl _ _) I.st .nil)
theorem es_cons {x : Expr} {xs : List Expr} {a : E} {as : Es} (hx : plainE x = true) (ha : PE X x (simE p cf B a)) (hs : PA X xs (simEs p cf B as)) : PA X (x :: xs) (simEs p cf B (.cons a as)) := PA.imp (pa_cons ha hs (star_cons hx)) (by
  rintro σ H Q ⟨ρ, Y, ow, r, s, I, vs, s', e, q⟩
  obtain ⟨va, s1, e1, f⟩ := Res.bind_eq_ok (show (ev cf a r s).bind _ = _ from e)
  obtain ⟨ws, s2, e2, f2⟩ := Res.bind_eq_ok f
  cases f2
  refine ⟨ρ, Y, ow, r, s, I, va, s1, e1, fun u H1 ρ1 t1 st1 r1 _ => ?_⟩
  have I1 := I.step t1 st1
  exact ⟨ρ1, Y, ow, r, s1, I1, ws, s', e2, fun us H2 ρ2 t2 st2 r2 => q _ _ _ (t1.trans t2) st2 (.cons (r1.mono t2.pre (I1.same t2)) r2)⟩)
theorem e_tup {xs : List Expr} {as : Es} {n : Nat} {pos : Pos} (hs : PA X xs (simEs p cf B as)) : PE X (.Tuple xs n pos) (simE p cf B (.tup as)) := PE.imp (pe_tup hs) (by
  rintro σ H Q ⟨ρ, Y, ow, r, s, I, v, s', e, q⟩
  obtain ⟨ws, s1, e1, f⟩ := Res.bind_eq_ok (show (evs cf as r s).bind _ = _ from e)
  split at f
  · rename_i hz
    cases f
    refine ⟨ρ, Y, ow, r, s, I, ws, s', e1, fun us H1 ρ1 t1 st1 r1 => ⟨by rw [← r1.length, sz_eq]; exact hz, ?_⟩⟩
    have I1 := I.step t1 st1
    exact (q.gv t1 st1).tup (fun b h => I1.there h) r1
  · cases f)
theorem e_lst {xs : List Expr} {as : Es} {pos : Pos} (hs : PA X xs (simEs p cf B as)) : PE X (.List xs pos) (simE p cf B (.lst as)) := PE.imp (pe_lst hs) (by
  rintro σ H Q ⟨ρ, Y, ow, r, s, I, v, s', e, q⟩
  obtain ⟨ws, s1, e1, f⟩ := Res.bind_eq_ok (show (evs cf as r s).bind _ = _ from e)
  split at f
  · rename_i hz
    cases f
    refine ⟨ρ, Y, ow, r, s, I, ws, s', e1, fun us H1 ρ1 t1 st1 r1 => ⟨by rw [← r1.length, sz_eq]; exact hz, ?_⟩⟩
    have I1 := I.step t1 st1
    exact (q.gv t1 st1).lst (fun b h => I1.there h) r1
  · cases f)
/-- a place of the store is made -/
theorem StR.push {ρ : List Addr} {H : Hp} {s : Store} {xs : List PV} {vs : List V} {pa : Addr} {K : PySem.W.Frag} {fa : Nat → Addr} {ρ' : List Addr} {H' : Hp} (st : StR ρ H s) (hp : H pa = none) (hs : xs.all isScal = true) (r : PRels K fa ρ' H' xs vs) : StR (ρ ++ [pa]) (upd H pa (.lst vs)) (s ++ [xs]) where
  len := by simp [st.len]
  nd := by
    rw [List.nodup_append]
    refine ⟨st.nd, by simp, fun a ha b hb => ?_⟩
    have : b = pa := by simpa using hb
    subst this
    rintro rfl
    obtain ⟨vs, h⟩ := st.some ha
    rw [hp] at h
    cases h
  at_ := fun i ys e => by
    by_cases hi : i < s.length
    · rw [List.getElem?_append_left hi] at e
      obtain ⟨a, ws, h1, h2, h3⟩ := st.at_ i ys e
      exact ⟨a, ws, by rw [List.getElem?_append_left (by rw [← st.len]; exact hi)]; exact h1, by rw [upd_ne (ne_of_none h2 hp)]; exact h2, h3⟩
    · rw [List.getElem?_append_right (by omega)] at e
      have hi2 : i - s.length = 0 := by
        by_cases h0 : i - s.length = 0
        · exact h0
        · rw [List.getElem?_eq_none (by simp; omega)] at e; cases e
      have e2 : ys = xs := by
        rw [hi2] at e
        simpa using e.symm
      subst e2
      have hi3 : i = ρ.length := by rw [← st.len]; omega
      exact ⟨pa, vs, by rw [List.getElem?_append_right (by omega), hi3]; simp, upd_same, hs, r.scals hs⟩
theorem e_newP {xs : List Expr} {as : Es} {pos : Pos} (hs : PA X xs (simEs p cf B as)) : PE X (.List xs pos) (simE p cf B (.newP as)) := PE.imp (pe_lst hs) (by
  rintro σ H Q ⟨ρ, Y, ow, r, s, I, v, s', e, q⟩
  obtain ⟨ws, s1, e1, f⟩ := Res.bind_eq_ok (show (evs cf as r s).bind _ = _ from e)
  split at f
  · rename_i hz
    rw [Bool.and_eq_true, decide_eq_true_eq] at hz
    cases f
    refine ⟨ρ, Y, ow, r, s, I, ws, s1, e1, fun us H1 ρ1 t1 st1 r1 => ⟨by rw [← r1.length, sz_eq]; exact hz.2, fun pa hp => ?_⟩⟩
    have st2 := st1.push hp hz.1 r1
    have hpn : pa ∉ ρ1 := fun z => by
      obtain ⟨vs, h⟩ := st1.some z
      rw [hp] at h
      cases h
    refine q _ _ (ρ1 ++ [pa]) (t1.trans ⟨List.prefix_append _ _, fun a ha hn => ?_, fun b o hb _ => same_updN hp b o hb⟩) st2 (.loc ?_) fun h => absurd h Bool.false_ne_true
    · rcases List.mem_append.mp ha with h | h
      · exact absurd h hn
      · have : a = pa := by simpa using h
        subst this
        exact hp
    · rw [st1.len]
      simp
  · cases f)
/-- the index is none of the odd forms -/
def plainI (y : Expr) : Bool := match y with
  | .Slice _ _ _ _ => false
  | _ => true
theorem plainI_ok {y : Expr} (h : plainI y = true) : PlainIx y := by
  intro o i
  cases y <;> first | rfl | cases h
theorem e_sub (g : GoodX c p k cf X) {a b : E} {x y : Expr} {pos : Pos} (hy : plainI y = true) (ha : PE X x (simE p cf B a)) (hb : PE X y (simE p cf B b)) : PE X (.Subscript x y pos) (simE p cf B (.sub a b)) := by
  refine PE.imp (pe_ix (r := fun x y H Q => ∃ ρ M, rSub X.K p.fa ρ M x y H Q) ?_ ha hb (plainI_ok hy)) ?_
  · intro va sl pins s σ H x y v u Q I rx ry ⟨ρ, M, q⟩ hs
    exact sub_ok va sl pins s σ H x y v u Q I rx ry q hs
  · rintro σ H Q ⟨ρ, Y, ow, r, s, I, v, s', e, q⟩
    obtain ⟨va, s1, e1, f⟩ := Res.bind_eq_ok (show (ev cf a r s).bind _ = _ from e)
    obtain ⟨vb, s2, e2, f2⟩ := Res.bind_eq_ok f
    obtain ⟨e3, rfl⟩ := Res.ofO_eq_ok f2
    refine ⟨ρ, Y, ow, r, s, I, va, s1, e1, fun x H1 ρ1 t1 st1 r1 _ => ?_⟩
    have I1 := I.step t1 st1
    refine ⟨ρ1, Y, ow, r, s1, I1, vb, s', e2, fun y H2 ρ2 t2 st2 r2 _ => ?_⟩
    have I2 := I1.step t2 st2
    refine ⟨ρ2, Mt Y ρ2, va, vb, v, s', ?_, ?_, st2, e3, fun u ru => q u H2 ρ2 (t1.trans t2) st2 ?_ fun h => absurd h Bool.false_ne_true⟩
    · rw [g.K]; exact r1.mono t2.pre (I1.same t2)
    · rw [g.K]; exact r2
    · rw [g.K] at ru; exact ru
/-- a slice's part -/
def simO (p : Par) (cf : CF) (B : List Nat) (e : E) : TO := fun σ H Q => ∃ ρ Y ow r s, SI p B ρ Y ow σ H r s ∧ ∃ v s' o, ev cf e r s = .ok v s' ∧ partOf e v = some o ∧ ∀ H' ρ', Step ρ H ρ' H' → StR ρ' H' s' → Q o H'
theorem PO.imp {e : Option Expr} {t t' : TO} (h : PO X e t) (i : ∀ σ H Q, t' σ H Q → t σ H Q) : PO X e t' := ⟨fun pins s σ H Q I q => h.run pins s σ H Q I (i σ H Q q)⟩
theorem o_none : PO X none (simO p cf B (.con .non)) := PO.imp po_none (by
  rintro σ H Q ⟨ρ, Y, ow, r, s, I, v, s', o, e, f, q⟩
  cases e
  cases f
  exact q H ρ (Step.refl _ _) I.st)
theorem o_some {x : Expr} {a : E} (hn : a ≠ .con .non) (ha : PE X x (simE p cf B a)) : PO X (some x) (simO p cf B a) := PO.imp (po_some ha) (by
  rintro σ H Q ⟨ρ, Y, ow, r, s, I, v, s', o, e, f, q⟩
  refine ⟨ρ, Y, ow, r, s, I, v, s', e, fun u H1 ρ1 t1 st1 r1 _ => ?_⟩
  have : ∃ i, v = .int i ∧ o = some i := by
    unfold partOf at f
    split at f
    · exact absurd rfl hn
    · cases f; exact ⟨_, rfl, rfl⟩
    · cases f
  obtain ⟨i, rfl, rfl⟩ := this
  cases r1
  exact ⟨i, rfl, q H1 ρ1 t1 st1⟩)
theorem e_slice (g : GoodX c p k cf X) {a l h : E} {x : Expr} {lo hi : Option Expr} {pos p2 : Pos} (ha : PE X x (simE p cf B a)) (hl : PO X lo (simO p cf B l)) (hh : PO X hi (simO p cf B h)) : PE X (.Subscript x (.Slice lo hi none p2) pos) (simE p cf B (.slice a l h)) := by
  refine PE.imp (pe_slice (r := fun x lo hi H Q => ∃ ρ M, rSlc X.K p.fa ρ M x lo hi H Q) ?_ ha hl hh) ?_
  · intro pins s σ H x v vl vu lo hi sl Q I rx hs pl pu ⟨ρ, M, q⟩
    exact slc_ok pins s σ H x v vl vu lo hi sl Q I rx hs pl pu q
  · rintro σ H Q ⟨ρ, Y, ow, r, s, I, v, s', e, q⟩
    obtain ⟨va, s1, e1, f⟩ := Res.bind_eq_ok (show (ev cf a r s).bind _ = _ from e)
    obtain ⟨vl, s2, e2, f2⟩ := Res.bind_eq_ok f
    obtain ⟨vh, s3, e3, f3⟩ := Res.bind_eq_ok f2
    obtain ⟨e4, rfl⟩ := Res.ofO_eq_ok f3
    cases e5 : partOf l vl with
    | none => rw [e5] at e4; cases e4
    | some ol =>
      cases e6 : partOf h vh with
      | none => rw [e5, e6] at e4; cases e4
      | some oh =>
        rw [e5, e6] at e4
        have e4 : slV va ol oh = some v := e4
        refine ⟨ρ, Y, ow, r, s, I, va, s1, e1, fun x H1 ρ1 t1 st1 r1 _ => ?_⟩
        have I1 := I.step t1 st1
        refine ⟨ρ1, Y, ow, r, s1, I1, vl, s2, ol, e2, e5, fun H2 ρ2 t2 st2 => ?_⟩
        have I2 := I1.step t2 st2
        refine ⟨ρ2, Y, ow, r, s2, I2, vh, s', oh, e3, e6, fun H3 ρ3 t3 st3 => ?_⟩
        have I3 := I2.step t3 st3
        refine ⟨ρ3, Mt Y ρ3, va, v, fun b z => I3.there z, ?_, e4, ?_⟩
        · rw [g.K]; exact (r1.mono t2.pre (I1.same t2)).mono t3.pre (I2.same t3)
        · rw [g.K]; exact q.gv ((t1.trans t2).trans t3) st3
/-- a def is called -/
theorem e_call (g : GoodX c p k cf X) {f : Str} {i : Nat} {x : Expr} {xs : List Expr} {as : Es} {pf pos : Pos} (hf : c.fns.lookup f = some i) (hg : glC c.sc f = true) (hp : plainN f = true) (hx : (x :: xs).all plainE = true) (hs : PA X (x :: xs) (simEs p cf B as)) :
    PE X (.Call (.Name f pf) (x :: xs) [] pos) (simE p cf B (.call i as)) := by
  obtain ⟨h1, h2, fd, ps, F, bd, ar⟩ := g.fns f i hf
  rw [List.all_cons, Bool.and_eq_true] at hx
  refine PE.imp (pe_call F g.room (glC_ok g hg) h1 h2 bd .nil pass0 hs (plainN_ok hp).1 (star_cons hx.1) (star_any hx.2)) ?_
  rintro σ H Q ⟨ρ, Y, ow, r, s, I, v, s', e, q⟩
  obtain ⟨ws, s1, e1, f1⟩ := Res.bind_eq_ok (show (evs cf as r s).bind _ = _ from e)
  refine ⟨ρ, Y, ow, r, s, I, ws, s1, e1, fun us H1 ρ1 t1 st1 r1 => ?_⟩
  have I1 := I.step t1 st1
  show simSp p.K p.fa cf ps.length i (us ++ []) H1 Q E0
  rw [List.append_nil]
  refine ⟨by rw [← r1.length]; exact ar _ _ _ _ f1, Y, ρ1, ws, s1, I1.th, st1, r1, v, s', f1, fun u H2 ρ2 t2 st2 r2 => ?_⟩
  exact q u H2 ρ2 (t1.trans t2) st2 r2 fun h => absurd h Bool.false_ne_true
theorem e_call0 (g : GoodX c p k cf X) {f : Str} {i : Nat} {pf pos : Pos} (hf : c.fns.lookup f = some i) (hg : glC c.sc f = true) (hp : plainN f = true) : PE X (.Call (.Name f pf) [] [] pos) (simE p cf B (.call i .nil)) := by
  obtain ⟨h1, h2, fd, ps, F, bd, ar⟩ := g.fns f i hf
  refine PE.imp (pe_call0 F g.room (glC_ok g hg) h1 h2 bd .nil pass0 (plainN_ok hp).1) ?_
  rintro σ H Q ⟨ρ, Y, ow, r, s, I, v, s', e, q⟩
  have e : cf i [] s = .ok v s' := e
  show simSp p.K p.fa cf ps.length i ([] ++ []) H Q E0
  refine ⟨by rw [← ar _ _ _ _ e]; rfl, Y, ρ, [], s, I.th, I.st, .nil, v, s', e, fun u H2 ρ2 t2 st2 r2 => ?_⟩
  exact q u H2 ρ2 t2 st2 r2 fun h => absurd h Bool.false_ne_true
/-- the built-in's name -/
def bltN : Blt → Str
  | .len => "len" | .abs => "abs" | .int => "int" | .list => "list" | .tuple => "tuple" | .sum => "sum" | .min1 => "min" | .max1 => "max" | .min2 => "min" | .max2 => "max" | .sorted => "sorted" | .all => "all" | .any => "any" | .str => "str"
theorem bltN_v : ∀ b : Blt, bootBuiltins (bltN b) = some (bltV b) ∧ plainN (bltN b) = true := by
  intro b
  cases b <;> exact ⟨by decide +kernel, by decide +kernel⟩
theorem e_blt (g : GoodX c p k cf X) {b : Blt} {x : Expr} {xs : List Expr} {as : Es} {pf pos : Pos} (hf : bltN b ∈ c.free) (hg : glC c.sc (bltN b) = true) (hx : (x :: xs).all plainE = true) (hs : PA X (x :: xs) (simEs p cf B as)) :
    PE X (.Call (.Name (bltN b) pf) (x :: xs) [] pos) (simE p cf B (.blt b as)) := by
  obtain ⟨hv, hp⟩ := bltN_v b
  rw [List.all_cons, Bool.and_eq_true] at hx
  obtain ⟨n1, _, n3⟩ := plainN_ok hp
  have key : ∀ (r : List V → Hp → VK → Prop), CallR X (bltV b) r → PE X (.Call (.Name (bltN b) pf) (x :: xs) [] pos) (tCB r (simEs p cf B as)) := by
    intro r hr
    cases b <;> first
      | exact pe_callB hr (glC_ok g hg) (g.free _ hf) hv hs n3 n1 (star_cons hx.1) (star_any hx.2)
      | exact pe_callTy hr (glC_ok g hg) (g.free _ hf) hv hs n3 n1 (star_cons hx.1) (star_any hx.2)
  refine PE.imp (key (fun vs H Q => ∃ ρ M, rBlt X.K p.fa ρ M b vs H Q) fun pins s σ H vs us Q I rv ⟨ρ, M, q⟩ => blt_ok g.calm (by have := g.room.un; omega) b pins s σ H vs us Q I rv q) ?_
  rintro σ H Q ⟨ρ, Y, ow, r, s, I, v, s', e, q⟩
  obtain ⟨ws, s1, e1, f1⟩ := Res.bind_eq_ok (show (evs cf as r s).bind _ = _ from e)
  obtain ⟨e3, rfl⟩ := Res.ofO_eq_ok f1
  refine ⟨ρ, Y, ow, r, s, I, ws, s', e1, fun us H1 ρ1 t1 st1 r1 => ?_⟩
  have I1 := I.step t1 st1
  refine ⟨ρ1, Mt Y ρ1, ws, v, fun b h => I1.there h, ?_, e3, ?_⟩
  · rw [g.K]; exact r1
  · rw [g.K]; exact q.gv t1 st1
def tyS : Ty → Str
  | .int => "int" | .bool => "bool" | .str => "str" | .tuple => "tuple" | .list => "list"
theorem tyS_v : ∀ t : Ty, bootBuiltins (tyS t) = some (.type (tyN t)) ∧ plainN (tyS t) = true := by
  intro t
  cases t <;> exact ⟨by decide +kernel, by decide +kernel⟩
theorem isin_v : bootBuiltins ("isinstance" : Str) = some (.builtin "isinstance") := by decide +kernel
theorem e_isin (g : GoodX c p k cf X) {t : Ty} {x : Expr} {a : E} {pf pt pos : Pos} (h1 : ("isinstance" : Str) ∈ c.free) (h2 : glC c.sc "isinstance" = true) (h3 : tyS t ∈ c.free) (h4 : glC c.sc (tyS t) = true) (hx : plainE x = true) (ha : PE X x (simE p cf B a)) :
    PE X (.Call (.Name "isinstance" pf) [x, .Name (tyS t) pt] [] pos) (simE p cf B (.isin a t)) := by
  obtain ⟨hv, hp⟩ := tyS_v t
  obtain ⟨n1, _, n3⟩ := plainN_ok hp
  have hb : PE X (.Name (tyS t) pt) (tC (.ty (tyN t))) := pe_bltn (glC_ok g h4) (g.free _ h3) hv rfl n3 n1
  have hs : PA X [x, .Name (tyS t) pt] (tCons (simE p cf B a) (tCons (tC (.ty (tyN t))) tNil)) := pa_cons ha (pa_cons hb pa_nil (star_cons rfl)) (star_cons hx)
  refine PE.imp (pe_callB (r := fun vs H Q => ∃ ρ M, rIsin X.K p.fa ρ M t vs H Q) (fun pins s σ H vs us Q I rv ⟨ρ, M, q⟩ => isin_ok t pins s σ H vs us Q I rv q) (glC_ok g h2) (g.free _ h1) isin_v hs (by decide) (by decide) (star_cons hx) rfl) ?_
  rintro σ H Q ⟨ρ, Y, ow, r, s, I, v, s', e, q⟩
  obtain ⟨va, s1, e1, f1⟩ := Res.bind_eq_ok (show (ev cf a r s).bind _ = _ from e)
  obtain ⟨e3, rfl⟩ := Res.ofO_eq_ok f1
  cases e4 : isTy t va with
  | none => rw [e4] at e3; cases e3
  | some kk =>
    rw [e4] at e3
    cases e3
    refine ⟨ρ, Y, ow, r, s, I, va, s', e1, fun u H1 ρ1 t1 st1 r1 _ => ?_⟩
    refine ⟨ρ1, Mt Y ρ1, va, u, kk, rfl, ?_, e4, q _ _ _ t1 st1 (.bl kk) fun h => absurd h Bool.false_ne_true⟩
    rw [g.K]; exact r1

/-! ### owners that lend -/
section
variable {K : PySem.W.Frag} {fa : Nat → Addr} {ρ : List Addr} {H H' : Hp}
mutual
theorem PRel.lf {G G' : Hp} (e : ∀ b o, G b = some o → (∀ xs, o ≠ .lst xs) → (∀ kvs, o ≠ .dK kvs) → G' b = some o) : ∀ {x : PV} {v : V}, PRel K fa ρ G x v → listFree x = true → PRel K fa ρ G' x v
  | _, _, .non, _ => .non
  | _, _, .bl b, _ => .bl b
  | _, _, .int i, _ => .int i
  | _, _, .str x h, _ => .str x h
  | _, _, .tup h r, l => .tup (by
      rcases h with (h | ⟨o, h⟩) | h
      · exact .inl (.inl (e _ _ h (fun _ z => nomatch z) (fun _ z => nomatch z)))
      · exact .inl (.inr ⟨o, e _ _ h (fun _ z => nomatch z) (fun _ z => nomatch z)⟩)
      · exact .inr h) (PRels.lf e r (by simpa [listFree] using l))
  | _, _, .lst h r, l => by cases l
  | _, _, .scr h r, l => .scr (h.elim (fun ⟨o, h⟩ => .inl ⟨o, e _ _ h (fun _ z => nomatch z) (fun _ z => nomatch z)⟩) .inr) (PRels.lf e r (by simpa [listFree] using l))
  | _, _, .fn i, _ => .fn i
  | _, _, .dct _ _ _ _, l => by cases l
  | _, _, .loc h, _ => .loc h
theorem PRels.lf {G G' : Hp} (e : ∀ b o, G b = some o → (∀ xs, o ≠ .lst xs) → (∀ kvs, o ≠ .dK kvs) → G' b = some o) : ∀ {xs : List PV} {vs : List V}, PRels K fa ρ G xs vs → listFrees xs = true → PRels K fa ρ G' xs vs
  | _, _, .nil, _ => .nil
  | _, _, .cons (x := x) (xs := xs) h r, l => by
    have l' : listFree x = true ∧ listFrees xs = true := by simpa [listFrees] using l
    exact .cons (PRel.lf e h l'.1) (PRels.lf e r l'.2)
end
end
/-- some owners are held still -/
theorem SI.lent {ρ : List Addr} {Y : Addr → Prop} {ow : Own} {σ : L2.St} {H : Hp} {r : Env} {s : Store} (I : SI p B ρ Y ow σ H r s) (is : List Nat) :
    SI p (B.filter fun i => !is.contains i) ρ (fun b => Y b ∧ ∀ i, (i, b) ∈ ow → i ∉ is) (ow.filter fun q => !is.contains q.1) σ H r s := by
  have sub : Same (fz (Mt Y ρ) H) (fz (Mt (fun b => Y b ∧ ∀ i, (i, b) ∈ ow → i ∉ is) ρ) H) := fz_mono fun b o hn e => ⟨fun z => hn (z.elim (fun z => .inl z.1) .inr), e⟩
  refine ⟨?_, I.bnd.sublist List.filter_sublist, I.pre, I.new, I.frame, fun b h => ⟨I.m0 b h, fun i hi _ => ?_⟩, fun b h => I.th b h.1, I.st, I.len, fun i v hi e => ?_, fun i a h => ?_, ?_⟩
  · rw [← I.bs, List.filter_map]
    rfl
  · obtain ⟨_, _, _, _, _, _, _, _, h7⟩ := I.owns i b hi
    exact h7 h
  · by_cases hB : i ∈ B
    · have hB' := hB
      rw [← I.bs] at hB'
      obtain ⟨⟨i', a⟩, hm, rfl⟩ := List.mem_map.mp hB'
      obtain ⟨xs, vs, h1, h2, h3, h4, h5, h6, h7⟩ := I.owns _ _ hm
      have e1 : v = xs := by
        have := e.symm.trans h1
        simpa using this
      subst e1
      refine ⟨_, h2, (h4.mono List.prefix_rfl sub).rel ?_⟩
      rw [fz_eq]
      · exact h3
      · rintro (⟨_, z⟩ | z)
        · have : i' ∈ is := by
            apply Classical.byContradiction
            intro hi'
            exact hi (List.mem_filter.mpr ⟨hB, by simpa using hi'⟩)
          exact z _ hm this
        · exact (I.th a h6).2 z
    · obtain ⟨u, h1, h2⟩ := I.vars i v hB e
      exact ⟨u, h1, h2.mono List.prefix_rfl sub⟩
  · obtain ⟨hm, hi⟩ := List.mem_filter.mp h
    obtain ⟨xs, vs, h1, h2, h3, h4, h5, h6, h7⟩ := I.owns i a hm
    refine ⟨xs, vs, h1, h2, h3, h4.mono List.prefix_rfl sub, h5, ⟨h6, fun j hj hji => ?_⟩, h7⟩
    have : j = i := by
      obtain ⟨m, hm1, hm2⟩ := List.getElem_of_mem hm
      obtain ⟨n, hn1, hn2⟩ := List.getElem_of_mem hj
      have e1 : (ow.map (·.2))[m]'(by simpa using hm1) = a := by simp [hm2]
      have e2 : (ow.map (·.2))[n]'(by simpa using hn1) = a := by simp [hn2]
      have := (List.getElem_inj I.dis).mp (e1.trans e2.symm)
      subst this
      rw [hm2] at hn2
      exact (congrArg Prod.fst hn2).symm
    subst this
    simp at hi
    exact hi hji
  · exact I.dis.sublist (List.filter_sublist.map _)
theorem lendE_read (is : List Nat) {e : E} {σ : L2.St} {H : Hp} {Q : VK} (h : simE p cf B (.lend is e) σ H Q) : simE p cf (B.filter fun i => !is.contains i) e σ H Q := by
  revert h
  rintro ⟨ρ, Y, ow, r, s, I, v, s', e0, q⟩
  obtain ⟨va, s1, e1, f⟩ := Res.bind_eq_ok (show (ev cf e r s).bind _ = _ from e0)
  split at f
  · rename_i hl
    cases f
    refine ⟨ρ, _, _, r, s, I.lent is, v, s', e1, fun u H1 ρ1 t1 st1 r1 f1 => ?_⟩
    have I1 := I.step t1 st1
    have low : ∀ b o, fz (Mt (fun b => Y b ∧ ∀ i, (i, b) ∈ ow → i ∉ is) ρ1) H1 b = some o → (∀ xs, o ≠ .lst xs) → (∀ kvs, o ≠ .dK kvs) → fz (Mt Y ρ1) H1 b = some o := by
      intro b o hb ho ho2
      obtain ⟨h1, h2⟩ := fz_some hb
      rw [fz_eq]
      · exact h2
      · rintro (z | z)
        · by_cases hz : ∃ i, (i, b) ∈ ow
          · obtain ⟨i, hi⟩ := hz
            obtain ⟨xs, vs, _, _, h3, h4, _⟩ := I1.owns i b hi
            rw [h3] at h2
            cases h2
            cases h4 with
            | lst _ => exact ho _ rfl
            | dct _ _ _ => exact ho2 _ rfl
          · exact h1 (.inl ⟨z, fun i hi => absurd ⟨i, hi⟩ hz⟩)
        · exact h1 (.inr z)
    by_cases hv : ∃ xs, v = .lst xs
    · obtain ⟨xs, rfl⟩ := hv
      have hl' : fresh e = true ∧ listFrees xs = true := by simpa [lendOk] using hl
      obtain ⟨a, vs, rfl, h2, h3, h4⟩ := f1 hl'.1 xs rfl
      have nY : ¬ Mt Y ρ1 a := by
        rintro (z | z)
        · exact (I.th a z).1 h2
        · cases r1 with
          | lst h r => exact (fz_some h).1 (.inr z)
      have low2 : ∀ b o, fz (fun b => Mt (fun b => Y b ∧ ∀ i, (i, b) ∈ ow → i ∉ is) ρ1 b ∨ b = a) H1 b = some o → (∀ xs, o ≠ .lst xs) → (∀ kvs, o ≠ .dK kvs) → fz (fun b => Mt Y ρ1 b ∨ b = a) H1 b = some o := by
        intro b o hb ho ho2
        obtain ⟨h5, h6⟩ := fz_some hb
        have h7 : ¬ Mt (fun b => Y b ∧ ∀ i, (i, b) ∈ ow → i ∉ is) ρ1 b := fun z => h5 (.inl z)
        obtain ⟨h8, _⟩ := fz_some (low b o (by rw [fz_eq h7]; exact h6) ho ho2)
        rw [fz_eq]
        · exact h6
        · rintro (z | z)
          · exact h8 z
          · exact h5 (.inr z)
      have r4 := h4.lf low2 hl'.2
      refine q _ H1 ρ1 t1 st1 (.lst (vs := vs) ?_ ?_) fun _ ys e => ?_
      · rw [fz_eq nY]; exact h3
      · exact r4.mono List.prefix_rfl (fz_mono fun b o hn e => ⟨fun z => hn (.inl z), e⟩)
      · cases e
        exact ⟨a, vs, rfl, h2, h3, r4⟩
    · have hl' : listFree v = true := by
        unfold lendOk at hl
        split at hl
        · exact absurd ⟨_, rfl⟩ hv
        · exact hl
      exact q _ H1 ρ1 t1 st1 (r1.lf low hl') fun _ xs e => absurd ⟨xs, e⟩ hv
  · cases f
theorem e_lend {e : E} {x : Expr} (is : List Nat) (h : PE X x (simE p cf (B.filter fun i => !is.contains i) e)) : PE X x (simE p cf B (.lend is e)) := PE.imp h fun σ H Q => lendE_read is
end
end PyI

set_option maxRecDepth 100000
/-! PyI8: what a for walks: lists, tuples, texts, ranges, enumerate and zip over any of these. -/
namespace PyI
open PySem PySem.Spec PyProof.Rows L2

/-- a sequence that is walked -/
inductive SK where
  | l (a : Addr)
  | t (a : Addr)
  | s (x : Str) (u : Tok)
def SK.val : SK → Value
  | .l a => .ref a
  | .t a => .ref a
  | .s x u => .str x u
def SK.obj : SK → Obj
  | .l a => { cls := .type "list_iterator", data := .fields #[.ref a, .int 0 0] }
  | .t a => { cls := .type "tuple_iterator", data := .fields #[.ref a, .int 0 0] }
  | .s x u => { cls := .type (strIterType x), data := .fields #[.str x u, .int 0 0] }
/-- its items -/
def SK.vs (K : PySem.W.Frag) (H : Hp) : SK → List V → Prop
  | .l a, vs => SqL K H a vs
  | .t a, vs => SqT K H a vs
  | .s x _, vs => vs = x.cps.toList.map fun c => V.str ⟨#[c]⟩
def SK.iter : SK → Addr → Nat → Heap → Prop
  | .l a, it, i, h => h.IsListIter it a i
  | .t a, it, i, h => h.IsTupleIter it a i
  | .s x u, it, i, h => h.IsStrIter it (strIterType x) x u i
theorem SK.iter_at {k : SK} {it : Addr} {i : Nat} {h h' : Heap} (x : k.iter it i h) (e : ∀ o, h.get? it = some o → h'.get? it = some o) : k.iter it i h' := by
  cases k with
  | l a => exact Heap.IsListIter.at x e
  | t a => exact Heap.IsTupleIter.at x e
  | s y u =>
    obtain ⟨o, ho, r⟩ := x
    exact ⟨o, e o ho, r⟩
theorem SK.iter_obj {k : SK} {it : Addr} {i : Nat} {h : Heap} (x : k.iter it i h) : ∃ o, h.get? it = some o ∧ (∃ n, o.cls = .type n ∧ n ≠ "list" ∧ n ≠ "tuple") ∧ ∀ v, o.data ≠ .cell v := by
  cases k with
  | l a => obtain ⟨o, h1, h2, h3⟩ := x; exact ⟨o, h1, ⟨_, h2, by decide, by decide⟩, fun v z => by rw [h3] at z; cases z⟩
  | t a => obtain ⟨o, h1, h2, h3⟩ := x; exact ⟨o, h1, ⟨_, h2, by decide, by decide⟩, fun v z => by rw [h3] at z; cases z⟩
  | s y u =>
    obtain ⟨o, h1, h2, h3⟩ := x
    refine ⟨o, h1, ⟨_, h2, ?_, ?_⟩, fun v z => by rw [h3] at z; cases z⟩ <;> (unfold strIterType; split <;> decide)
theorem SK.iter0 {k : SK} {it : Addr} {h : Heap} (e : h.get? it = some k.obj) : k.iter it 0 h := by
  cases k with
  | l a => exact ⟨_, e, rfl, rfl⟩
  | t a => exact ⟨_, e, rfl, rfl⟩
  | s y u => exact ⟨_, e, rfl, rfl⟩
/-- at a state: how it is drawn from -/
theorem SK.draws {X : Cx} {pins : List (Addr × Obj)} {σ : L2.St} {H : Hp} {s : Shared} (I : L2.Inv X pins σ H s) (hc : X.calm = true) {k : SK} {vs : List V} (hv : k.vs X.K H vs) {it : Addr} {i : Nat} (hi : k.iter it i s.heap) :
    ∃ (fp : List Addr) (Pt : Nat → Value → Prop) (S : Nat → Heap → Prop), Draws X.prog X.w X.A.in1 it (it :: fp) vs.length Pt S ∧ S i s.heap ∧ (∀ j h, S j h → k.iter it j h) ∧ (∀ j v, Pt j v → ∃ x, vs[j]? = some x ∧ L2.RelV x v) ∧
      ∀ b ∈ fp, (k = .l b ∨ k = .t b) ∧ ∃ o n, s.heap.get? b = some o ∧ o.cls = .type n ∧ (n = "list" ∨ n = "tuple") := by
  obtain ⟨oi, hoi, ⟨ni, hni, hn1, hn2⟩, _⟩ := SK.iter_obj hi
  have hh : X.A.in1.handled = none := I.ok.hd hc
  cases k with
  | l a =>
    obtain ⟨its, rv, pl, _⟩ := I.list hv
    obtain ⟨o, ho, hcl, _⟩ := pl.isList
    have ne : a ≠ it := by rintro rfl; rw [hoi] at ho; cases ho; rw [hni] at hcl; cases hcl; exact hn1 rfl
    have D := Draws.list (prog := X.prog) (w := X.w) hh it a ne its.toArray
    rw [List.size_toArray, ← rv.length] at D
    refine ⟨[a], _, _, D, ⟨hi, pl.isList⟩, fun j h z => z.1, fun j v z => ?_, fun b hb => ?_⟩
    · have z' : its[j]? = some v := by simpa using z
      have hj : j < vs.length := by rw [rv.length]; exact (List.getElem?_eq_some_iff.mp z').1
      obtain ⟨u, h1, h2⟩ := rv.get (List.getElem?_eq_getElem hj)
      rw [z'] at h1
      cases h1
      exact ⟨_, List.getElem?_eq_getElem hj, h2⟩
    · have : b = a := by simpa using hb
      subst this
      exact ⟨.inl rfl, o, _, ho, hcl, .inl rfl⟩
  | t a =>
    obtain ⟨its, rv, pl, _⟩ := I.tuple hv
    obtain ⟨o, ho, hcl, _⟩ := id pl
    have ne : a ≠ it := by rintro rfl; rw [hoi] at ho; cases ho; rw [hni] at hcl; cases hcl; exact hn2 rfl
    have D := Draws.tuple (prog := X.prog) (w := X.w) hh it a ne its.toArray
    rw [List.size_toArray, ← rv.length] at D
    refine ⟨[a], _, _, D, ⟨hi, pl⟩, fun j h z => z.1, fun j v z => ?_, fun b hb => ?_⟩
    · have z' : its[j]? = some v := by simpa using z
      have hj : j < vs.length := by rw [rv.length]; exact (List.getElem?_eq_some_iff.mp z').1
      obtain ⟨u, h1, h2⟩ := rv.get (List.getElem?_eq_getElem hj)
      rw [z'] at h1
      cases h1
      exact ⟨_, List.getElem?_eq_getElem hj, h2⟩
    · have : b = a := by simpa using hb
      subst this
      exact ⟨.inr rfl, o, _, ho, hcl, .inr rfl⟩
  | s x u =>
    have hv' : vs = x.cps.toList.map fun c => V.str ⟨#[c]⟩ := hv
    subst hv'
    have D := Draws.text (prog := X.prog) (w := X.w) hh it x u
    have e : x.cps.size = (x.cps.toList.map fun c => V.str ⟨#[c]⟩).length := by simp
    rw [e] at D
    refine ⟨[], _, _, D, hi, fun j h z => z, fun j v ⟨c, w, h1, h2⟩ => ?_, fun b hb => by simp at hb⟩
    subst h2
    refine ⟨.str ⟨#[c]⟩, ?_, w, rfl⟩
    rw [List.getElem?_map, Array.getElem?_toList, h1]
    rfl
theorem SK.inj {X : Cx} {pins : List (Addr × Obj)} {σ : L2.St} {H : Hp} {s : Shared} (I : L2.Inv X pins σ H s) {k : SK} {vs ws : List V} (h : k.vs X.K H vs) (h' : k.vs X.K H ws) : vs = ws := by
  cases k with
  | l a => exact I.list_inj h h'
  | t a => exact I.tuple_inj h h'
  | s x u => exact (show vs = _ from h).trans (show ws = _ from h').symm
/-- how it begins -/
theorem SK.begins {X : Cx} {pins : List (Addr × Obj)} {σ : L2.St} {H : Hp} {s : Shared} (I : L2.Inv X pins σ H s) {k : SK} {vs : List V} (hv : k.vs X.K H vs) : ∃ G : Heap → Prop, Begins k.val k.obj G ∧ G s.heap := by
  cases k with
  | l a => obtain ⟨its, rv, pl, _⟩ := I.list hv; exact ⟨_, begins_list a its.toArray, pl.isList⟩
  | t a => obtain ⟨its, rv, pl, _⟩ := I.tuple hv; exact ⟨_, begins_tuple a its.toArray, pl⟩
  | s x u => exact ⟨_, begins_text x u, trivial⟩

/-! ### enumerate -/
def ItE (K : PySem.W.Frag) (k : SK) (k0 : Int) : L2.It :=
  ⟨fun i H => ∃ vs x, k.vs K H vs ∧ vs[i]? = some x, fun i H v H' => ∃ T x, v = .ref T ∧ H T = none ∧ H' = upd H T (.tup [.int (k0 + (i : Nat)), x]) ∧ ∀ vs, k.vs K H vs → vs[i]? = some x, fun i H => ∃ vs, k.vs K H vs ∧ vs.length = i⟩
theorem lo_ne {H : Hp} {s : Shared} {X : Cx} {pins : List (Addr × Obj)} {σ : L2.St} (I : L2.Inv X pins σ H s) {b T : Addr} {o : Obj} (e : s.heap.get? b = some o) (h : s.heap.objs.size ≤ T) : b ≠ T := by
  rintro rfl
  exact absurd (Nat.lt_of_lt_of_le (Heap.lt_size e) h) (Nat.lt_irrefl _)
theorem turn_enumE {P : Program} {w : World} {K : PySem.W.Frag} {elts : List Expr} {kk : Nat} {tpos : Pos} {k0 : Int} (k : SK) (e it : Addr) :
    Turn P w K (.Tuple elts kk tpos) (ItE K k k0) [e, it] e (fun i h => (∃ old, IsEnum h e it (k0 + (i : Int)) old) ∧ k.iter it i h ∧ e ≠ it) where
  mem := List.mem_cons_self
  obj := fun i h st b hb => by
    obtain ⟨⟨old, he⟩, hi, _⟩ := st
    rcases List.mem_cons.mp hb with z | z
    · rw [z]; exact ⟨_, he, fun v q => nomatch q⟩
    · have z : b = it := by simpa using z
      rw [z]
      obtain ⟨o, h1, _, h3⟩ := SK.iter_obj hi
      exact ⟨o, h1, h3⟩
  keep := fun i h h' st kp => let ⟨⟨old, he⟩, hi, hne⟩ := st; ⟨⟨old, kp e (by simp) _ he⟩, SK.iter_at hi fun o q => kp it (by simp) o q, hne⟩
  item := by
    intro X hP hw hK hc i pins s σ H E I hf st hg
    subst hP hw hK
    obtain ⟨⟨old, he⟩, hit, hne⟩ := st
    obtain ⟨vs, x, hv, hx⟩ := hg
    obtain ⟨fp, Pt, S, D, hS, hS2, hP2, hfp⟩ := SK.draws I hc hv hit
    have hef : e ∉ it :: fp := fun z => by
      rcases List.mem_cons.mp z with z | z
      · exact hne z
      · obtain ⟨_, o, n, h1, h2, h3⟩ := hfp e z
        rw [he] at h1
        cases h1
        cases h2
        rcases h3 with h3 | h3 <;> exact absurd h3 (by decide)
    have W := WalksT.enumFrom k0 D e hne hef List.mem_cons_self
    have hil : i < vs.length := (List.getElem?_eq_some_iff.mp hx).1
    refine W.item i s _ _ hil ⟨⟨old, he⟩, hS⟩ fun T vals h' tk hPt hT hTup hMid hk => ?_
    obtain ⟨t, y, hy, rfl⟩ := hPt
    obtain ⟨x', hx', ry⟩ := hP2 i y hy
    rw [hx] at hx'
    cases hx'
    refine ⟨_, rfl, W.go elts kk tpos i T { s with heap := h', toks := tk } _ _ hMid fun h'' hS'' hk'' => ?_⟩
    have hTe : T ∉ [e, it] := W.apart i T h' hMid
    have hT2 : h''.IsTuple T #[.int (k0 + (i : Int)) t, y] := hTup.at fun o q => hk'' T o hTe q
    have new : ObjOk X.prog X.w (upd H T (.tup [.int (k0 + (i : Nat)), x])) h'' T (.tup [.int (k0 + (i : Nat)), x]) :=
      ⟨(by show 2 ≤ sizeLine; decide), [.int (k0 + (i : Int)) t, y], .cons ⟨_, rfl⟩ (.cons ry .nil), hT2⟩
    have I1 : L2.Inv X pins σ (upd H T (.tup [.int (k0 + (i : Nat)), x])) { s with heap := h'', toks := tk } := I.turnedNew (ch := [e, it]) (fun b ob hb q => hk'' b ob hb (hk b ob hb q)) hf hT new
    have oi := SK.iter_obj hit
    obtain ⟨oi, hoi, _⟩ := oi
    refine ⟨.ref T, _, I1, rfl, ⟨T, x, rfl, I.hok.fresh hT, rfl, fun ys hys => by rw [SK.inj I hys hv]; exact hx⟩, ⟨hS''.1, hS2 _ _ hS''.2, hne⟩, fun b hb => ?_⟩
    have hbT : b ≠ T := by
      rcases List.mem_cons.mp hb with z | z
      · rw [z]; exact lo_ne I he hT
      · have z : b = it := by simpa using z
        rw [z]; exact lo_ne I hoi hT
    rw [upd_ne hbT]
    exact (hf b hb).1
  done := by
    intro X hP hw hK hc i pins s σ H E I hf st hg
    subst hP hw hK
    obtain ⟨⟨old, he⟩, hit, hne⟩ := st
    obtain ⟨vs, hv, hx⟩ := hg
    subst hx
    obtain ⟨fp, Pt, S, D, hS, hS2, hP2, hfp⟩ := SK.draws I hc hv hit
    have hef : e ∉ it :: fp := fun z => by
      rcases List.mem_cons.mp z with z | z
      · exact hne z
      · obtain ⟨_, o, n, h1, h2, h3⟩ := hfp e z
        rw [he] at h1
        cases h1
        cases h2
        rcases h3 with h3 | h3 <;> exact absurd h3 (by decide)
    have W := WalksT.enumFrom k0 D e hne hef List.mem_cons_self
    exact W.done s _ _ ⟨⟨old, he⟩, hS⟩ fun h' tk hk => ⟨rfl, I.turnedL (ch := [e, it]) hk hf⟩
  self := fun A i s Q E st h => let ⟨⟨_, he⟩, _⟩ := st; wpAny_pyIter_enum he h
set_option maxHeartbeats 1000000 in
theorem enum_new1 {v : Value} {o : Obj} {G : Heap → Prop} (Bg : Begins v o G) :
    Meets (Builtin.«enumerate.__new__» ⟨[.type "enumerate", v], []⟩) (fun _ R s => G s.heap ∧ R (.ok (.ret (.ref (s.heap.push o).objs.size)))
      { s with heap := (s.heap.push o).push { cls := .type "enumerate", data := .fields #[.none, .bool false, .ref s.heap.objs.size, rawInt 0, .none, .none] } }) :=
  .of_wp fun prog w A R s h => by
    obtain ⟨hp, gn, dr, tk, os⟩ := s
    obtain ⟨h1, h⟩ := h
    have hsub := sub_enumerate
    have q1 : ∀ {A' : Around} {E : Value → Shared → Prop} {Q : Value → Shared → Prop}, Q (.ref hp.objs.size) ⟨hp.push o, gn, dr, tk, os⟩ → wpAny (model prog w) A' (pyIter v) Q E ⟨hp, gn, dr, tk, os⟩ :=
      fun q => Bg.iter prog w _ _ ⟨hp, gn, dr, tk, os⟩ _ h1 q
    wp_walk using q1
    refine (wpAny_stack_any fun stk => (wpAny_pure ?_))
    split
    · rename_i c _ _ _ _ _
      cases (c == Value.type "enumerate") <;> (wp_walk using q1; exact ⟨_, rfl, h⟩)
    · wp_walk using q1
      exact ⟨_, rfl, h⟩
theorem enum_begins1 {prog : Program} {w : World} {A : Around} {E : Value → Shared → Prop} {s : Shared} {v : Value} {o : Obj} {G : Heap → Prop} {Q : Value → Shared → Prop} (Bg : Begins v o G) (h1 : G s.heap)
    (h : ∀ h', IsEnum h' (s.heap.objs.size + 1) s.heap.objs.size 0 .none → h'.get? s.heap.objs.size = some o → (∀ b o, s.heap.get? b = some o → h'.get? b = some o) → Q (.ref (s.heap.objs.size + 1)) { s with heap := h' }) :
    wpAny (model prog w) A (call (.type "enumerate") [v]) Q E s := by
  refine callType_new F.called_enumerate (by decide) (F.typeCall_enumerate_1 _) (F.newCall_enumerate_1 _) (fun obj => F.args_object_init_2 obj _) F.entry_enumerate_new (enum_new1 Bg) ⟨h1, ?_⟩
  have hz : (s.heap.push o).objs.size = s.heap.objs.size + 1 := Heap.size_push ..
  show _ ∧ _
  rw [hz]
  have g1 : ((s.heap.push o).push { cls := .type "enumerate", data := .fields #[.none, .bool false, .ref s.heap.objs.size, rawInt 0, .none, .none] }).get? (s.heap.objs.size + 1) = some { cls := .type "enumerate", data := .fields #[.none, .bool false, .ref s.heap.objs.size, rawInt 0, .none, .none] } := by
    rw [← hz]; exact Heap.get?_push_size _ rfl
  exact ⟨⟨_, g1, rfl⟩, h _ g1 (Heap.get?_push_of_some _ (Heap.get?_push_size _ Bg.free)) fun b o' e => Heap.get?_push_of_some _ (Heap.get?_push_of_some _ e)⟩
/-! ### zip -/
def ItZ (K : PySem.W.Frag) (k l : SK) : L2.It :=
  ⟨fun i H => ∃ vs ws x y, k.vs K H vs ∧ l.vs K H ws ∧ vs[i]? = some x ∧ ws[i]? = some y,
    fun i H v H' => ∃ T x y, v = .ref T ∧ H T = none ∧ H' = upd H T (.tup [x, y]) ∧ (∀ vs, k.vs K H vs → vs[i]? = some x) ∧ ∀ ws, l.vs K H ws → ws[i]? = some y,
    fun i H => ∃ vs ws, k.vs K H vs ∧ l.vs K H ws ∧ min vs.length ws.length = i⟩
structure ZA (k l : SK) (z TI TO i1 i2 : Addr) : Prop where
  a1 : TI ≠ z
  a2 : TO ≠ z
  a3 : TI ≠ TO
  a4 : TI ≠ i1
  a5 : TI ≠ i2
  a6 : z ≠ i1
  a7 : z ≠ i2
  a8 : TO ≠ i1
  a9 : TO ≠ i2
  a10 : i1 ≠ i2
  a11 : ∀ b, (k = .l b ∨ k = .t b) ∨ (l = .l b ∨ l = .t b) → b ≠ TO
def ZSt (k l : SK) (z TI TO i1 i2 : Addr) (i : Nat) (h : Heap) : Prop := IsZip h z TI TO .none ∧ IsTupOf2 h TI (.ref i1) (.ref i2) ∧ (∃ a1 a2, IsTupOf2 h TO a1 a2) ∧ k.iter i1 i h ∧ l.iter i2 i h
theorem zip_walk {X : Cx} {pins : List (Addr × Obj)} {σ : L2.St} {H : Hp} {s : Shared} (I : L2.Inv X pins σ H s) (hc : X.calm = true) {k l : SK} {vs ws : List V} (hv : k.vs X.K H vs) (hw : l.vs X.K H ws) {z TI TO i1 i2 : Addr} (D : ZA k l z TI TO i1 i2) {i : Nat}
    (st : ZSt k l z TI TO i1 i2 i s.heap) :
    ∃ (fp : List Addr) (Pt : Nat → Array Value → Prop) (S : Nat → Heap → Prop) (Mid : Nat → Addr → Heap → Prop), WalksT X.prog X.w X.A z fp [z, TO, i1, i2] (min vs.length ws.length) Pt S Mid ∧ S i s.heap ∧ (∀ j h, S j h → ZSt k l z TI TO i1 i2 j h) ∧
      ∀ j vals, Pt j vals → ∃ x y u v, vs[j]? = some x ∧ ws[j]? = some y ∧ L2.RelV x u ∧ L2.RelV y v ∧ vals = #[u, v] := by
  obtain ⟨hz, hTI, hTO, h1, h2⟩ := st
  obtain ⟨fp1, P1, S1, D1, s1, t1, p1, f1⟩ := SK.draws I hc hv h1
  obtain ⟨fp2, P2, S2, D2, s2, t2, p2, f2⟩ := SK.draws I hc hw h2
  obtain ⟨o1, ho1, ⟨n1, hn1, hl1, ht1⟩, _⟩ := SK.iter_obj h1
  obtain ⟨o2, ho2, ⟨n2, hn2, hl2, ht2⟩, _⟩ := SK.iter_obj h2
  have ap : ∀ (fp : List Addr) (kk : SK), (∀ b ∈ fp, (kk = .l b ∨ kk = .t b) ∧ ∃ o n, s.heap.get? b = some o ∧ o.cls = .type n ∧ (n = "list" ∨ n = "tuple")) → z ∉ fp ∧ i1 ∉ fp ∧ i2 ∉ fp := by
    intro fp kk f
    refine ⟨fun m => ?_, fun m => ?_, fun m => ?_⟩
    · obtain ⟨_, o, n, e1, e2, e3⟩ := f _ m
      rw [hz] at e1
      cases e1
      cases e2
      rcases e3 with e3 | e3 <;> exact absurd e3 (by decide)
    · obtain ⟨_, o, n, e1, e2, e3⟩ := f _ m
      rw [ho1] at e1
      cases e1
      rw [hn1] at e2
      cases e2
      rcases e3 with e3 | e3
      · exact hl1 e3
      · exact ht1 e3
    · obtain ⟨_, o, n, e1, e2, e3⟩ := f _ m
      rw [ho2] at e1
      cases e1
      rw [hn2] at e2
      cases e2
      rcases e3 with e3 | e3
      · exact hl2 e3
      · exact ht2 e3
  obtain ⟨z1, _, j1⟩ := ap fp1 k f1
  obtain ⟨z2, j2, _⟩ := ap fp2 l f2
  have sep : ZipSep2 z TI TO i1 i2 (i1 :: fp1) (i2 :: fp2) := {
    TIz := D.a1, TOz := D.a2, TITO := D.a3, TIi1 := D.a4, mem1 := List.mem_cons_self, TIi2 := D.a5, mem2 := List.mem_cons_self
    zf1 := fun m => (List.mem_cons.mp m).elim D.a6 z1
    zf2 := fun m => (List.mem_cons.mp m).elim D.a7 z2
    Tf1 := fun m => (List.mem_cons.mp m).elim D.a8 fun m => D.a11 _ (.inl (f1 _ m).1) rfl
    Tf2 := fun m => (List.mem_cons.mp m).elim D.a9 fun m => D.a11 _ (.inr (f2 _ m).1) rfl
    sep1_2 := fun m => (List.mem_cons.mp m).elim D.a10 j2
    sep2_1 := fun m => (List.mem_cons.mp m).elim (Ne.symm D.a10) j1 }
  refine ⟨_, _, _, _, WalksT.zipD2 sep D1 D2, ⟨hz, hTI, hTO, s1, s2⟩, fun j h q => ⟨q.1, q.2.1, q.2.2.1, t1 _ _ q.2.2.2.1, t2 _ _ q.2.2.2.2⟩, fun j vals q => ?_⟩
  obtain ⟨u, v, q1, q2, rfl⟩ := q
  obtain ⟨x, e1, r1⟩ := p1 _ _ q1
  obtain ⟨y, e2, r2⟩ := p2 _ _ q2
  exact ⟨x, y, u, v, e1, e2, r1, r2, rfl⟩
theorem turn_zipE {P : Program} {w : World} {K : PySem.W.Frag} {elts : List Expr} {kk : Nat} {tpos : Pos} {k l : SK} {z TI TO i1 i2 : Addr} (D : ZA k l z TI TO i1 i2) :
    Turn P w K (.Tuple elts kk tpos) (ItZ K k l) [z, TI, TO, i1, i2] z (ZSt k l z TI TO i1 i2) where
  mem := List.mem_cons_self
  obj := fun i h st b hb => by
    obtain ⟨hz, hTI, ⟨x, y, hTO⟩, h1, h2⟩ := st
    obtain ⟨o1, ho1, _, d1⟩ := SK.iter_obj h1
    obtain ⟨o2, ho2, _, d2⟩ := SK.iter_obj h2
    have hb' : b = z ∨ b = TI ∨ b = TO ∨ b = i1 ∨ b = i2 := by simpa using hb
    rcases hb' with q | q | q | q | q <;> subst q
    · exact ⟨_, hz, fun v q => nomatch q⟩
    · exact ⟨_, hTI, fun v q => nomatch q⟩
    · exact ⟨_, hTO, fun v q => nomatch q⟩
    · exact ⟨o1, ho1, d1⟩
    · exact ⟨o2, ho2, d2⟩
  keep := fun i h h' st kp => by
    obtain ⟨hz, hTI, ⟨x, y, hTO⟩, h1, h2⟩ := st
    exact ⟨kp z (by simp) _ hz, kp TI (by simp) _ hTI, ⟨x, y, kp TO (by simp) _ hTO⟩, SK.iter_at h1 fun o q => kp i1 (by simp) o q, SK.iter_at h2 fun o q => kp i2 (by simp) o q⟩
  item := by
    intro X hP hw hK hc i pins s σ H E I hf st hg
    subst hP hw hK
    obtain ⟨vs, ws, x, y, hv, hw, hx, hy⟩ := hg
    obtain ⟨fp, Pt, S, Mid, W, hS, hS2, hPt⟩ := zip_walk I hc hv hw D st
    have hil : i < min vs.length ws.length := by
      have h1 := (List.getElem?_eq_some_iff.mp hx).1
      have h2 := (List.getElem?_eq_some_iff.mp hy).1
      omega
    refine W.item i s _ _ hil hS fun T vals h' tk hp hT hTup hMid hk => ?_
    obtain ⟨x', y', u, v, e1, e2, r1, r2, rfl⟩ := hPt _ _ hp
    rw [hx] at e1
    rw [hy] at e2
    cases e1
    cases e2
    refine ⟨_, rfl, W.go elts kk tpos i T { s with heap := h', toks := tk } _ _ hMid fun h'' hS'' hk'' => ?_⟩
    have hTe : T ∉ [z, TO, i1, i2] := W.apart i T h' hMid
    have sub : ∀ b, b ∉ [z, TI, TO, i1, i2] → b ∉ [z, TO, i1, i2] := fun b hb m => hb (by
      have m' : b = z ∨ b = TO ∨ b = i1 ∨ b = i2 := by simpa using m
      rcases m' with q | q | q | q <;> simp [q])
    have new : ObjOk X.prog X.w (upd H T (.tup [x, y])) h'' T (.tup [x, y]) := ⟨(by show 2 ≤ sizeLine; decide), [u, v], .cons r1 (.cons r2 .nil), hTup.at fun o q => hk'' T o hTe q⟩
    have I1 : L2.Inv X pins σ (upd H T (.tup [x, y])) { s with heap := h'', toks := tk } := I.turnedNew (ch := [z, TI, TO, i1, i2]) (fun b ob hb q => hk'' b ob (sub b hb) (hk b ob (sub b hb) q)) hf hT new
    refine ⟨.ref T, _, I1, rfl, ⟨T, x, y, rfl, I.hok.fresh hT, rfl, fun us hus => by rw [SK.inj I hus hv]; exact hx, fun us hus => by rw [SK.inj I hus hw]; exact hy⟩, hS2 _ _ hS'', fun b hb => ?_⟩
    obtain ⟨hz, hTI, ⟨x0, y0, hTO⟩, h1, h2⟩ := st
    obtain ⟨o1, ho1, _⟩ := SK.iter_obj h1
    obtain ⟨o2, ho2, _⟩ := SK.iter_obj h2
    have hbT : b ≠ T := by
      have hb' : b = z ∨ b = TI ∨ b = TO ∨ b = i1 ∨ b = i2 := by simpa using hb
      rcases hb' with q | q | q | q | q <;> rw [q]
      · exact lo_ne I hz hT
      · exact lo_ne I hTI hT
      · exact lo_ne I hTO hT
      · exact lo_ne I ho1 hT
      · exact lo_ne I ho2 hT
    rw [upd_ne hbT]
    exact (hf b hb).1
  done := by
    intro X hP hw hK hc i pins s σ H E I hf st hg
    subst hP hw hK
    obtain ⟨vs, ws, hv, hw, hi⟩ := hg
    subst hi
    obtain ⟨fp, Pt, S, Mid, W, hS, hS2, hPt⟩ := zip_walk I hc hv hw D st
    refine W.done s _ _ hS fun h' tk hk => ⟨rfl, I.turnedL (ch := [z, TI, TO, i1, i2]) (fun b ob hb q => hk b ob (fun m => hb ?_) q) hf⟩
    have m' : b = z ∨ b = TO ∨ b = i1 ∨ b = i2 := by simpa using m
    rcases m' with q | q | q | q <;> simp [q]
  self := fun A i s Q E st h => wpAny_pyIter_zip st.1 h

/-! ### as what a for walks -/
/-- a value that is a sequence, of which as a source S holds -/
def SKR (K : PySem.W.Frag) (x : V) (H : Hp) (vs : List V) (S : SK → Prop) : Prop := (∃ a, x = .ref a ∧ SqL K H a vs ∧ S (.l a)) ∨ (∃ a, x = .ref a ∧ SqT K H a vs ∧ S (.t a)) ∨ ∃ z : Str, x = .str z ∧ vs = (z.cps.toList.map fun c => V.str ⟨#[c]⟩) ∧ ∀ t, S (.s z t)
theorem SKR.of {K : PySem.W.Frag} {x : V} {H : Hp} {vs : List V} {S : SK → Prop} {u : Value} (h : SKR K x H vs S) (r : L2.RelV x u) : ∃ k : SK, k.val = u ∧ k.vs K H vs ∧ S k := by
  rcases h with ⟨a, rfl, h, q⟩ | ⟨a, rfl, h, q⟩ | ⟨z, rfl, h, q⟩
  · cases r; exact ⟨.l a, rfl, h, q⟩
  · cases r; exact ⟨.t a, rfl, h, q⟩
  · obtain ⟨t, rfl⟩ := r; exact ⟨.s z t, rfl, h, q t⟩
section
variable {X : Cx}
theorem pi_enumE {e : Expr} {ta : TA} {pp pos tpos : Pos} {elts : List Expr} {kk : Nat} (hg : Gl X "enumerate") (hm : X.mg "enumerate" = none) (ha : PA X [e] ta) (hs : starEach [e] X.env = [(false, eval e X.env)]) :
    PI X (.Tuple elts kk tpos) (.Call (.Name "enumerate" pp) [e] [] pos) (fun σ H R => ta σ H fun vs H1 => ∃ x us, vs = [x] ∧ SKR X.K x H1 us fun k => R (ItE X.K k 0) H1) := by
  refine ⟨fun pins s σ H R I h => ?_⟩
  refine Call_ (ld_blt I hg hm boot_enumerate (PyProof.Rows.callWith_type1 (thn (ha.run pos pins s σ H _ I h) fun us s1 ⟨vs, H1, I1, r1, q1⟩ => ?_) hs rfl))
  obtain ⟨x, ws, rfl, hq⟩ := q1
  obtain ⟨u, rfl, rx⟩ := vals1 r1
  obtain ⟨k, rfl, hk, q⟩ := hq.of rx
  obtain ⟨G, Bg, g1⟩ := SK.begins I1 hk
  refine enum_begins1 Bg g1 fun h' he ho hkp => wpAny_pyIter_enum he ?_
  have I2 : L2.Inv X pins σ H1 { s1 with heap := h' } := I1.kept (t' := s1.toks) hkp
  refine ⟨s1.heap.objs.size + 1, [s1.heap.objs.size + 1, s1.heap.objs.size], _, _, H1, rfl, I2, turn_enumE (k0 := 0) k (s1.heap.objs.size + 1) s1.heap.objs.size, ⟨⟨.none, he⟩, SK.iter0 ho, Nat.succ_ne_self _⟩, fun b hb => ?_, q⟩
  have hle : s1.heap.objs.size ≤ b := by
    rcases List.mem_cons.mp hb with z | z
    · rw [z]; exact Nat.le_add_right _ _
    · have z : b = s1.heap.objs.size := by simpa using z
      rw [z]; exact Nat.le_refl _
  exact I1.fpOk hle (I1.hok.fresh hle)
theorem pi_enumE2 {e e2 : Expr} {ta : TA} {pp pos tpos : Pos} {elts : List Expr} {kk : Nat} (hg : Gl X "enumerate") (hm : X.mg "enumerate" = none) (ha : PA X [e, e2] ta) (hs : starEach [e, e2] X.env = (false, eval e X.env) :: starEach [e2] X.env) (hpl : (backTo pos (starEach [e2] X.env)).any (·.1) = false) :
    PI X (.Tuple elts kk tpos) (.Call (.Name "enumerate" pp) [e, e2] [] pos) (fun σ H R => ta σ H fun vs H1 => ∃ x us i, vs = [x, .int i] ∧ lim62 i = true ∧ SKR X.K x H1 us fun k => R (ItE X.K k i) H1) := by
  refine ⟨fun pins s σ H R I h => ?_⟩
  refine Call_ (ld_blt I hg hm boot_enumerate (PyProof.Rows.callWith_type1 (thn (ha.run pos pins s σ H _ I h) fun us s1 ⟨vs, H1, I1, r1, q1⟩ => ?_) hs hpl))
  obtain ⟨x, ws, i, rfl, hl, hq⟩ := q1
  obtain ⟨u, u2, rfl, rx, t, rfl⟩ := vals2 r1
  obtain ⟨k, rfl, hk, q⟩ := hq.of rx
  obtain ⟨G, Bg, g1⟩ := SK.begins I1 hk
  have hl' : -(2 ^ 62) ≤ i ∧ i < 2 ^ 62 := by simpa [lim62] using hl
  refine enum_begins Bg g1 (by omega) (by omega) fun h' he ho _ hkp => wpAny_pyIter_enum he ?_
  have I2 : L2.Inv X pins σ H1 { s1 with heap := h' } := I1.kept (t' := s1.toks) hkp
  refine ⟨s1.heap.objs.size + 1, [s1.heap.objs.size + 1, s1.heap.objs.size], _, _, H1, rfl, I2, turn_enumE (k0 := i) k (s1.heap.objs.size + 1) s1.heap.objs.size, ⟨⟨.none, by rw [show i + ((0 : Nat) : Int) = i by omega]; exact he⟩, SK.iter0 ho, Nat.succ_ne_self _⟩, fun b hb => ?_, q⟩
  have hle : s1.heap.objs.size ≤ b := by
    rcases List.mem_cons.mp hb with z | z
    · rw [z]; exact Nat.le_add_right _ _
    · have z : b = s1.heap.objs.size := by simpa using z
      rw [z]; exact Nat.le_refl _
  exact I1.fpOk hle (I1.hok.fresh hle)
theorem pi_zipE {e e2 : Expr} {ta : TA} {pp pos tpos : Pos} {elts : List Expr} {kk : Nat} (hg : Gl X "zip") (hm : X.mg "zip" = none) (ha : PA X [e, e2] ta) (hs : starEach [e, e2] X.env = (false, eval e X.env) :: starEach [e2] X.env) (hpl : (backTo pos (starEach [e2] X.env)).any (·.1) = false) :
    PI X (.Tuple elts kk tpos) (.Call (.Name "zip" pp) [e, e2] [] pos) (fun σ H R => ta σ H fun vs H1 => ∃ x y us ws, vs = [x, y] ∧ SKR X.K x H1 us fun k => SKR X.K y H1 ws fun l => R (ItZ X.K k l) H1) := by
  refine ⟨fun pins s σ H R I h => ?_⟩
  refine Call_ (ld_blt I hg hm PyProof.Rows.boot_zip (PyProof.Rows.callWith_type1 (thn (ha.run pos pins s σ H _ I h) fun us s1 ⟨vs, H1, I1, r1, q1⟩ => ?_) hs hpl))
  obtain ⟨x, y, ws, zs, rfl, hq⟩ := q1
  obtain ⟨u, u2, rfl, rx, ry⟩ := vals2 r1
  obtain ⟨k, rfl, hk, hq2⟩ := hq.of rx
  obtain ⟨l, rfl, hl, q⟩ := hq2.of ry
  obtain ⟨G, Bg, g1⟩ := SK.begins I1 hk
  obtain ⟨G2, Bg2, g2⟩ := SK.begins I1 hl
  refine zip_begins2 Bg Bg2 g1 g2 fun h' hz hTI hTO h1 h2 _ hkp => wpAny_pyIter_zip hz ?_
  have I2 : L2.Inv X pins σ H1 { s1 with heap := h' } := I1.kept (t' := s1.toks) hkp
  have lt : ∀ (kk : SK) (us : List V), kk.vs X.K H1 us → ∀ b, (kk = .l b ∨ kk = .t b) → b < s1.heap.objs.size := by
    intro kk us hv b hb
    rcases hb with rfl | rfl
    · obtain ⟨its, rv, pl, _⟩ := I1.list hv
      exact pl.lt
    · obtain ⟨its, rv, pl, _⟩ := I1.tuple hv
      exact pl.lt
  have ne : ∀ a b : Nat, a ≠ b → s1.heap.objs.size + a ≠ s1.heap.objs.size + b := fun a b h e => h (Nat.add_left_cancel e)
  have D : ZA k l (s1.heap.objs.size + 4) (s1.heap.objs.size + 2) (s1.heap.objs.size + 3) s1.heap.objs.size (s1.heap.objs.size + 1) :=
    ⟨ne 2 4 (by decide), ne 3 4 (by decide), ne 2 3 (by decide), ne 2 0 (by decide), ne 2 1 (by decide), ne 4 0 (by decide), ne 4 1 (by decide), ne 3 0 (by decide), ne 3 1 (by decide), ne 0 1 (by decide), fun b hb e => by
      have h5 : b < s1.heap.objs.size := hb.elim (lt k _ hk b) (lt l _ hl b)
      rw [e] at h5
      exact absurd (Nat.lt_of_le_of_lt (Nat.le_add_right _ _) h5) (Nat.lt_irrefl _)⟩
  refine ⟨s1.heap.objs.size + 4, [s1.heap.objs.size + 4, s1.heap.objs.size + 2, s1.heap.objs.size + 3, s1.heap.objs.size, s1.heap.objs.size + 1], _, _, H1, rfl, I2, turn_zipE D, ⟨hz, hTI, ⟨_, _, hTO⟩, SK.iter0 h1, SK.iter0 h2⟩, fun b hb => ?_, q⟩
  have hle : s1.heap.objs.size ≤ b := by
    have hb' : b = s1.heap.objs.size + 4 ∨ b = s1.heap.objs.size + 2 ∨ b = s1.heap.objs.size + 3 ∨ b = s1.heap.objs.size ∨ b = s1.heap.objs.size + 1 := by simpa using hb
    rcases hb' with z | z | z | z | z <;> rw [z] <;> first | exact Nat.le_add_right _ _ | exact Nat.le_refl _
  exact I1.fpOk hle (I1.hok.fresh hle)
end
end PyI

set_option maxRecDepth 100000
/-! PyIW: zip with a plain name as target: the tuples stay alive. -/
namespace PyI
open PySem PySem.Spec PyProof.Rows L2
abbrev ZipF (h : Heap) (z TI TO : Addr) (x0 f : Value) : Prop :=
  h.get? z = some { cls := .type "zip", dict := none, data := .fields #[x0, f, .bool false, .ref TI, .ref TO], slots := #[] }
/-- whatever became of the tuple given out -/
def ZipW (h : Heap) (z TI TO : Addr) : Prop := ∃ x0 f, ZipF h z TI TO x0 f ∧ (x0 = .none ∨ ∃ T : Nat, x0 = rawInt T)
section
variable {prog : Program} {w : World} {A : Around} {E : Value → Shared → Prop} {s : Shared} {z TI TO i1 i2 : Addr} {fp1 fp2 : List Addr} {n1 n2 i : Nat} {P1 P2 : Nat → Value → Prop} {St1 St2 : Nat → Heap → Prop} {a1 a2 : Value}
theorem ZipW.kept {h h' : Heap} (x : ZipW h z TI TO) (e : ∀ o, h.get? z = some o → h'.get? z = some o) : ZipW h' z TI TO := by
  obtain ⟨x0, f, hz, hx⟩ := x
  exact ⟨x0, f, e _ hz, hx⟩
theorem alive_w {a : Addr} {Q : Option Obj → Shared → Prop} (h : Q (s.heap.get? a) s) : wpAny (model prog w) A (loadIfAlive a) Q E s := fun _ _ _ => h
theorem free_w {Q : Bool → Shared → Prop} (hz : ZipW s.heap z TI TO) (h : ∀ b h', ZipW h' z TI TO → Heap.SameBut z s.heap h' → Q b { s with heap := h' }) : wpAny (model prog w) A (Builtin.SmallTypes.ownedTupleIsFree (.ref z)) Q E s := by
  obtain ⟨x0, f, hz, hx⟩ := hz
  have keep : ∀ b, Q b s := fun b => h b s.heap ⟨x0, f, hz, hx⟩ (Heap.SameBut.refl _ _)
  unfold Builtin.SmallTypes.ownedTupleIsFree
  rcases hx with rfl | ⟨T, rfl⟩
  · exact wpAny_bind (wpAny_field hz rfl (x := .none) rfl (wpAny_pure (keep true)))
  · refine wpAny_bind (wpAny_field hz rfl (x := rawInt T) rfl ?_)
    show wpAny _ _ (loadIfAlive ((T : Int).toNat) >>= _) _ _ _
    rw [Int.toNat_natCast]
    refine wpAny_bind (alive_w ?_)
    cases hT : s.heap.get? T with
    | none =>
      simp only [Option.isNone_none, if_true]
      exact wpAny_pure (keep true)
    | some oT =>
      simp only [Option.isNone_some, Bool.false_eq_true, if_false]
      refine wpAny_bind (wpAny_field hz rfl (x := f) rfl ?_)
      by_cases hf : (f != Value.bool true) = true
      · rw [if_pos hf]
        exact wpAny_bind (wpAny_setField_rec hz (by simp) fun h₁ hz₁ hs₁ => wpAny_pure (h false h₁ ⟨_, _, hz₁, .inr ⟨T, rfl⟩⟩ hs₁))
      · rw [if_neg hf]
        exact wpAny_pure (keep false)
theorem item_w {Q : Value → Shared → Prop} (S : ZipSep2 z TI TO i1 i2 fp1 fp2) (D1 : Draws prog w A i1 fp1 n1 P1 St1) (D2 : Draws prog w A i2 fp2 n2 P2 St2)
    (hz : ZipW s.heap z TI TO) (hTI : IsTupOf2 s.heap TI (.ref i1) (.ref i2)) (hTO : IsTupOf2 s.heap TO a1 a2) (st1 : St1 i s.heap) (st2 : St2 i s.heap) (hlt1 : i < n1) (hlt2 : i < n2)
    (hQ : ∀ x1 x2 h' tk, P1 i x1 → P2 i x2 → ZipW h' z TI TO → (∃ b1 b2, IsTupOf2 h' TO b1 b2) → St1 (i + 1) h' → St2 (i + 1) h' → IsTupOf2 h' s.heap.objs.size x1 x2 → h'.objs.size = s.heap.objs.size + 1 →
      (∀ c o, c ≠ z → c ≠ TO → c ≠ i1 → c ≠ i2 → s.heap.get? c = some o → h'.get? c = some o) → Q (.ref s.heap.objs.size) { s with heap := h', toks := tk }) :
    wpAny (model prog w) A (Builtin.«zip.__next__» ⟨[.ref z], []⟩) (fun fin s' => ∃ v, fin = .done (.ret v) ∧ Q v s') E s := by
  obtain ⟨hp, g, d, tk0, os⟩ := s
  obtain ⟨x0, f0, hzf, hx0⟩ := id hz
  show wpAny _ _ (field (.ref z) 2 >>= _) _ _ _
  refine wpAny_bind (wpAny_field hzf rfl (x := .bool false) rfl ?_)
  show wpAny _ _ (field (.ref z) 3 >>= _) _ _ _
  refine wpAny_bind (wpAny_field hzf rfl (x := .ref TI) rfl ?_)
  refine wpAny_bind (wpAny_seqItems hTI rfl ?_)
  show wpAny _ _ (Builtin.SmallTypes.ownedTupleIsFree (.ref z) >>= _) _ _ _
  refine wpAny_bind (free_w hz fun b h0 hzw hsw => ?_)
  replace hsw : Heap.SameBut z hp h0 := hsw
  clear hzf hx0
  obtain ⟨x0, f0, hz, hx0⟩ := hzw
  replace hz : ZipF h0 z TI TO x0 f0 := hz
  have hTO' : IsTupOf2 h0 TO a1 a2 := hsw.extBut _ _ S.TOz hTO
  have st1' : St1 i h0 := D1.over st1 hsw S.zf1
  have st2' : St2 i h0 := D2.over st2 hsw S.zf2
  cases b with
  | true =>
    simp only [if_true]
    refine wpAny_bind (wpAny_rule ?_)
    refine wpAny_bind (wpAny_field hz rfl (x := .ref TO) rfl ?_)
    refine wpAny_bind (wpAny_setField_rec hz (by simp) fun g0 hz0 hs0 => ?_)
    replace hz0 : ZipF g0 z TI TO .ellipsis f0 := hz0
    replace hs0 : Heap.SameBut z h0 g0 := hs0
    refine wpAny_bind ?_
    simp only [List.zipIdx_cons, List.zipIdx_nil, List.forIn_cons, List.forIn_nil]
    refine wpAny_bind (wpAny_bind (wpAny_onRaise ?_))
    show wpAny _ _ (Builtin.SmallTypes.nextOf (.ref i1) >>= _) _ _ ⟨g0, g, d, tk0, os⟩
    refine wpAny_bind (D1.item i _ _ _ hlt1 (D1.over st1' hs0 S.zf1) fun x1 p1 tk1 hx1 sn1 hp1 => wpAny_pure ?_)
    replace hp1 : Heap.SameBut i1 g0 p1 := hp1
    have hU1 : IsTupOf2 p1 TO a1 a2 := hp1.extBut _ _ S.Ti1 (hs0.extBut _ _ S.TOz hTO')
    refine wpAny_bind (wpAny_seqItems (s := ⟨p1, g, d, tk1, os⟩) hU1 rfl ?_)
    refine wpAny_bind (updateSeq_IsTupOf2 (s := ⟨p1, g, d, tk1, os⟩) hU1 fun g1 hT1 hs1 => ?_)
    replace hT1 : IsTupOf2 g1 TO x1 a2 := hT1
    replace hs1 : Heap.SameBut TO p1 g1 := hs1
    refine wpAny_bind (wpAny_letGo (wpAny_pure ?_))
    refine wpAny_bind (wpAny_bind (wpAny_onRaise ?_))
    show wpAny _ _ (Builtin.SmallTypes.nextOf (.ref i2) >>= _) _ _ ⟨g1, g, d, tk1, os⟩
    refine wpAny_bind (D2.item i _ _ _ hlt2 (D2.over (D2.over (D2.over st2' hs0 S.zf2) hp1 S.sep1_2) hs1 S.Tf2) fun x2 p2 tk2 hx2 sn2 hp2 => wpAny_pure ?_)
    replace hp2 : Heap.SameBut i2 g1 p2 := hp2
    have hU2 : IsTupOf2 p2 TO x1 a2 := hp2.extBut _ _ S.Ti2 hT1
    refine wpAny_bind (wpAny_seqItems (s := ⟨p2, g, d, tk2, os⟩) hU2 rfl ?_)
    refine wpAny_bind (updateSeq_IsTupOf2 (s := ⟨p2, g, d, tk2, os⟩) hU2 fun g2 hT2 hs2 => ?_)
    replace hT2 : IsTupOf2 g2 TO x1 x2 := hT2
    replace hs2 : Heap.SameBut TO p2 g2 := hs2
    refine wpAny_bind (wpAny_letGo (wpAny_pure (wpAny_pure ?_)))
    refine wpAny_bind (wpAny_seqItems (s := ⟨g2, g, d, tk2, os⟩) hT2 rfl ?_)
    refine wpAny_bind (wpAny_newTuple ?_)
    have hsz : g2.objs.size = hp.objs.size := by rw [hs2.1, hp2.1, hs1.1, hp1.1, hs0.1, hsw.1]
    have hzz : ZipF g2 z TI TO .ellipsis f0 := (hs2.extBut _ _ S.TOz.symm (hp2.extBut _ _ S.zi2 (hs1.extBut _ _ S.TOz.symm (hp1.extBut _ _ S.zi1 hz0))))
    have hkk : ∀ c o, c ≠ z → c ≠ TO → c ≠ i1 → c ≠ i2 → hp.get? c = some o → g2.get? c = some o := fun c o cz cT c1 c2 e =>
      (hs2.extBut _ _ cT (hp2.extBut _ _ c2 (hs1.extBut _ _ cT (hp1.extBut _ _ c1 (hs0.extBut _ _ cz (hsw.extBut _ _ cz e))))))
    have hj1 : St1 (i + 1) g2 := (D1.over (D1.over (D1.over sn1 hs1 S.Tf1) hp2 S.sep2_1) hs2 S.Tf1)
    have hj2 : St2 (i + 1) g2 := (D2.over sn2 hs2 S.Tf2)
    have hzlt : z < g2.objs.size := Heap.lt_size hzz
    show wpAny _ _ (Builtin.SmallTypes.ownedTupleHandOut (.ref z) (.ref g2.objs.size) >>= _) _ _ ⟨g2.push { cls := .type "tuple", data := .seq #[x1, x2] }, g, d, tk2, os⟩
    refine wpAny_bind ?_
    unfold Builtin.SmallTypes.ownedTupleHandOut
    have hz₆ : ZipF (g2.push { cls := .type "tuple", data := .seq #[x1, x2] }) z TI TO .ellipsis f0 := Heap.get?_push_of_some _ hzz
    refine wpAny_bind (wpAny_setField_rec hz₆ (by simp) fun h₇ hz₇ hs₇ => ?_)
    replace hz₇ : ZipF h₇ z TI TO (rawInt g2.objs.size) f0 := hz₇
    refine wpAny_setField_rec hz₇ (by simp) fun h₈ hz₈ hs₈ => ?_
    replace hz₈ : ZipF h₈ z TI TO (rawInt g2.objs.size) (.bool false) := hz₈
    replace hs₇ : Heap.SameBut z (g2.push { cls := .type "tuple", data := .seq #[x1, x2] }) h₇ := hs₇
    replace hs₈ : Heap.SameBut z h₇ h₈ := hs₈
    have up : ∀ c o, c ≠ z → g2.get? c = some o → h₈.get? c = some o := fun c o c1 e => hs₈.extBut _ _ c1 (hs₇.extBut _ _ c1 (Heap.get?_push_of_some _ e))
    have hT₈ : IsTupOf2 h₈ g2.objs.size x1 x2 := hs₈.extBut _ _ (Nat.ne_of_gt hzlt) (hs₇.extBut _ _ (Nat.ne_of_gt hzlt) (Heap.get?_push_size _ rfl))
    have hz8 : h₈.objs.size = g2.objs.size + 1 := by rw [hs₈.1, hs₇.1, Heap.size_push]
    rw [hsz] at hz₈ hT₈ hz8
    refine wpAny_pure ⟨_, rfl, ?_⟩
    show Q (.ref g2.objs.size) ⟨h₈, g, d, tk2, os⟩
    rw [hsz]
    exact hQ x1 x2 h₈ tk2 hx1 hx2 ⟨_, _, hz₈, .inr ⟨_, rfl⟩⟩ ⟨_, _, up _ _ S.TOz hT2⟩ (D1.frame _ _ _ hj1 fun b hb o e => up b o (fun q => S.zf1 (q ▸ hb)) e) (D2.frame _ _ _ hj2 fun b hb o e => up b o (fun q => S.zf2 (q ▸ hb)) e) hT₈ hz8 fun c o cz cT c1 c2 e => up c o cz (hkk c o cz cT c1 c2 e)
  | false =>
    simp only [Bool.false_eq_true, if_false]
    refine wpAny_bind ?_
    rw [← Array.forIn_toList]
    simp only [List.forIn_cons, List.forIn_nil]
    refine wpAny_bind (wpAny_bind (wpAny_holding ?_))
    show wpAny _ _ (Builtin.SmallTypes.nextOf (.ref i1) >>= _) _ _ ⟨h0, g, d, tk0, os⟩
    refine wpAny_bind (D1.item i _ _ _ hlt1 st1' fun x1 p1 tk1 hx1 sn1 hp1 => wpAny_pure ?_)
    replace hp1 : Heap.SameBut i1 h0 p1 := hp1
    refine wpAny_pure ?_
    refine wpAny_bind (wpAny_bind (wpAny_holding ?_))
    show wpAny _ _ (Builtin.SmallTypes.nextOf (.ref i2) >>= _) _ _ ⟨p1, g, d, tk1, os⟩
    refine wpAny_bind (D2.item i _ _ _ hlt2 (D2.over st2' hp1 S.sep1_2) fun x2 p2 tk2 hx2 sn2 hp2 => wpAny_pure ?_)
    replace hp2 : Heap.SameBut i2 p1 p2 := hp2
    refine wpAny_pure (wpAny_pure ?_)
    show wpAny _ _ (newTuple [x1, x2] >>= _) _ _ ⟨p2, g, d, tk2, os⟩
    refine wpAny_bind (wpAny_newTuple ?_)
    have hsz : p2.objs.size = hp.objs.size := by rw [hp2.1, hp1.1, hsw.1]
    have hz2 : ZipF p2 z TI TO x0 f0 := hp2.extBut _ _ S.zi2 (hp1.extBut _ _ S.zi1 hz)
    have hT2 : IsTupOf2 p2 TO a1 a2 := hp2.extBut _ _ S.Ti2 (hp1.extBut _ _ S.Ti1 hTO')
    have hk : ∀ c o, c ≠ z → c ≠ TO → c ≠ i1 → c ≠ i2 → hp.get? c = some o → p2.get? c = some o := fun c o cz _ c1 c2 e => hp2.extBut _ _ c2 (hp1.extBut _ _ c1 (hsw.extBut _ _ cz e))
    have hj1 : St1 (i + 1) p2 := D1.over sn1 hp2 S.sep2_1
    have hj2 : St2 (i + 1) p2 := sn2
    refine wpAny_pure ⟨_, rfl, ?_⟩
    show Q (.ref p2.objs.size) ⟨p2.push { cls := .type "tuple", data := .seq #[x1, x2] }, g, d, tk2, os⟩
    have up : ∀ c o, p2.get? c = some o → (p2.push { cls := .type "tuple", data := .seq #[x1, x2] }).get? c = some o := fun c o e => Heap.get?_push_of_some _ e
    have hT₈ : IsTupOf2 (p2.push { cls := .type "tuple", data := .seq #[x1, x2] }) p2.objs.size x1 x2 := Heap.get?_push_size _ rfl
    have hz8 : (p2.push { cls := .type "tuple", data := .seq #[x1, x2] }).objs.size = p2.objs.size + 1 := Heap.size_push ..
    rw [hsz] at hT₈ hz8 ⊢
    exact hQ x1 x2 _ tk2 hx1 hx2 ⟨_, _, up _ _ hz2, hx0⟩ ⟨_, _, up _ _ hT2⟩ (D1.frame _ _ _ hj1 fun b _ o e => up b o e) (D2.frame _ _ _ hj2 fun b _ o e => up b o e) hT₈ hz8 fun c o cz cT c1 c2 e => up c o (hk c o cz cT c1 c2 e)
theorem end_w {Q : Fin → Shared → Prop} (S : ZipSep2 z TI TO i1 i2 fp1 fp2) (D1 : Draws prog w A i1 fp1 n1 P1 St1) (D2 : Draws prog w A i2 fp2 n2 P2 St2)
    (hz : ZipW s.heap z TI TO) (hTI : IsTupOf2 s.heap TI (.ref i1) (.ref i2)) (hTO : IsTupOf2 s.heap TO a1 a2) (st1 : St1 i s.heap) (st2 : St2 i s.heap) (hle1 : i ≤ n1) (hle2 : i ≤ n2) (hend : i = n1 ∨ i = n2)
    (hE : ∀ h' tk e, (∀ c o, c ≠ z → c ≠ TO → c ≠ i1 → c ≠ i2 → s.heap.get? c = some o → h'.get? c = some o) → (∃ o, h'.get? e = some o ∧ o.cls = .type "StopIteration") → E (.ref e) { s with heap := h', toks := tk }) :
    wpAny (model prog w) A (Builtin.«zip.__next__» ⟨[.ref z], []⟩) Q E s := by
  obtain ⟨hp, g, d, tk0, os⟩ := s
  obtain ⟨x0, f0, hzf, hx0⟩ := id hz
  show wpAny _ _ (field (.ref z) 2 >>= _) _ _ _
  refine wpAny_bind (wpAny_field hzf rfl (x := .bool false) rfl ?_)
  show wpAny _ _ (field (.ref z) 3 >>= _) _ _ _
  refine wpAny_bind (wpAny_field hzf rfl (x := .ref TI) rfl ?_)
  refine wpAny_bind (wpAny_seqItems hTI rfl ?_)
  show wpAny _ _ (Builtin.SmallTypes.ownedTupleIsFree (.ref z) >>= _) _ _ _
  refine wpAny_bind (free_w hz fun b h0 hzw hsw => ?_)
  replace hsw : Heap.SameBut z hp h0 := hsw
  clear hzf hx0
  obtain ⟨x0, f0, hz, hx0⟩ := hzw
  replace hz : ZipF h0 z TI TO x0 f0 := hz
  have hTO' : IsTupOf2 h0 TO a1 a2 := hsw.extBut _ _ S.TOz hTO
  have st1' : St1 i h0 := D1.over st1 hsw S.zf1
  have st2' : St2 i h0 := D2.over st2 hsw S.zf2
  cases b with
  | true =>
    simp only [if_true]
    refine wpAny_bind (wpAny_rule ?_)
    refine wpAny_bind (wpAny_field hz rfl (x := .ref TO) rfl ?_)
    refine wpAny_bind (wpAny_setField_rec hz (by simp) fun g0 hz0 hs0 => ?_)
    replace hz0 : ZipF g0 z TI TO .ellipsis f0 := hz0
    replace hs0 : Heap.SameBut z h0 g0 := hs0
    refine wpAny_bind ?_
    simp only [List.zipIdx_cons, List.zipIdx_nil, List.forIn_cons, List.forIn_nil]
    refine wpAny_bind (wpAny_bind (wpAny_onRaise ?_))
    show wpAny _ _ (Builtin.SmallTypes.nextOf (.ref i1) >>= _) _ _ ⟨g0, g, d, tk0, os⟩
    by_cases hlt1 : i < n1
    · refine wpAny_bind (D1.item i _ _ _ hlt1 (D1.over st1' hs0 S.zf1) fun x1 p1 tk1 hx1 sn1 hp1 => wpAny_pure ?_)
      replace hp1 : Heap.SameBut i1 g0 p1 := hp1
      have hU1 : IsTupOf2 p1 TO a1 a2 := hp1.extBut _ _ S.Ti1 (hs0.extBut _ _ S.TOz hTO')
      refine wpAny_bind (wpAny_seqItems (s := ⟨p1, g, d, tk1, os⟩) hU1 rfl ?_)
      refine wpAny_bind (updateSeq_IsTupOf2 (s := ⟨p1, g, d, tk1, os⟩) hU1 fun g1 hT1 hs1 => ?_)
      replace hT1 : IsTupOf2 g1 TO x1 a2 := hT1
      replace hs1 : Heap.SameBut TO p1 g1 := hs1
      refine wpAny_bind (wpAny_letGo (wpAny_pure ?_))
      have hi2 : i = n2 := by omega
      refine wpAny_bind (wpAny_bind (wpAny_onRaise ?_))
      show wpAny _ _ (Builtin.SmallTypes.nextOf (.ref i2) >>= _) _ _ ⟨g1, g, d, tk1, os⟩
      refine wpAny_bind (D2.done ⟨g1, g, d, tk1, os⟩ _ _ (by rw [← hi2]; exact (D2.over (D2.over (D2.over st2' hs0 S.zf2) hp1 S.sep1_2) hs1 S.Tf2)) fun q e hq he => ?_)
      replace hq : Heap.ExtBut i2 g1 q := hq
      obtain ⟨oe, hoe, hce⟩ := he
      replace hoe : q.get? e = some oe := hoe
      have hzq : ZipF q z TI TO .ellipsis f0 := hq _ _ S.zi2 (hs1.extBut _ _ S.TOz.symm (hp1.extBut _ _ S.zi1 hz0))
      have hez : e ≠ z := fun x => by subst x; rw [hzq] at hoe; cases hoe; simp at hce
      refine wpAny_setField_rec (s := ⟨q, g, d, tk1, os⟩) hzq (by simp) fun q' _ hq' => ?_
      replace hq' : Heap.SameBut z q q' := hq'
      exact hE q' tk1 e (fun c o cz cT c1 c2 x => hq'.extBut _ _ cz (hq _ _ c2 (hs1.extBut _ _ cT (hp1.extBut _ _ c1 (hs0.extBut _ _ cz (hsw.extBut _ _ cz x)))))) ⟨oe, hq'.extBut _ _ hez hoe, hce⟩
    · have hi1 : i = n1 := by omega
      refine wpAny_bind (D1.done ⟨g0, g, d, tk0, os⟩ _ _ (by rw [← hi1]; exact (D1.over st1' hs0 S.zf1)) fun q e hq he => ?_)
      replace hq : Heap.ExtBut i1 g0 q := hq
      obtain ⟨oe, hoe, hce⟩ := he
      replace hoe : q.get? e = some oe := hoe
      have hzq : ZipF q z TI TO .ellipsis f0 := hq _ _ S.zi1 hz0
      have hez : e ≠ z := fun x => by subst x; rw [hzq] at hoe; cases hoe; simp at hce
      refine wpAny_setField_rec (s := ⟨q, g, d, tk0, os⟩) hzq (by simp) fun q' _ hq' => ?_
      replace hq' : Heap.SameBut z q q' := hq'
      exact hE q' tk0 e (fun c o cz cT c1 c2 x => hq'.extBut _ _ cz (hq _ _ c1 (hs0.extBut _ _ cz (hsw.extBut _ _ cz x)))) ⟨oe, hq'.extBut _ _ hez hoe, hce⟩
  | false =>
    simp only [Bool.false_eq_true, if_false]
    refine wpAny_bind ?_
    rw [← Array.forIn_toList]
    simp only [List.forIn_cons, List.forIn_nil]
    refine wpAny_bind (wpAny_bind (wpAny_holding ?_))
    show wpAny _ _ (Builtin.SmallTypes.nextOf (.ref i1) >>= _) _ _ ⟨h0, g, d, tk0, os⟩
    by_cases hlt1 : i < n1
    · refine wpAny_bind (D1.item i _ _ _ hlt1 st1' fun x1 p1 tk1 hx1 sn1 hp1 => wpAny_pure ?_)
      replace hp1 : Heap.SameBut i1 h0 p1 := hp1
      refine wpAny_pure ?_
      have hi2 : i = n2 := by omega
      refine wpAny_bind (wpAny_bind (wpAny_holding ?_))
      show wpAny _ _ (Builtin.SmallTypes.nextOf (.ref i2) >>= _) _ _ ⟨p1, g, d, tk1, os⟩
      refine wpAny_bind (D2.done ⟨p1, g, d, tk1, os⟩ _ _ (by rw [← hi2]; exact D2.over st2' hp1 S.sep1_2) fun q e hq he => ?_)
      replace hq : Heap.ExtBut i2 p1 q := hq
      exact hE q tk1 e (fun c o cz cT c1 c2 x => hq _ _ c2 (hp1.extBut _ _ c1 (hsw.extBut _ _ cz x))) he
    · have hi1 : i = n1 := by omega
      refine wpAny_bind (D1.done ⟨h0, g, d, tk0, os⟩ _ _ (by rw [← hi1]; exact st1') fun q e hq he => ?_)
      replace hq : Heap.ExtBut i1 h0 q := hq
      exact hE q tk0 e (fun c o cz cT c1 c2 x => hq _ _ c1 (hsw.extBut _ _ cz x)) he
theorem next_w {Q : Option Value → Shared → Prop} (S : ZipSep2 z TI TO i1 i2 fp1 fp2) (D1 : Draws prog w A.in1 i1 fp1 n1 P1 St1) (D2 : Draws prog w A.in1 i2 fp2 n2 P2 St2)
    (hz : ZipW s.heap z TI TO) (hTI : IsTupOf2 s.heap TI (.ref i1) (.ref i2)) (hTO : IsTupOf2 s.heap TO a1 a2) (st1 : St1 i s.heap) (st2 : St2 i s.heap) (hlt1 : i < n1) (hlt2 : i < n2)
    (hQ : ∀ x1 x2 h' tk, P1 i x1 → P2 i x2 → ZipW h' z TI TO → (∃ b1 b2, IsTupOf2 h' TO b1 b2) → St1 (i + 1) h' → St2 (i + 1) h' → IsTupOf2 h' s.heap.objs.size x1 x2 → h'.objs.size = s.heap.objs.size + 1 →
      (∀ c o, c ≠ z → c ≠ TO → c ≠ i1 → c ≠ i2 → s.heap.get? c = some o → h'.get? c = some o) → Q (some (.ref s.heap.objs.size)) { s with heap := h', toks := tk }) :
    wpAny (model prog w) A (pyNext (.ref z)) Q E s := by
  have hT : s.TypeIs (.ref z) "zip" := (let ⟨_, _, e, _⟩ := hz; ⟨_, e, rfl⟩)
  unfold pyNext
  exact wpAny_bind (wpAny_attempt (wpAny_callSpecial?_slot (name := Str.ofString "__next__") hT F.slot_zip_next
    (wpAny_call_entry F.slot_zip_next hT F.entry_zip_next
      (item_w S D1 D2 hz hTI hTO st1 st2 hlt1 hlt2 fun x1 x2 h' tk y1 y2 b1 b2 d1 d2 b5 b6 b7 => wpAny_pure (hQ x1 x2 h' tk y1 y2 b1 b2 d1 d2 b5 b6 b7)) (F.args_zip_next_1 _))))

theorem nextEnd_w {Q : Option Value → Shared → Prop} (S : ZipSep2 z TI TO i1 i2 fp1 fp2) (D1 : Draws prog w A.in1 i1 fp1 n1 P1 St1) (D2 : Draws prog w A.in1 i2 fp2 n2 P2 St2)
    (hz : ZipW s.heap z TI TO) (hTI : IsTupOf2 s.heap TI (.ref i1) (.ref i2)) (hTO : IsTupOf2 s.heap TO a1 a2) (st1 : St1 i s.heap) (st2 : St2 i s.heap) (hle1 : i ≤ n1) (hle2 : i ≤ n2) (hend : i = n1 ∨ i = n2)
    (hQ : ∀ h' tk, (∀ c o, c ≠ z → c ≠ TO → c ≠ i1 → c ≠ i2 → s.heap.get? c = some o → h'.get? c = some o) → Q none { s with heap := h', toks := tk }) : wpAny (model prog w) A (pyNext (.ref z)) Q E s := by
  have hT : s.TypeIs (.ref z) "zip" := (let ⟨_, _, e, _⟩ := hz; ⟨_, e, rfl⟩)
  unfold pyNext
  refine wpAny_bind (wpAny_attempt (wpAny_callSpecial?_slot (name := Str.ofString "__next__") hT F.slot_zip_next
    (wpAny_call_entry F.slot_zip_next hT F.entry_zip_next (end_w S D1 D2 hz hTI hTO st1 st2 hle1 hle2 hend fun h' tk e hk he => ?_) (F.args_zip_next_1 _))))
  obtain ⟨o, ho, hc⟩ := he
  refine wpAny_bind (wpAny_isInstance (T := "StopIteration") (b := true) ⟨o, ho, hc⟩ isSubtype_stop ?_)
  exact wpAny_pure (hQ _ _ hk)

end
def ZStW (k l : SK) (z TI TO i1 i2 : Addr) (i : Nat) (h : Heap) : Prop := ZipW h z TI TO ∧ IsTupOf2 h TI (.ref i1) (.ref i2) ∧ (∃ a1 a2, IsTupOf2 h TO a1 a2) ∧ k.iter i1 i h ∧ l.iter i2 i h
theorem zip_walkW {X : Cx} {pins : List (Addr × Obj)} {σ : L2.St} {H : Hp} {s : Shared} (I : L2.Inv X pins σ H s) (hc : X.calm = true) {k l : SK} {vs ws : List V} (hv : k.vs X.K H vs) (hw : l.vs X.K H ws) {z TI TO i1 i2 : Addr} (D : ZA k l z TI TO i1 i2) {i : Nat}
    (st : ZStW k l z TI TO i1 i2 i s.heap) :
    ∃ (fp1 fp2 : List Addr) (P1 P2 : Nat → Value → Prop) (S1 S2 : Nat → Heap → Prop), Draws X.prog X.w X.A.in1 i1 (i1 :: fp1) vs.length P1 S1 ∧ Draws X.prog X.w X.A.in1 i2 (i2 :: fp2) ws.length P2 S2 ∧ ZipSep2 z TI TO i1 i2 (i1 :: fp1) (i2 :: fp2) ∧ S1 i s.heap ∧ S2 i s.heap ∧
      (∀ j h, S1 j h → k.iter i1 j h) ∧ (∀ j h, S2 j h → l.iter i2 j h) ∧ (∀ j v, P1 j v → ∃ x, vs[j]? = some x ∧ L2.RelV x v) ∧ (∀ j v, P2 j v → ∃ x, ws[j]? = some x ∧ L2.RelV x v) := by
  obtain ⟨hzw, hTI, hTO, h1, h2⟩ := st
  obtain ⟨x0, f0, hz, _⟩ := id hzw
  obtain ⟨fp1, P1, S1, D1, s1, t1, p1, f1⟩ := SK.draws I hc hv h1
  obtain ⟨fp2, P2, S2, D2, s2, t2, p2, f2⟩ := SK.draws I hc hw h2
  obtain ⟨o1, ho1, ⟨n1, hn1, hl1, ht1⟩, _⟩ := SK.iter_obj h1
  obtain ⟨o2, ho2, ⟨n2, hn2, hl2, ht2⟩, _⟩ := SK.iter_obj h2
  have ap : ∀ (fp : List Addr) (kk : SK), (∀ b ∈ fp, (kk = .l b ∨ kk = .t b) ∧ ∃ o n, s.heap.get? b = some o ∧ o.cls = .type n ∧ (n = "list" ∨ n = "tuple")) → z ∉ fp ∧ i1 ∉ fp ∧ i2 ∉ fp := by
    intro fp kk f
    refine ⟨fun m => ?_, fun m => ?_, fun m => ?_⟩
    · obtain ⟨_, o, n, e1, e2, e3⟩ := f _ m
      rw [hz] at e1
      cases e1
      cases e2
      rcases e3 with e3 | e3 <;> exact absurd e3 (by decide)
    · obtain ⟨_, o, n, e1, e2, e3⟩ := f _ m
      rw [ho1] at e1
      cases e1
      rw [hn1] at e2
      cases e2
      rcases e3 with e3 | e3
      · exact hl1 e3
      · exact ht1 e3
    · obtain ⟨_, o, n, e1, e2, e3⟩ := f _ m
      rw [ho2] at e1
      cases e1
      rw [hn2] at e2
      cases e2
      rcases e3 with e3 | e3
      · exact hl2 e3
      · exact ht2 e3
  obtain ⟨z1, _, j1⟩ := ap fp1 k f1
  obtain ⟨z2, j2, _⟩ := ap fp2 l f2
  have sep : ZipSep2 z TI TO i1 i2 (i1 :: fp1) (i2 :: fp2) := {
    TIz := D.a1, TOz := D.a2, TITO := D.a3, TIi1 := D.a4, mem1 := List.mem_cons_self, TIi2 := D.a5, mem2 := List.mem_cons_self
    zf1 := fun m => (List.mem_cons.mp m).elim D.a6 z1
    zf2 := fun m => (List.mem_cons.mp m).elim D.a7 z2
    Tf1 := fun m => (List.mem_cons.mp m).elim D.a8 fun m => D.a11 _ (.inl (f1 _ m).1) rfl
    Tf2 := fun m => (List.mem_cons.mp m).elim D.a9 fun m => D.a11 _ (.inr (f2 _ m).1) rfl
    sep1_2 := fun m => (List.mem_cons.mp m).elim D.a10 j2
    sep2_1 := fun m => (List.mem_cons.mp m).elim (Ne.symm D.a10) j1 }
  exact ⟨fp1, fp2, P1, P2, S1, S2, D1, D2, sep, s1, s2, t1, t2, p1, p2⟩
theorem turn_zipN {P : Program} {w : World} {K : PySem.W.Frag} {nx : Str} {tpos : Pos} {k l : SK} {z TI TO i1 i2 : Addr} (D : ZA k l z TI TO i1 i2) :
    Turn P w K (.Name nx tpos) (ItZ K k l) [z, TI, TO, i1, i2] z (ZStW k l z TI TO i1 i2) where
  mem := List.mem_cons_self
  obj := fun i h st b hb => by
    obtain ⟨⟨x0, f0, hz, _⟩, hTI, ⟨x, y, hTO⟩, h1, h2⟩ := st
    obtain ⟨o1, ho1, _, d1⟩ := SK.iter_obj h1
    obtain ⟨o2, ho2, _, d2⟩ := SK.iter_obj h2
    have hb' : b = z ∨ b = TI ∨ b = TO ∨ b = i1 ∨ b = i2 := by simpa using hb
    rcases hb' with q | q | q | q | q <;> subst q
    · exact ⟨_, hz, fun v q => nomatch q⟩
    · exact ⟨_, hTI, fun v q => nomatch q⟩
    · exact ⟨_, hTO, fun v q => nomatch q⟩
    · exact ⟨o1, ho1, d1⟩
    · exact ⟨o2, ho2, d2⟩
  keep := fun i h h' st kp => by
    obtain ⟨hz, hTI, ⟨x, y, hTO⟩, h1, h2⟩ := st
    exact ⟨hz.kept fun o e => kp z (by simp) o e, kp TI (by simp) _ hTI, ⟨x, y, kp TO (by simp) _ hTO⟩, SK.iter_at h1 fun o q => kp i1 (by simp) o q, SK.iter_at h2 fun o q => kp i2 (by simp) o q⟩
  item := by
    intro X hP hw hK hc i pins s σ H E I hf st hg
    subst hP hw hK
    obtain ⟨vs, ws, x, y, hv, hw, hx, hy⟩ := hg
    obtain ⟨fp1, fp2, P1, P2, S1, S2, D1, D2, sep, s1, s2, t1, t2, p1, p2⟩ := zip_walkW I hc hv hw D st
    obtain ⟨hz, hTI, ⟨a1, a2, hTO⟩, h1, h2⟩ := st
    have hi1 := (List.getElem?_eq_some_iff.mp hx).1
    have hi2 := (List.getElem?_eq_some_iff.mp hy).1
    refine next_w sep D1 D2 hz hTI hTO s1 s2 hi1 hi2 fun u v h' tk hp1 hp2 hz' hTO' st1 st2 hT hsz hk => ⟨_, rfl, ?_⟩
    obtain ⟨x', e1, r1⟩ := p1 _ _ hp1
    obtain ⟨y', e2, r2⟩ := p2 _ _ hp2
    rw [hx] at e1
    rw [hy] at e2
    cases e1
    cases e2
    have go : ∀ {Q : Unit → Shared → Prop}, Q () { s with heap := h', toks := tk } → wpAny (model X.prog X.w) X.A (letOwnedTupleGo (.Name nx tpos) (.ref z) (.ref s.heap.objs.size)) Q E { s with heap := h', toks := tk } := fun q => by
      unfold letOwnedTupleGo
      exact wpAny_pure q
    refine go ?_
    have lt : ∀ {c o}, s.heap.get? c = some o → c ≠ s.heap.objs.size := fun e => Nat.ne_of_lt (Heap.lt_size e)
    have kk : ∀ b ob, b ∉ [z, TI, TO, i1, i2] → s.heap.get? b = some ob → h'.get? b = some ob := fun b ob hb q => hk b ob (fun x => hb (by simp [x])) (fun x => hb (by simp [x])) (fun x => hb (by simp [x])) (fun x => hb (by simp [x])) q
    have tup : h'.IsTuple s.heap.objs.size #[u, v] := ⟨_, hT, rfl, _, rfl⟩
    have new : ObjOk X.prog X.w (upd H s.heap.objs.size (.tup [x, y])) h' s.heap.objs.size (.tup [x, y]) := ⟨(by show 2 ≤ sizeLine; decide), [u, v], .cons r1 (.cons r2 .nil), tup⟩
    have I1 : L2.Inv X pins σ (upd H s.heap.objs.size (.tup [x, y])) { s with heap := h', toks := tk } := I.turnedNew (ch := [z, TI, TO, i1, i2]) kk hf (Nat.le_refl _) new
    refine ⟨.ref s.heap.objs.size, _, I1, rfl, ⟨s.heap.objs.size, x, y, rfl, I.hok.fresh (Nat.le_refl _), rfl, fun us hus => by rw [SK.inj I hus hv]; exact hx, fun us hus => by rw [SK.inj I hus hw]; exact hy⟩, ?_, fun b hb => ?_⟩
    · exact ⟨hz', hk _ _ sep.TIz sep.TITO sep.TIi1 sep.TIi2 hTI, hTO', t1 _ _ st1, t2 _ _ st2⟩
    · obtain ⟨x0, f0, hz0, _⟩ := hz
      obtain ⟨o1, ho1, _⟩ := SK.iter_obj h1
      obtain ⟨o2, ho2, _⟩ := SK.iter_obj h2
      have hbT : b ≠ s.heap.objs.size := by
        have hb' : b = z ∨ b = TI ∨ b = TO ∨ b = i1 ∨ b = i2 := by simpa using hb
        rcases hb' with q | q | q | q | q <;> rw [q]
        · exact lt hz0
        · exact lt hTI
        · exact lt hTO
        · exact lt ho1
        · exact lt ho2
      rw [upd_ne hbT]
      exact (hf b hb).1
  done := by
    intro X hP hw hK hc i pins s σ H E I hf st hg
    subst hP hw hK
    obtain ⟨vs, ws, hv, hw, hi⟩ := hg
    obtain ⟨fp1, fp2, P1, P2, S1, S2, D1, D2, sep, s1, s2, t1, t2, p1, p2⟩ := zip_walkW I hc hv hw D st
    obtain ⟨hz, hTI, ⟨a1, a2, hTO⟩, h1, h2⟩ := st
    refine nextEnd_w sep D1 D2 hz hTI hTO s1 s2 (by omega) (by omega) (by omega) fun h' tk hk => ⟨rfl, I.turnedL (ch := [z, TI, TO, i1, i2]) (fun b ob hb q => hk b ob (fun x => hb (by simp [x])) (fun x => hb (by simp [x])) (fun x => hb (by simp [x])) (fun x => hb (by simp [x])) q) hf⟩
  self := fun A i s Q E st h => by
    obtain ⟨⟨x0, f0, hz, _⟩, _⟩ := st
    have hT : s.TypeIs (.ref z) "zip" := ⟨_, hz, rfl⟩
    refine wpAny_pyIter_slot hT F.slot_zip_iter (wpAny_call_entry F.slot_zip_iter hT F.entry_zip_iter ?_ (F.args_zip_iter_1 _))
    show wpAny _ _ (ret (.ref z)) _ _ s
    exact wpAny_pure ⟨_, rfl, "zip", _, hT, F.slot_zip_next.lookup, h⟩
section
variable {X : Cx}
theorem pi_zipN {e e2 : Expr} {ta : TA} {pp pos tpos : Pos} {nx : Str} (hg : Gl X "zip") (hm : X.mg "zip" = none) (ha : PA X [e, e2] ta) (hs : starEach [e, e2] X.env = (false, eval e X.env) :: starEach [e2] X.env) (hpl : (backTo pos (starEach [e2] X.env)).any (·.1) = false) :
    PI X (.Name nx tpos) (.Call (.Name "zip" pp) [e, e2] [] pos) (fun σ H R => ta σ H fun vs H1 => ∃ x y us ws, vs = [x, y] ∧ SKR X.K x H1 us fun k => SKR X.K y H1 ws fun l => R (ItZ X.K k l) H1) := by
  refine ⟨fun pins s σ H R I h => ?_⟩
  refine Call_ (ld_blt I hg hm PyProof.Rows.boot_zip (PyProof.Rows.callWith_type1 (thn (ha.run pos pins s σ H _ I h) fun us s1 ⟨vs, H1, I1, r1, q1⟩ => ?_) hs hpl))
  obtain ⟨x, y, ws, zs, rfl, hq⟩ := q1
  obtain ⟨u, u2, rfl, rx, ry⟩ := vals2 r1
  obtain ⟨k, rfl, hk, hq2⟩ := hq.of rx
  obtain ⟨l, rfl, hl, q⟩ := hq2.of ry
  obtain ⟨G, Bg, g1⟩ := SK.begins I1 hk
  obtain ⟨G2, Bg2, g2⟩ := SK.begins I1 hl
  refine zip_begins2 Bg Bg2 g1 g2 fun h' hz hTI hTO h1 h2 _ hkp => wpAny_pyIter_zip hz ?_
  have I2 : L2.Inv X pins σ H1 { s1 with heap := h' } := I1.kept (t' := s1.toks) hkp
  have lt : ∀ (kk : SK) (us : List V), kk.vs X.K H1 us → ∀ b, (kk = .l b ∨ kk = .t b) → b < s1.heap.objs.size := by
    intro kk us hv b hb
    rcases hb with rfl | rfl
    · obtain ⟨its, rv, pl, _⟩ := I1.list hv
      exact pl.lt
    · obtain ⟨its, rv, pl, _⟩ := I1.tuple hv
      exact pl.lt
  have ne : ∀ a b : Nat, a ≠ b → s1.heap.objs.size + a ≠ s1.heap.objs.size + b := fun a b h e => h (Nat.add_left_cancel e)
  have D : ZA k l (s1.heap.objs.size + 4) (s1.heap.objs.size + 2) (s1.heap.objs.size + 3) s1.heap.objs.size (s1.heap.objs.size + 1) :=
    ⟨ne 2 4 (by decide), ne 3 4 (by decide), ne 2 3 (by decide), ne 2 0 (by decide), ne 2 1 (by decide), ne 4 0 (by decide), ne 4 1 (by decide), ne 3 0 (by decide), ne 3 1 (by decide), ne 0 1 (by decide), fun b hb e => by
      have h5 : b < s1.heap.objs.size := hb.elim (lt k _ hk b) (lt l _ hl b)
      rw [e] at h5
      exact absurd (Nat.lt_of_le_of_lt (Nat.le_add_right _ _) h5) (Nat.lt_irrefl _)⟩
  refine ⟨s1.heap.objs.size + 4, [s1.heap.objs.size + 4, s1.heap.objs.size + 2, s1.heap.objs.size + 3, s1.heap.objs.size, s1.heap.objs.size + 1], _, _, H1, rfl, I2, turn_zipN D, ⟨⟨_, _, hz, .inl rfl⟩, hTI, ⟨_, _, hTO⟩, SK.iter0 h1, SK.iter0 h2⟩, fun b hb => ?_, q⟩
  have hle : s1.heap.objs.size ≤ b := by
    have hb' : b = s1.heap.objs.size + 4 ∨ b = s1.heap.objs.size + 2 ∨ b = s1.heap.objs.size + 3 ∨ b = s1.heap.objs.size ∨ b = s1.heap.objs.size + 1 := by simpa using hb
    rcases hb' with z | z | z | z | z <;> rw [z] <;> first | exact Nat.le_add_right _ _ | exact Nat.le_refl _
  exact I1.fpOk hle (I1.hok.fresh hle)
end
end PyI

set_option maxRecDepth 100000
/-! PyIT: tuple(it) of an iterator that lays new objects (zip). -/
namespace PyI
open PySem PySem.Spec PyProof.Rows L2
/-- the items, one by one -/
def runJ (J : L2.It) : Nat → Nat → Hp → (List V → Hp → Prop) → Prop
  | 0, i, H, Q => J.stop i H ∧ Q [] H
  | n + 1, i, H, Q => J.go i H ∧ ∀ x H', J.yld i H x H' → runJ J n (i + 1) H' fun xs H2 => Q (x :: xs) H2
theorem runJ_len {J : L2.It} : ∀ {n i : Nat} {H : Hp} {Q : List V → Hp → Prop}, runJ J n i H Q → runJ J n i H fun xs H2 => xs.length = n ∧ Q xs H2
  | 0, _, _, _, h => ⟨h.1, rfl, h.2⟩
  | n + 1, i, H, Q, h => ⟨h.1, fun x H' hy => by
    have q := runJ_len (h.2 x H' hy)
    have mono : ∀ {n i : Nat} {H : Hp} {Q Q' : List V → Hp → Prop}, runJ J n i H Q → (∀ xs H2, Q xs H2 → Q' xs H2) → runJ J n i H Q' := by
      intro n
      induction n with
      | zero => exact fun h m => ⟨h.1, m _ _ h.2⟩
      | succ n ih => exact fun h m => ⟨h.1, fun x H' hy => ih (h.2 x H' hy) fun xs H2 q => m _ _ q⟩
    exact mono q fun xs H2 z => ⟨by simp [z.1], z.2⟩⟩
def inA (X : Cx) (A : Around) : Cx := { X with A := A }
section
variable {X : Cx} {pins : List (Addr × Obj)} {σ : L2.St} {H : Hp} {s : Shared} {A : Around}
theorem to_inA (I : L2.Inv X pins σ H s) (hh : A.handled = none) (hf : A.frames = X.A.frames) : L2.Inv (inA X A) pins σ H s :=
  ⟨⟨I.ok.mod, I.ok.kind, I.ok.glob, I.ok.blt, I.ok.above, I.ok.inj, I.ok.has, I.ok.cab, fun _ => hh, hf.trans I.ok.frames, I.ok.stk, I.ok.exf, I.ok.bs, I.ok.bsz, I.ok.noex, I.ok.exfs, I.ok.funs, I.ok.frf⟩, I.os, I.bare, I.base, I.loc, I.cell, I.free, I.freeC, I.pin, I.hok, I.len⟩
theorem of_inA (I : L2.Inv (inA X A) pins σ H s) (ok : X.Ok) : L2.Inv X pins σ H s := ⟨ok, I.os, I.bare, I.base, I.loc, I.cell, I.free, I.freeC, I.pin, I.hok, I.len⟩
abbrev lobj (acc : Array Value) (c : Nat) : Obj := { cls := .type "list", dict := none, data := .seq acc c, slots := #[] }
theorem fp_more {b S : Addr} {o : Obj} (h : L2.FpOk X pins H b) (hb : S ≠ b) : L2.FpOk (inA X A) (pins ++ [(S, o)]) H b :=
  ⟨h.1, h.2.1, h.2.2.1, h.2.2.2.1, h.2.2.2.2.1, fun p hp => by
    rw [← List.append_assoc] at hp
    rcases List.mem_append.mp hp with z | z
    · exact h.2.2.2.2.2 p z
    · rw [List.mem_singleton.mp z]; exact hb⟩
theorem fp_at {b : Addr} {H' : Hp} (h : L2.FpOk X pins H b) (hn : H' b = none) : L2.FpOk X pins H' b := ⟨hn, h.2⟩
theorem go_name {nx : Str} {tpos : Pos} (a u : Value) : letOwnedTupleGo (.Name nx tpos) a u = pure () := by unfold letOwnedTupleGo; rfl
end
theorem loop_turn {X : Cx} (hc : X.calm = true) {nx : Str} {tpos : Pos} {J : L2.It} {fp : List Addr} {it : Addr} {tn : Nat → Heap → Prop} (T : L2.Turn X.prog X.w X.K (.Name nx tpos) J fp it tn) {S : Addr} (hS : S ∉ fp) (res : Value) {pins : List (Addr × Obj)} {σ : L2.St} {A : Around}
    (hSp : ∀ p ∈ X.pn ++ pins, p.1 ≠ S) (hSn : X.s_0.heap.objs.size ≤ S) (hSc : ∀ x c, X.env.cells.lookup x = some c → c ≠ S) :
    ∀ (n i : Nat) (H : Hp) (s : Shared) (acc : Array Value) (c : Nat) (vs : List V) (Q : List V → Hp → Prop) (R : Result → Shared → Prop),
      L2.Inv (inA X A.in1) (pins ++ [(S, lobj acc c)]) σ H s → (∀ b ∈ fp, L2.FpOk X pins H b) → tn i s.heap → runJ J n i H Q → acc.size + n ≤ sizeLine → L2.Vals vs acc.toList →
      (∀ s' acc' c' xs H', L2.Inv (inA X A.in1) (pins ++ [(S, lobj acc' c')]) σ H' s' → L2.Vals (vs ++ xs) acc'.toList → Q xs H' → R (.ok (.ret res)) s') →
      codeAny (model X.prog X.w) A (.builtin "list.extend.loop" ⟨[.ref S, .ref it, res], []⟩) R s := by
  intro n
  induction n with
  | zero =>
    intro i H s acc c vs Q R I hf st run hz rv hR
    refine codeAny_builtin F.entry_extend_loop ?_
    rw [Around.under_plainId F.plain_extend_loop _]
    show wpAny _ A.in1 (pyNext (.ref it) >>= _) _ _ s
    refine wpAny_bind (wpAny_mono (T.done (inA X A.in1) rfl rfl rfl hc i _ s σ H _ I (fun b hb => fp_more (hf b hb) fun z => hS (z ▸ hb)) st run.1) (fun r s1 h => ?_) fun _ _ z => z)
    obtain ⟨rfl, I1⟩ := h
    exact wpAny_pure (hR s1 acc c [] H I1 (by rw [List.append_nil]; exact rv) run.2)
  | succ n ih =>
    intro i H s acc c vs Q R I hf st run hz rv hR
    refine codeAny_builtin F.entry_extend_loop ?_
    rw [Around.under_plainId F.plain_extend_loop _]
    show wpAny _ A.in1 (pyNext (.ref it) >>= _) _ _ s
    refine wpAny_bind (wpAny_mono (T.item (inA X A.in1) rfl rfl rfl hc i _ s σ H _ I (fun b hb => fp_more (hf b hb) fun z => hS (z ▸ hb)) st run.1) (fun r s1 h => ?_) fun _ _ z => z)
    obtain ⟨u, rfl, h⟩ := h
    have key : ∀ {α : Type} {k : Sem α} {Q' : α → Shared → Prop} {E' : Value → Shared → Prop}, wpAny (model X.prog X.w) A.in1 (letOwnedTupleGo (.Name nx tpos) (.ref it) u >>= fun _ => k) Q' E' s1 → wpAny (model X.prog X.w) A.in1 k Q' E' s1 := fun z => by
      rw [go_name] at z
      exact z
    show wpAny _ A.in1 (updateSeq S (·.push u) >>= _) _ _ _
    refine key ?_
    refine wpAny_bind (wpAny_mono h (fun _ s2 h2 => ?_) fun _ _ z => z)
    obtain ⟨x, H', I2, rx, hy, st2, hn⟩ := h2
    obtain ⟨hS', hSH, hSl, hSf, hSd⟩ := I2.pin (S, lobj acc c) (List.mem_append_right _ (List.mem_append_right _ List.mem_cons_self))
    have l1 : acc.size ≤ sizeLine := by omega
    refine wpAny_bind ?_
    refine wpAny_updateSeq hS' rfl ?_ (by omega) (by show (acc.push u).size ≤ sizeLine + 1; rw [Array.size_push]; omega)
    obtain ⟨c2, hc2⟩ : ∃ c2, Obj.mapSeq (·.push u) (lobj acc c) = lobj (acc.push u) c2 := ⟨_, rfl⟩
    have hS3 : (s2.heap.update S (Obj.mapSeq (·.push u))).get? S = some (lobj (acc.push u) c2) := by
      rw [← hc2]
      exact Heap.get?_update_self (Obj.mapSeq (·.push u)) hS' rfl
    refine wpAny_pure ⟨plainId_quiet F.plain_extend_loop _, ?_⟩
    have I3 : L2.Inv (inA X A.in1) pins σ H' { s2 with heap := s2.heap.update S (Obj.mapSeq (·.push u)) } := by
      have J2 : L2.Inv (inA X A.in1) pins σ H' s2 := I2.pins_of fun p hp => I2.pin p (List.mem_append_right _ (List.mem_append_left _ hp))
      exact J2.turned (t' := s2.toks) (it := S) (fun b o hb e => (Heap.get?_update_other _ _ (Ne.symm hb)).trans e) hSH hSl (.inr hSn) hSc hSp
    have I4 : L2.Inv (inA X A.in1) (pins ++ [(S, lobj (acc.push u) c2)]) σ H' { s2 with heap := s2.heap.update S (Obj.mapSeq (·.push u)) } := I3.pins_of fun p hp => by
      rcases List.mem_append.mp hp with z | z
      · exact I3.pin p (List.mem_append_right _ z)
      · rw [List.mem_singleton.mp z]
        exact ⟨hS3, hSH, hSl, hSf, fun v q => nomatch q⟩
    refine ih (i + 1) H' _ (acc.push u) c2 (vs ++ [x]) _ R I4 (fun b hb => fp_at (hf b hb) (hn b hb)) (T.keep (i + 1) _ _ st2 fun b hb o e => ?_) (run.2 x H' hy) (by rw [Array.size_push]; omega) ?_ fun s' acc' c' xs H2 I5 rv2 q => ?_
    · exact (Heap.get?_update_other _ _ (fun z : S = b => hS (z ▸ hb))).trans e
    · rw [Array.toList_push]
      exact rv.append (.cons rx .nil)
    · refine hR s' acc' c' (x :: xs) H2 I5 ?_ q
      rw [List.append_assoc] at rv2
      exact rv2
theorem collect_turn {X : Cx} (hc : X.calm = true) {nx : Str} {tpos : Pos} {J : L2.It} {fp : List Addr} {it : Addr} {tn : Nat → Heap → Prop} (T : L2.Turn X.prog X.w X.K (.Name nx tpos) J fp it tn) {ty : String}
    (hl : typeLookup (.type ty) "__len__" = pure none) (hn0 : typeLookup (.type ty) "__length_hint__" = pure none) (h2 : (Value.type ty == Value.type "list") = false) (h3 : (Value.type ty == Value.type "tuple") = false)
    (hT : ∀ i h, tn i h → ∃ o, h.get? it = some o ∧ o.cls = .type ty) {pins : List (Addr × Obj)} {σ : L2.St} {A : Around} {H : Hp} {s : Shared} {n : Nat} {Q : List V → Hp → Prop} {R : List Value → Shared → Prop} {E : Value → Shared → Prop}
    (hh : A.handled = none) (hfr : A.frames = X.A.frames) (I : L2.Inv X pins σ H s) (hf : ∀ b ∈ fp, L2.FpOk X pins H b) (st : tn 0 s.heap) (run : runJ J n 0 H Q) (hz : n ≤ sizeLine)
    (hR : ∀ s' us xs H', L2.Inv X pins σ H' s' → L2.Vals xs us → Q xs H' → R us s') : wpAny (model X.prog X.w) A (collect (.ref it)) R E s := by
  have hlt : ∀ b ∈ fp, b < s.heap.objs.size := fun b hb => let ⟨o, e, _⟩ := T.obj 0 _ st b hb; Heap.lt_size e
  have hSf : s.heap.objs.size ∉ fp := fun hm => Nat.lt_irrefl _ (hlt _ hm)
  have hSI : s.heap.objs.size ≠ it := fun e => hSf (e ▸ T.mem)
  have fS := I.fpOk (H' := H) (Nat.le_refl _) (I.hok.fresh (Nat.le_refl _))
  unfold collect
  refine wpAny_bind (wpAny_runValue (codeAny_builtin F.entry_proto_collect ?_))
  rw [Around.under_plainId F.plain_proto_collect _]
  show wpAny _ A.in1 (newList [] >>= fun l => again (.builtin "list.__iadd__" ⟨[l, .ref it], []⟩)) _ _ s
  refine wpAny_bind (wpAny_newObj_type ?_)
  refine wpAny_pure ⟨plainId_quiet F.plain_list_iadd _, codeAny_builtin F.entry_list_iadd ?_⟩
  rw [Around.under_plainId F.plain_list_iadd _]
  have st1 : tn 0 (s.heap.push { cls := .type "list", data := .seq ([] : List Value).toArray }) := T.keep 0 _ _ st fun b _ o e => Heap.get?_push_of_some _ e
  have I1 : L2.Inv X pins σ H { s with heap := s.heap.push { cls := .type "list", data := .seq ([] : List Value).toArray } } := I.kept (t' := s.toks) fun b o e => Heap.get?_push_of_some _ e
  show wpAny _ A.in1 (Builtin.List.listExtendWith (.ref s.heap.objs.size) (.ref it) (.ref s.heap.objs.size)) _ _ _
  unfold Builtin.List.listExtendWith
  refine wpAny_bind (wpAny_typeOf (hT 0 _ st1) ?_)
  have h1 : Builtin.List.listSameRef (.ref s.heap.objs.size) (.ref it) = false := by simp [Builtin.List.listSameRef, hSI]
  simp only [h1, h2, h3, Bool.or_false, Bool.false_eq_true, if_false]
  refine wpAny_bind (T.self _ 0 _ _ _ st1 ?_)
  refine wpAny_bind (wpAny_holding ?_)
  unfold Builtin.List.listLengthHint
  refine wpAny_bind (wpAny_specialOf (hT 0 _ st1) hl ?_)
  show wpAny _ A.in1 (specialOf (Value.ref it) (Str.ofString "__length_hint__") >>= _) _ _ _
  refine wpAny_bind (wpAny_specialOf (hT 0 _ st1) hn0 ?_)
  refine wpAny_pure ?_
  show wpAny _ A.in1 (rule "list.extend.makes-room" >>= fun _ => Builtin.List.listTouch (.ref s.heap.objs.size) >>= fun _ =>
    again (.builtin "list.extend.loop" ⟨[.ref s.heap.objs.size, .ref it, .ref s.heap.objs.size], []⟩)) _ _ _
  refine wpAny_bind (wpAny_rule ?_)
  have hS₁ : (s.heap.push { cls := .type "list", data := .seq ([] : List Value).toArray }).get? s.heap.objs.size = some { cls := .type "list", data := .seq ([] : List Value).toArray } := Heap.get?_push_size _ rfl
  refine wpAny_bind ?_
  show wpAny _ A.in1 (updateSeq s.heap.objs.size (·.push .none) >>= fun _ => updateSeq s.heap.objs.size (·.pop)) _ _ _
  refine wpAny_bind (wpAny_updateSeq hS₁ rfl ?_)
  have hS₂ := Heap.get?_update_self (Obj.mapSeq (·.push Value.none)) hS₁ rfl
  refine wpAny_updateSeq hS₂ rfl ?_
  have hS₃ := Heap.get?_update_self (Obj.mapSeq (·.pop)) hS₂ rfl
  have oth : ∀ b o, b ≠ s.heap.objs.size → (s.heap.push { cls := .type "list", data := .seq ([] : List Value).toArray }).get? b = some o →
      (((s.heap.push { cls := .type "list", data := .seq ([] : List Value).toArray }).update s.heap.objs.size (Obj.mapSeq (·.push Value.none))).update s.heap.objs.size (Obj.mapSeq (·.pop))).get? b = some o :=
    fun b o hb e => (Heap.get?_update_other _ _ (Ne.symm hb)).trans ((Heap.get?_update_other _ _ (Ne.symm hb)).trans e)
  have I2 := I1.turned (t' := s.toks) (h' := ((s.heap.push { cls := .type "list", data := .seq ([] : List Value).toArray }).update s.heap.objs.size (Obj.mapSeq (·.push Value.none))).update s.heap.objs.size (Obj.mapSeq (·.pop))) (it := s.heap.objs.size) oth fS.1 fS.2.1 (.inr I.sz) fS.2.2.2.2.1 fS.2.2.2.2.2
  obtain ⟨c2, hc2⟩ : ∃ c2, Obj.mapSeq (·.pop) (Obj.mapSeq (·.push Value.none) { cls := .type "list", data := .seq ([] : List Value).toArray }) = lobj #[] c2 := ⟨_, rfl⟩
  rw [hc2] at hS₃
  have I3 : L2.Inv (inA X A.in1) (pins ++ [(s.heap.objs.size, lobj #[] c2)]) σ H { s with heap := ((s.heap.push { cls := .type "list", data := .seq ([] : List Value).toArray }).update s.heap.objs.size (Obj.mapSeq (·.push Value.none))).update s.heap.objs.size (Obj.mapSeq (·.pop)) } :=
    (to_inA I2 (by simp [hh]) (by simp [hfr])).pins_of fun p hp => by
      rcases List.mem_append.mp hp with z | z
      · exact I2.pin p (List.mem_append_right _ z)
      · rw [List.mem_singleton.mp z]
        exact ⟨hS₃, fS.1, fS.2.1, fS.2.2.1, fun v q => nomatch q⟩
  refine wpAny_pure ⟨plainId_quiet F.plain_extend_loop _, loop_turn hc T hSf (.ref s.heap.objs.size) (A := A) (fun p hp => fS.2.2.2.2.2 p hp) I.sz fS.2.2.2.2.1 n 0 H _ #[] c2 [] Q _ I3 hf
    (T.keep 0 _ _ st1 fun b hb o e => oth b o (fun z => hSf (z ▸ hb)) e) run (by simpa using hz) .nil fun s' acc' c' xs H' I4 rv q => ?_⟩
  obtain ⟨hS', _⟩ := I4.pin (s.heap.objs.size, lobj acc' c') (List.mem_append_right _ (List.mem_append_right _ List.mem_cons_self))
  show wpAny _ A (load s.heap.objs.size >>= _) _ _ s'
  refine wpAny_bind (wpAny_load hS' ?_)
  have I5 : L2.Inv X pins σ H' s' := (of_inA I4 I.ok).pins_of fun p hp => I4.pin p (List.mem_append_right _ (List.mem_append_left _ hp))
  exact wpAny_pure (hR s' acc'.toList xs H' I5 (by simpa using rv) q)
theorem nolen_zip : typeLookup (.type "zip") "__len__" = pure none := by rw [typeLookup_type, builtinLookup_eq_fast]; kernel_rfl
theorem nohint_zip : typeLookup (.type "zip") "__length_hint__" = pure none := by rw [typeLookup_type, builtinLookup_eq_fast]; kernel_rfl
theorem code_tuple_turn {X : Cx} (hc : X.calm = true) {nx : Str} {tpos : Pos} {J : L2.It} {fp : List Addr} {it : Addr} {tn : Nat → Heap → Prop} (T : L2.Turn X.prog X.w X.K (.Name nx tpos) J fp it tn)
    (hT : ∀ i h, tn i h → ∃ o, h.get? it = some o ∧ o.cls = .type "zip") {pins : List (Addr × Obj)} {σ : L2.St} {A : Around} {H : Hp} {s : Shared} {n : Nat} {Q : List V → Hp → Prop} {Q₁ : Value → Shared → Prop} {E : Value → Shared → Prop}
    (hh : A.handled = none) (hfr : A.frames = X.A.frames) (I : L2.Inv X pins σ H s) (hf : ∀ b ∈ fp, L2.FpOk X pins H b) (st : tn 0 s.heap) (run : runJ J n 0 H Q) (hz : n ≤ sizeLine)
    (h : ∀ s' us xs H', L2.Inv X pins σ H' s' → L2.Vals xs us → Q xs H' → Q₁ (.ref s'.heap.objs.size) { s' with heap := s'.heap.push { cls := .type "tuple", data := .seq us.toArray } }) :
    codeAny (model X.prog X.w) A (.call (.builtin "tuple.__new__") ⟨[.type "tuple", .ref it], []⟩) (wants Q₁ E) s := by
  refine codeAny_of_tree ?_
  show wpAny _ A.in1 (do checkBuiltinCall "tuple.__new__" ⟨[.type "tuple", .ref it], []⟩; again (.builtin "tuple.__new__" ⟨[.type "tuple", .ref it], []⟩)) _ _ s
  refine wpAny_bind (wpAny_of_eq (F.newCall_tuple_1 _) (wpAny_pure ⟨plainId_quiet F.plain_tuple_new _, codeAny_builtin F.entry_tuple_new ?_⟩))
  rw [Around.under_plainId F.plain_tuple_new _]
  have hsub := sub_tuple_self
  have hinit := init_tuple_lookup
  have hmh := madeHere_tuple
  have hTI : s.TypeIs (.ref it) "zip" := let ⟨o, ho, hc⟩ := hT 0 _ st; ⟨o, ho, hc⟩
  have hh1 : A.in1.handled = none := hh
  wp_walk using wpAny_typeOf hTI, collect_turn (A := A.in1) hc T nolen_zip nohint_zip (by decide) (by decide) hT hh1 hfr I hf st (runJ_len run) hz
  intro s' us xs H' I' rv q
  show wpAny _ _ (Builtin.Tuple.tupleExact us.toArray >>= fun v => ret v) _ _ _
  unfold Builtin.Tuple.tupleExact
  refine wpAny_bind (wpAny_newObj_type ?_ (by show us.toArray.size ≤ sizeLine; rw [List.size_toArray, ← rv.length, q.1]; exact hz))
  refine wpAny_pure ?_
  exact h s' us xs H' I' rv q.2
theorem call_tuple_turn {X : Cx} (hc : X.calm = true) {nx : Str} {tpos : Pos} {J : L2.It} {fp : List Addr} {it : Addr} {tn : Nat → Heap → Prop} (T : L2.Turn X.prog X.w X.K (.Name nx tpos) J fp it tn)
    (hT : ∀ i h, tn i h → ∃ o, h.get? it = some o ∧ o.cls = .type "zip") {pins : List (Addr × Obj)} {σ : L2.St} {H : Hp} {s : Shared} {n : Nat} {Q : List V → Hp → Prop} {Q₁ : VK}
    (I : L2.Inv X pins σ H s) (hf : ∀ b ∈ fp, L2.FpOk X pins H b) (st : tn 0 s.heap) (run : runJ J n 0 H Q) (hz : n ≤ sizeLine)
    (h : ∀ xs H', Q xs H' → ∀ p, H' p = none → Q₁ (.ref p) (upd H' p (.tup xs))) : wpAny (model X.prog X.w) X.A (call (.type "tuple") [.ref it]) (EP X pins σ Q₁) X.xe s := by
  refine callType_codes (Q₁ := fun obj s₁ => s₁.TypeIs obj "tuple" ∧ EP X pins σ Q₁ obj s₁) F.called_tuple (F.typeCall_tuple_1 _) F.entry_object_init
    (code_tuple_turn (A := X.A.in1) hc T hT (I.ok.hd hc) rfl I hf st (runJ_len run) hz fun s' us xs H' I' rv q => ⟨⟨_, Heap.get?_push_size _ rfl, rfl⟩, ?_⟩) fun obj s₁ h₁ => ?_
  · have hl : xs.length ≤ sizeLine := by rw [q.1]; exact hz
    have I2 : L2.Inv X pins σ (upd H' s'.heap.objs.size (.tup xs)) { s' with heap := s'.heap.push { cls := .type "tuple", data := .seq us.toArray } } :=
      I'.laid (t' := s'.toks) (fun b o e => Heap.get?_push_of_some _ e) (Nat.le_refl _) (show ObjOk X.prog X.w _ _ _ (.tup xs) from ⟨hl, us, rv, IsTup.new _ _⟩)
    exact ⟨.ref s'.heap.objs.size, _, I2, rfl, h xs H' q.2 _ (I'.hok.fresh (Nat.le_refl _))⟩
  · exact ⟨h₁.1, F.args_object_init_2 obj _, object_init_meets F.called_tuple.init.lookup F.called_tuple.made (by decide) X.prog X.w X.A.in1 _ s₁ ⟨h₁.1, rfl, h₁.2⟩⟩
end PyI

set_option maxRecDepth 100000
/-! PyI9: targets, what is walked, comprehensions. -/
namespace PyI
open PySem PySem.Spec PyProof.Rows L2

/-! ### targets -/
mutual
def slots : Tg → List Nat
  | .name i => [i]
  | .tup ts => slotss ts
def slotss : Tgs → List Nat
  | .nil => []
  | .cons t ts => slots t ++ slotss ts
end
def lenT : Tgs → Nat
  | .nil => 0
  | .cons _ ts => lenT ts + 1
mutual
def gT (K : PySem.W.Frag) : Tg → TG
  | .name i => gName i
  | .tup ts => gTupE K (lenT ts) (gTs K ts)
def gTs (K : PySem.W.Frag) : Tgs → TGs
  | .nil => gNil
  | .cons t ts => gCons (gT K t) (gTs K ts)
end
/-- slots is were stored -/
structure Up (K : PySem.W.Frag) (fa : Nat → Addr) (ρ : List Addr) (G : Hp) (is : List Nat) (r r' : Env) (σ σ' : L2.St) : Prop where
  lr : r'.length = r.length
  ls : σ'.length = σ.length
  out : ∀ i, i ∉ is → r'[i]? = r[i]? ∧ σ'[i]? = σ[i]?
  inn : ∀ i w, i ∈ is → r'[i]? = some (some w) → ∃ u, σ'[i]? = some (some u) ∧ PRel K fa ρ G w u
section
variable {K : PySem.W.Frag} {fa : Nat → Addr} {ρ : List Addr} {G H : Hp}
theorem Up.refl (r : Env) (σ : L2.St) : Up K fa ρ G [] r r σ σ := ⟨rfl, rfl, fun _ _ => ⟨rfl, rfl⟩, fun _ _ h => by simp at h⟩
theorem Up.trans {is js : List Nat} {r r1 r2 : Env} {σ σ1 σ2 : L2.St} (a : Up K fa ρ G is r r1 σ σ1) (b : Up K fa ρ G js r1 r2 σ1 σ2) : Up K fa ρ G (is ++ js) r r2 σ σ2 := by
  refine ⟨b.lr.trans a.lr, b.ls.trans a.ls, fun i hi => ?_, fun i w hi e => ?_⟩
  · simp only [List.mem_append, not_or] at hi
    exact ⟨(b.out i hi.2).1.trans (a.out i hi.1).1, (b.out i hi.2).2.trans (a.out i hi.1).2⟩
  · by_cases hj : i ∈ js
    · exact b.inn i w hj e
    · rw [(b.out i hj).1] at e
      rw [(b.out i hj).2]
      exact a.inn i w ((List.mem_append.mp hi).resolve_right hj) e
theorem Up.one {i : Nat} {r : Env} {σ : L2.St} {x : PV} {v : V} (hl : r.length = σ.length) (h : PRel K fa ρ G x v) : Up K fa ρ G [i] r (r.set i (some x)) σ (σ.set i (some v)) := by
  refine ⟨by simp, by simp, fun j hj => ?_, fun j w hj e => ?_⟩
  · have : i ≠ j := fun z => hj (by simp [z])
    rw [List.getElem?_set_ne this, List.getElem?_set_ne this]
    exact ⟨rfl, rfl⟩
  · have : j = i := by simpa using hj
    subst this
    by_cases hlt : j < r.length
    · rw [List.getElem?_set_self hlt] at e
      cases e
      exact ⟨v, List.getElem?_set_self (by rw [← hl]; exact hlt), h⟩
    · rw [List.getElem?_eq_none (by simpa using hlt)] at e
      cases e
mutual
theorem gT_run (hs : Same G H) : ∀ (t : Tg) {x : PV} {v : V} {r r' : Env} {σ : L2.St} {Q : L2.St → Hp → Prop}, PRel K fa ρ G x v → r.length = σ.length → asg t x r = some r' → (∀ σ', Up K fa ρ G (slots t) r r' σ σ' → Q σ' H) → gT K t v σ H Q
  | .name i, x, v, r, r', σ, Q, h, hl, e, q => by
    cases e
    exact q _ (Up.one hl h)
  | .tup ts, x, v, r, r', σ, Q, h, hl, e, q => by
    cases h with
    | tup ht hr =>
      have e : asgs ts _ r = some r' := e
      refine ⟨_, _, rfl, .inl (Same.sqT hs ht), ?_, gTs_run hs ts hr hl e q⟩
      rw [← hr.length]
      exact asgs_len ts e
    | lst ht hr =>
      have e : asgs ts _ r = some r' := e
      refine ⟨_, _, rfl, .inr (SqL.of (hs _ _ ht)), ?_, gTs_run hs ts hr hl e q⟩
      rw [← hr.length]
      exact asgs_len ts e
    | _ => cases e
theorem gTs_run (hs : Same G H) : ∀ (ts : Tgs) {xs : List PV} {vs : List V} {r r' : Env} {σ : L2.St} {Q : L2.St → Hp → Prop}, PRels K fa ρ G xs vs → r.length = σ.length → asgs ts xs r = some r' → (∀ σ', Up K fa ρ G (slotss ts) r r' σ σ' → Q σ' H) → gTs K ts vs σ H Q
  | .nil, xs, vs, r, r', σ, Q, h, hl, e, q => by
    cases h with
    | nil =>
      cases e
      exact ⟨rfl, q _ (Up.refl _ _)⟩
    | cons _ _ => cases e
  | .cons t ts, xs, vs, r, r', σ, Q, h, hl, e, q => by
    cases h with
    | nil => cases e
    | cons h1 h2 =>
      rename_i x xs v vs
      have e : (asg t x r).bind (fun r => asgs ts xs r) = some r' := e
      cases e1 : asg t x r with
      | none => rw [e1] at e; cases e
      | some r1 =>
        rw [e1] at e
        refine ⟨v, vs, rfl, gT_run hs t h1 hl e1 fun σ1 u1 => ?_⟩
        exact gTs_run hs ts h2 (by rw [u1.lr, u1.ls]; exact hl) e fun σ2 u2 => q σ2 (u1.trans u2)
theorem asgs_len : ∀ (ts : Tgs) {xs : List PV} {r r' : Env}, asgs ts xs r = some r' → xs.length = lenT ts
  | .nil, [], _, _, _ => rfl
  | .nil, _ :: _, _, _, e => by cases e
  | .cons t ts, [], _, _, e => by cases e
  | .cons t ts, x :: xs, r, r', e => by
    have e : (asg t x r).bind (fun r => asgs ts xs r) = some r' := e
    cases e1 : asg t x r with
    | none => rw [e1] at e; cases e
    | some r1 =>
      rw [e1] at e
      exact congrArg (· + 1) (asgs_len ts e)
end
end
theorem SI.up {p : Par} {B : List Nat} {ρ : List Addr} {Y : Addr → Prop} {ow : Own} {σ σ' : L2.St} {H : Hp} {r r' : Env} {s : Store} {is : List Nat} (I : SI p B ρ Y ow σ H r s) (u : Up p.K p.fa ρ (fz (Mt Y ρ) H) is r r' σ σ') (h : ∀ i ∈ is, i ∉ B) : SI p B ρ Y ow σ' H r' s where
  bs := I.bs
  bnd := I.bnd
  pre := I.pre
  new := I.new
  frame := I.frame
  m0 := I.m0
  th := I.th
  st := I.st
  len := by rw [u.lr, u.ls]; exact I.len
  vars := fun i v hi e => by
    by_cases hm : i ∈ is
    · exact u.inn i v hm e
    · rw [(u.out i hm).1] at e
      rw [(u.out i hm).2]
      exact I.vars i v hi e
  owns := fun i a ha => by
    have hB : i ∈ B := by rw [← I.bs]; exact List.mem_map.mpr ⟨_, ha, rfl⟩
    have hm : i ∉ is := fun z => h i z hB
    rw [(u.out i hm).1, (u.out i hm).2]
    exact I.owns i a ha
  dis := I.dis
theorem wipe_len (r : Env) : ∀ vs : List Nat, (PyI.wipe r vs).length = r.length
  | [] => rfl
  | v :: vs => by show ((PyI.wipe r vs).set v none).length = _; rw [List.length_set, wipe_len r vs]
theorem wipe_get {r : Env} {i : Nat} {x : PV} : ∀ {vs : List Nat}, (PyI.wipe r vs)[i]? = some (some x) → r[i]? = some (some x) ∧ i ∉ vs
  | [], h => ⟨h, by simp⟩
  | v :: vs, h => by
    have h : ((PyI.wipe r vs).set v none)[i]? = some (some x) := h
    by_cases hi : v = i
    · subst hi
      by_cases hv : v < (PyI.wipe r vs).length
      · rw [List.getElem?_set_self hv] at h; cases h
      · rw [List.getElem?_eq_none (by simpa using hv)] at h; cases h
    · rw [List.getElem?_set_ne hi] at h
      obtain ⟨h1, h2⟩ := wipe_get h
      exact ⟨h1, by simp only [List.mem_cons, not_or]; exact ⟨fun e => hi e.symm, h2⟩⟩
theorem wipe_not {α : Type} {r : List (Option α)} {i : Nat} : ∀ {vs : List Nat} {f : List Nat → List (Option α)}, f [] = r → (∀ v vs, f (v :: vs) = (f vs).set v none) → i ∉ vs → (f vs)[i]? = r[i]?
  | [], f, h0, _, _ => by rw [h0]
  | v :: vs, f, h0, hc, hi => by
    rw [hc, List.getElem?_set_ne (fun e => hi (by simp [e]))]
    exact wipe_not h0 hc fun h => hi (List.mem_cons_of_mem _ h)
/-- a block's own names forgotten -/
theorem SI.wiped {p : Par} {B : List Nat} {ρ : List Addr} {Y : Addr → Prop} {ow : Own} {σ : L2.St} {H : Hp} {r : Env} {s : Store} (I : SI p B ρ Y ow σ H r s) {vs : List Nat} (h : ∀ i ∈ vs, i ∉ B) : SI p B ρ Y ow (L2.wipe σ vs) H (PyI.wipe r vs) s where
  bs := I.bs
  bnd := I.bnd
  pre := I.pre
  new := I.new
  frame := I.frame
  m0 := I.m0
  th := I.th
  st := I.st
  len := by rw [wipe_len, wipe_length]; exact I.len
  vars := fun i v hi e => by
    obtain ⟨e1, e2⟩ := wipe_get e
    obtain ⟨u, h1, h2⟩ := I.vars i v hi e1
    exact ⟨u, by rw [wipe_out e2]; exact h1, h2⟩
  owns := fun i a ha => by
    have hB : i ∈ B := by rw [← I.bs]; exact List.mem_map.mpr ⟨_, ha, rfl⟩
    have hm : i ∉ vs := fun z => h i z hB
    rw [wipe_out hm, wipe_not (f := PyI.wipe r) rfl (fun _ _ => rfl) hm]
    exact I.owns i a ha
  dis := I.dis
/-- stored in a block's own names: forgotten they are as before -/
theorem Up.wipe {K : PySem.W.Frag} {fa : Nat → Addr} {ρ : List Addr} {G : Hp} {is vs : List Nat} {r r' : Env} {σ σ' : L2.St} (u : Up K fa ρ G is r r' σ σ') (h : ∀ i ∈ is, i ∈ vs) : L2.wipe σ' vs = L2.wipe σ vs := by
  have wn : ∀ (σ : L2.St) (vs : List Nat) (i : Nat), i ∈ vs → i < σ.length → (L2.wipe σ vs)[i]? = some none := by
    intro σ vs i hi hl
    induction vs with
    | nil => simp at hi
    | cons v vs ih =>
      show ((L2.wipe σ vs).set v none)[i]? = _
      by_cases e : v = i
      · subst e
        rw [List.getElem?_set_self (by rw [wipe_length]; exact hl)]
      · rw [List.getElem?_set_ne e]
        exact ih ((List.mem_cons.mp hi).resolve_left fun z => e z.symm)
  apply List.ext_getElem?
  intro i
  by_cases hi : i ∈ vs
  · by_cases hl : i < σ.length
    · rw [wn σ vs i hi hl, wn σ' vs i hi (by rw [u.ls]; exact hl)]
    · rw [List.getElem?_eq_none (by rw [wipe_length, u.ls]; omega), List.getElem?_eq_none (by rw [wipe_length]; omega)]
  · rw [wipe_out hi, wipe_out hi]
    exact (u.out i fun z => hi (h i z)).2

/-! ### targets of the text -/
mutual
def chkTg (c : Ctx) : Tg → Expr → Bool
  | .name i, .Name x _ => decide (c.N[i]? = some x) && stoC c x
  | .tup ts, .Tuple es _ _ => chkTgs c ts es
  | _, _ => false
def chkTgs (c : Ctx) : Tgs → List Expr → Bool
  | .nil, [] => true
  | .cons t ts, e :: es => chkTg c t e && chkTgs c ts es
  | _, _ => false
end
section
variable {c : Ctx} {p : Par} {k : Nat} {cf : CF} {X : Cx} {B : List Nat}
theorem asgE_len {env : PySem.Env} : ∀ (ts : Tgs) {es : List Expr}, chkTgs c ts es = true → (assignEach es env).length = lenT ts ∧ (assignEach es env).findIdx? (·.1) = none
  | .nil, [], _ => ⟨rfl, rfl⟩
  | .nil, _ :: _, h => by cases h
  | .cons _ _, [], h => by cases h
  | .cons t ts, e :: es, h => by
    have h' : chkTg c t e = true ∧ chkTgs c ts es = true := by simpa [chkTgs] using h
    obtain ⟨h1, h2⟩ := asgE_len (env := env) ts h'.2
    have e1 : assignEach (e :: es) env = (false, assign e env) :: assignEach es env := by
      cases e <;> first | rfl | (cases t <;> cases h'.1)
    rw [e1]
    refine ⟨congrArg (· + 1) h1, ?_⟩
    rw [List.findIdx?_cons]
    simp [h2]
mutual
theorem g_tg (g : GoodX c p k cf X) : ∀ (t : Tg) {x : Expr}, chkTg c t x = true → PG X x (gT X.K t)
  | .name i, x, h => by
    cases x with
    | Name y pos =>
      have h' : c.N[i]? = some y ∧ stoC c y = true := by simpa [chkTg] using h
      obtain ⟨hl, hs⟩ := stoC_ok g h'.2
      exact pg_name (by rw [g.N]; exact g.nd) (by rw [g.N]; exact h'.1) hl hs
    | _ => cases h
  | .tup ts, x, h => by
    cases x with
    | Tuple es n pos =>
      have h' : chkTgs c ts es = true := h
      obtain ⟨h1, h2⟩ := asgE_len (env := X.env) ts h'
      exact pg_tupE g.calm (g_tgs g ts h') h1 h2
    | _ => cases h
theorem g_tgs (g : GoodX c p k cf X) : ∀ (ts : Tgs) {es : List Expr}, chkTgs c ts es = true → PGs X es (gTs X.K ts)
  | .nil, [], _ => pgs_nil
  | .nil, _ :: _, h => by cases h
  | .cons _ _, [], h => by cases h
  | .cons t ts, e :: es, h => by
    have h' : chkTg c t e = true ∧ chkTgs c ts es = true := by simpa [chkTgs] using h
    refine pgs_cons (g_tg g t h'.1) (g_tgs g ts h'.2) ?_
    cases e <;> first | rfl | (cases t <;> cases h'.1)
end

/-! ### what is walked -/
def Iter (K : PySem.W.Frag) (fa : Nat → Addr) (ρ : List Addr) (G : Hp) (J : L2.It) (xs : List PV) : Prop := ∀ (i : Nat) (Y2 : Addr → Prop) (ρ2 : List Addr) (H2 : Hp), ρ <+: ρ2 → Same G (fz (Mt Y2 ρ2) H2) → (∀ b, Mt Y2 ρ2 b → H2 b ≠ none) →
  (∀ v, xs[i]? = some v → J.go i H2 ∧ ∀ x H3, J.yld i H2 x H3 → Same H2 H3 ∧ PRel K fa ρ2 (fz (Mt Y2 ρ2) H3) v x) ∧ (xs.length = i → J.stop i H2)
def simI (p : Par) (cf : CF) (B : List Nat) (it : It) : TI := fun σ H R => ∃ ρ Y ow r s, SI p B ρ Y ow σ H r s ∧ ∃ xs s', evI cf it r s = .ok xs s' ∧
  ∀ J H' ρ', Step ρ H ρ' H' → StR ρ' H' s' → Iter p.K p.fa ρ' (fz (Mt Y ρ') H') J xs → R J H'
theorem getV {K : PySem.W.Frag} {fa : Nat → Addr} {ρ : List Addr} {H : Hp} {xs : List PV} {vs : List V} (r : PRels K fa ρ H xs vs) {i : Nat} {v : PV} {x : V} (h : xs[i]? = some v) (e : vs[i]? = some x) : PRel K fa ρ H v x := by
  obtain ⟨y, h1, h2⟩ := r.get h
  rw [e] at h1
  cases h1
  exact h2
theorem iter_seqs {K : PySem.W.Frag} {fa : Nat → Addr} {ρ : List Addr} {G : Hp} {J : L2.It} {xs : List PV} {vs : List V} (r : PRels K fa ρ G xs vs) (hg : ∀ i H2, Same G H2 → (∀ x, vs[i]? = some x → J.go i H2) ∧ (vs.length = i → J.stop i H2))
    (hy : ∀ i H2 x H3, Same G H2 → J.yld i H2 x H3 → H3 = H2 ∧ vs[i]? = some x) : Iter K fa ρ G J xs := by
  intro i Y2 ρ2 H2 hp hs ht
  have s2 : Same G H2 := hs.trans fz_same
  refine ⟨fun v hv => ?_, fun hl => ?_⟩
  · obtain ⟨x, hx, _⟩ := r.get hv
    refine ⟨(hg i H2 s2).1 x hx, fun y H3 hyy => ?_⟩
    obtain ⟨rfl, hx2⟩ := hy i H2 y H3 s2 hyy
    exact ⟨Same.refl _, (getV r hv hx2).mono hp hs⟩
  · exact (hg i H2 s2).2 (by rw [← r.length]; exact hl)
theorem str_rels {K : PySem.W.Frag} {fa : Nat → Addr} {ρ : List Addr} {H : Hp} : ∀ {x : List Nat}, okS x = true → PRels K fa ρ H (x.map fun c => PV.str [c]) (x.map fun c => V.str ⟨#[c]⟩)
  | [], _ => .nil
  | c :: x, h => by
    have h' : decide (c < 1114112) = true ∧ okS x = true := by simpa [okS] using h
    exact .cons (.str [c] (by unfold okS; rw [List.all_cons, h'.1]; rfl)) (str_rels h'.2)
/-- a value that is walked: as a source -/
theorem sk_of {K : PySem.W.Frag} {fa : Nat → Addr} {ρ : List Addr} {G H : Hp} {v : PV} {x : V} {xs : List PV} (r : PRel K fa ρ G v x) (e : itemsOf v = some xs) (sm : Same G H) :
    ∃ vs, PRels K fa ρ G xs vs ∧ ∀ S : SK → Prop, (∀ q : SK, (∀ H2, Same G H2 → q.vs K H2 vs) → S q) → SKR K x H vs S := by
  cases r with
  | lst h r => cases e; exact ⟨_, r, fun S z => .inl ⟨_, rfl, SqL.of (sm _ _ h), z (.l _) fun H2 s => SqL.of (s _ _ h)⟩⟩
  | tup h r => cases e; exact ⟨_, r, fun S z => .inr (.inl ⟨_, rfl, Same.sqT sm h, z (.t _) fun H2 s => Same.sqT s h⟩)⟩
  | scr h r => cases e; exact ⟨_, r, fun S z => .inl ⟨_, rfl, (Same.scL sm h).sqL, z (.l _) fun H2 s => (Same.scL s h).sqL⟩⟩
  | str s hs => cases e; exact ⟨_, str_rels hs, fun S z => .inr (.inr ⟨_, rfl, rfl, fun t => z (.s _ t) fun H2 _ => rfl⟩)⟩
  | _ => cases e
theorem i_seq (g : GoodX c p k cf X) {e : E} {tg x : Expr} (h : PE X x (simE p cf B e)) : PI X tg x (simI p cf B (.seq e)) := PI.imp (PyI.PI.or (PyI.PI.or (pi_list h) (pi_tup h)) (pi_str h)) (by
  rintro σ H R ⟨ρ, Y, ow, r, s, I, xs, s', e0, q⟩
  obtain ⟨v, s1, e1, f⟩ := Res.bind_eq_ok (show (ev cf e r s).bind _ = _ from e0)
  obtain ⟨e2, rfl⟩ := Res.ofO_eq_ok f
  have go : ∀ {T : V → Hp → Prop}, (∀ u H' ρ', Step ρ H ρ' H' → StR ρ' H' s' → Rl p ρ' Y H' v u → T u H') → simE p cf B e σ H T := fun z => ⟨ρ, Y, ow, r, s, I, v, s', e1, fun u H' ρ' t st rl _ => z u H' ρ' t st rl⟩
  cases v with
  | lst l =>
    cases e2
    refine or1 (or1 (go fun u H' ρ' t st rl => ?_))
    cases rl with
    | lst h rr =>
      rw [g.K]
      refine ⟨_, rfl, ⟨_, SqL.of (fz_same _ _ h)⟩, q _ H' ρ' t st (iter_seqs rr (fun i H2 s2 => ⟨fun x hx => ⟨_, x, SqL.of (s2 _ _ h), hx⟩, fun hl => ⟨_, SqL.of (s2 _ _ h), Nat.le_of_eq hl⟩⟩) fun i H2 x H3 s2 hy => ⟨hy.1, hy.2 _ (SqL.of (s2 _ _ h))⟩)⟩
  | scr l =>
    cases e2
    refine or1 (or1 (go fun u H' ρ' t st rl => ?_))
    cases rl with
    | scr h rr =>
      rw [g.K]
      refine ⟨_, rfl, ⟨_, (Same.scL fz_same h).sqL⟩, q _ H' ρ' t st (iter_seqs rr (fun i H2 s2 => ⟨fun x hx => ⟨_, x, (Same.scL s2 h).sqL, hx⟩, fun hl => ⟨_, (Same.scL s2 h).sqL, Nat.le_of_eq hl⟩⟩) fun i H2 x H3 s2 hy => ⟨hy.1, hy.2 _ (Same.scL s2 h).sqL⟩)⟩
  | tup l =>
    cases e2
    refine or1 (or2 (go fun u H' ρ' t st rl => ?_))
    cases rl with
    | tup h rr =>
      rw [g.K]
      refine ⟨_, rfl, ⟨_, Same.sqT fz_same h⟩, q _ H' ρ' t st (iter_seqs rr (fun i H2 s2 => ⟨fun x hx => ⟨_, x, Same.sqT s2 h, hx⟩, fun hl => ⟨_, Same.sqT s2 h, Nat.le_of_eq hl⟩⟩) fun i H2 x H3 s2 hy => ⟨hy.1, hy.2 _ (Same.sqT s2 h)⟩)⟩
  | str l =>
    cases e2
    refine or2 (go fun u H' ρ' t st rl => ?_)
    cases rl with
    | str _ hs =>
      refine ⟨_, rfl, q _ H' ρ' t st (iter_seqs (str_rels hs) (fun i H2 s2 => ⟨fun x hx => ?_, fun hl => ?_⟩) fun i H2 x H3 s2 hy => ⟨hy.1, ?_⟩)⟩
      · have := (List.getElem?_eq_some_iff.mp hx).1
        show i < l.toArray.size
        simpa using this
      · show l.toArray.size ≤ i
        simp at hl
        simp [hl]
      · obtain ⟨ch, h1, rfl⟩ := hy.2
        have h1 : l[i]? = some ch := by simpa using h1
        rw [List.getElem?_map, h1]
        rfl
  | _ => cases e2)
theorem rangeL_get : ∀ (n : Nat) (lo : Int) (i : Nat) (v : PV), (rangeL lo n)[i]? = some v → v = .int (lo + i) ∧ i < n
  | 0, _, _, _, h => by simp [rangeL] at h
  | n + 1, lo, 0, v, h => by
    simp [rangeL] at h
    exact ⟨by rw [← h]; simp, Nat.succ_pos n⟩
  | n + 1, lo, i + 1, v, h => by
    have h : (rangeL (lo + 1) n)[i]? = some v := by simpa [rangeL] using h
    obtain ⟨h1, h2⟩ := rangeL_get n (lo + 1) i v h
    refine ⟨?_, by omega⟩
    rw [h1]
    congr 1
    omega
theorem rangeL_len : ∀ (n : Nat) (lo : Int), (rangeL lo n).length = n
  | 0, _ => rfl
  | n + 1, lo => congrArg (· + 1) (rangeL_len n (lo + 1))
theorem iter_range {K : PySem.W.Frag} {fa : Nat → Addr} {ρ : List Addr} {G : Hp} {lo : Int} {n : Nat} : Iter K fa ρ G (Itr lo n) (rangeL lo n) := by
  intro i Y2 ρ2 H2 hp hs ht
  refine ⟨fun v hv => ?_, fun hl => ?_⟩
  · obtain ⟨rfl, h2⟩ := rangeL_get _ _ _ _ hv
    refine ⟨h2, fun x H3 hy => ?_⟩
    obtain ⟨rfl, rfl⟩ := hy
    exact ⟨Same.refl _, .int _⟩
  · rw [rangeL_len] at hl
    exact Nat.le_of_eq hl
theorem i_range1 (g : GoodX c p k cf X) {a : E} {tg x : Expr} {pf pos : Pos} (h1 : ("range" : Str) ∈ c.free) (h2 : glC c.sc "range" = true) (hx : plainE x = true) (ha : PE X x (simE p cf B a)) : PI X tg (.Call (.Name "range" pf) [x] [] pos) (simI p cf B (.range1 a)) :=
  PI.imp (pi_range1 (glC_ok g h2) (g.free _ h1) (pa_cons ha pa_nil (star_cons hx)) (star_cons hx)) (by
  rintro σ H R ⟨ρ, Y, ow, r, s, I, xs, s', e0, q⟩
  obtain ⟨v, s1, e1, f⟩ := Res.bind_eq_ok (show (ev cf a r s).bind _ = _ from e0)
  obtain ⟨e2, rfl⟩ := Res.ofO_eq_ok f
  refine ⟨ρ, Y, ow, r, s, I, v, s', e1, fun u H' ρ' t st rl _ => ?_⟩
  cases rl with
  | int j =>
    have e2 : (if lim62 j = true then some (rangeL 0 j.toNat) else none) = some xs := e2
    split at e2
    · rename_i hz
      cases e2
      have hz' : -(2 ^ 62) ≤ j ∧ j < 2 ^ 62 := by simpa [lim62] using hz
      exact ⟨j, rfl, hz'.1, hz'.2, q _ H' ρ' t st iter_range⟩
    · cases e2
  | _ => cases e2)
theorem i_range2 (g : GoodX c p k cf X) {a b : E} {tg x y : Expr} {pf pos : Pos} (h1 : ("range" : Str) ∈ c.free) (h2 : glC c.sc "range" = true) (hx : plainE x = true) (hy : plainE y = true) (ha : PE X x (simE p cf B a)) (hb : PE X y (simE p cf B b)) :
    PI X tg (.Call (.Name "range" pf) [x, y] [] pos) (simI p cf B (.range2 a b)) :=
  PI.imp (pi_range2 (glC_ok g h2) (g.free _ h1) (pa_cons ha (pa_cons hb pa_nil (star_cons hy)) (star_cons hx)) (by rw [star_cons hx, star_cons hy]; rfl) (star_cons hy)) (by
  rintro σ H R ⟨ρ, Y, ow, r, s, I, xs, s', e0, q⟩
  obtain ⟨v, s1, e1, f⟩ := Res.bind_eq_ok (show (ev cf a r s).bind _ = _ from e0)
  obtain ⟨v2, s2, e2, f2⟩ := Res.bind_eq_ok f
  obtain ⟨e3, rfl⟩ := Res.ofO_eq_ok f2
  refine ⟨ρ, Y, ow, r, s, I, v, s1, e1, fun u H1 ρ1 t1 st1 rl _ => ?_⟩
  have I1 := I.step t1 st1
  refine ⟨ρ1, Y, ow, r, s1, I1, v2, s', e2, fun u2 H2 ρ2 t2 st2 rl2 _ => ?_⟩
  cases rl with
  | int i => cases rl2 with
    | int j =>
      have e3 : (if (lim62 i && lim62 j) = true then some (rangeL i (j - i).toNat) else none) = some xs := e3
      split at e3
      · rename_i hz
        cases e3
        have hz' : (-(2 ^ 62) ≤ i ∧ i < 2 ^ 62) ∧ -(2 ^ 62) ≤ j ∧ j < 2 ^ 62 := by simpa [lim62] using hz
        exact ⟨i, j, rfl, ⟨hz'.1.1, hz'.1.2, hz'.2.1, hz'.2.2⟩, q _ H2 ρ2 (t1.trans t2) st2 iter_range⟩
      · cases e3
    | _ => cases e3
  | _ => cases rl2 <;> cases e3)
theorem enumL_get : ∀ (xs : List PV) (lo : Int) (i : Nat) (v : PV), (enumL lo xs)[i]? = some v → ∃ x, xs[i]? = some x ∧ v = .tup [.int (lo + i), x]
  | [], _, _, _, h => by simp [enumL] at h
  | x :: xs, lo, 0, v, h => by
    simp [enumL] at h
    exact ⟨x, rfl, by rw [← h]; simp⟩
  | x :: xs, lo, i + 1, v, h => by
    have h : (enumL (lo + 1) xs)[i]? = some v := by simpa [enumL] using h
    obtain ⟨y, h1, h2⟩ := enumL_get xs (lo + 1) i v h
    refine ⟨y, by simpa using h1, ?_⟩
    rw [h2]
    congr 3
    omega
theorem enumL_len : ∀ (xs : List PV) (lo : Int), (enumL lo xs).length = xs.length
  | [], _ => rfl
  | _ :: xs, lo => congrArg (· + 1) (enumL_len xs (lo + 1))
theorem zipL_get : ∀ (xs ys : List PV) (i : Nat) (v : PV), (zipL xs ys)[i]? = some v → ∃ x y, xs[i]? = some x ∧ ys[i]? = some y ∧ v = .tup [x, y]
  | [], ys, _, _, h => by simp [zipL] at h
  | x :: xs, [], _, _, h => by simp [zipL] at h
  | x :: xs, y :: ys, 0, v, h => by
    simp [zipL] at h
    exact ⟨x, y, rfl, rfl, h.symm⟩
  | x :: xs, y :: ys, i + 1, v, h => by
    have h : (zipL xs ys)[i]? = some v := by simpa [zipL] using h
    obtain ⟨a, b, h1, h2, h3⟩ := zipL_get xs ys i v h
    exact ⟨a, b, by simpa using h1, by simpa using h2, h3⟩
theorem zipL_len : ∀ (xs ys : List PV), (zipL xs ys).length = min xs.length ys.length
  | [], ys => by simp [zipL]
  | x :: xs, [] => by simp [zipL]
  | x :: xs, y :: ys => by
    simp only [zipL, List.length_cons, zipL_len xs ys]
    omega
/-- sources stand as the heap goes on -/
theorem sk_same {K : PySem.W.Frag} {H H' : Hp} {q : SK} {vs : List V} {G : Hp} (h : q.vs K G vs) (s : Same G H') : q.vs K H' vs := by
  cases q with
  | l a => exact Same.seq s h
  | t a => exact Same.sqT s h
  | s x u => exact h
theorem tup_new {K : PySem.W.Frag} {fa : Nat → Addr} {ρ : List Addr} {M : Addr → Prop} {H : Hp} {xs : List PV} {vs : List V} {T : Addr} (hT : H T = none) (hM : ∀ b, M b → H b ≠ none) (r : PRels K fa ρ (fz M H) xs vs) : Same H (upd H T (.tup vs)) ∧ PRel K fa ρ (fz M (upd H T (.tup vs))) (.tup xs) (.ref T) := by
  have s1 : Same H (upd H T (.tup vs)) := same_updN hT
  have nM : ¬ M T := fun z => hM T z hT
  refine ⟨s1, .tup (SqT.of ?_) (r.mono List.prefix_rfl (fz_mono fun b o hn e => ⟨hn, s1 b o e⟩))⟩
  rw [fz_eq nM, upd_same]
theorem iter_enum {K : PySem.W.Frag} {fa : Nat → Addr} {ρ : List Addr} {G : Hp} {xs : List PV} {vs : List V} {lo : Int} (r : PRels K fa ρ G xs vs) {q : SK} (hq : ∀ H2, Same G H2 → q.vs K H2 vs) : Iter K fa ρ G (ItE K q lo) (enumL lo xs) := by
  intro i Y2 ρ2 H2 hp hs ht
  have s2 : Same G H2 := hs.trans fz_same
  refine ⟨fun v hv => ?_, fun hl => ⟨vs, hq H2 s2, by rw [← r.length, ← enumL_len xs lo]; exact hl⟩⟩
  obtain ⟨x, hx, rfl⟩ := enumL_get _ _ _ _ hv
  obtain ⟨u, hu, ru⟩ := r.get hx
  refine ⟨⟨vs, u, hq H2 s2, hu⟩, fun y H3 hy => ?_⟩
  obtain ⟨T, u', rfl, hT, rfl, h5⟩ := hy
  have := h5 vs (hq H2 s2)
  rw [hu] at this
  cases this
  exact tup_new hT ht (.cons (.int _) (.cons (ru.mono hp hs) .nil))
theorem iter_zip {K : PySem.W.Frag} {fa : Nat → Addr} {ρ : List Addr} {G : Hp} {xs ys : List PV} {vs ws : List V} (r : PRels K fa ρ G xs vs) (r2 : PRels K fa ρ G ys ws) {q l : SK} (hq : ∀ H2, Same G H2 → q.vs K H2 vs) (hl : ∀ H2, Same G H2 → l.vs K H2 ws) : Iter K fa ρ G (ItZ K q l) (zipL xs ys) := by
  intro i Y2 ρ2 H2 hp hs ht
  have s2 : Same G H2 := hs.trans fz_same
  refine ⟨fun v hv => ?_, fun he => ⟨vs, ws, hq H2 s2, hl H2 s2, by rw [← r.length, ← r2.length, ← zipL_len]; exact he⟩⟩
  obtain ⟨x, y, hx, hy, rfl⟩ := zipL_get _ _ _ _ hv
  obtain ⟨u, hu, ru⟩ := r.get hx
  obtain ⟨u2, hu2, ru2⟩ := r2.get hy
  refine ⟨⟨vs, ws, u, u2, hq H2 s2, hl H2 s2, hu, hu2⟩, fun z H3 hz => ?_⟩
  obtain ⟨T, a, b, rfl, hT, rfl, h5, h6⟩ := hz
  have e1 := h5 vs (hq H2 s2)
  have e2 := h6 ws (hl H2 s2)
  rw [hu] at e1
  rw [hu2] at e2
  cases e1
  cases e2
  exact tup_new hT ht (.cons (ru.mono hp hs) (.cons (ru2.mono hp hs) .nil))
theorem i_enum (g : GoodX c p k cf X) {a : E} {x : Expr} {elts : List Expr} {kk : Nat} {tpos pf pos : Pos} (h1 : ("enumerate" : Str) ∈ c.free) (h2 : glC c.sc "enumerate" = true) (hx : plainE x = true) (ha : PE X x (simE p cf B a)) :
    PI X (.Tuple elts kk tpos) (.Call (.Name "enumerate" pf) [x] [] pos) (simI p cf B (.enum a)) :=
  PI.imp (pi_enumE (glC_ok g h2) (g.free _ h1) (pa_cons ha pa_nil (star_cons hx)) (star_cons hx)) (by
  rintro σ H R ⟨ρ, Y, ow, r, s, I, xs, s', e0, q⟩
  obtain ⟨v, s1, e1, f⟩ := Res.bind_eq_ok (show (ev cf a r s).bind _ = _ from e0)
  obtain ⟨e2, rfl⟩ := Res.ofO_eq_ok f
  cases e3 : itemsOf v with
  | none => rw [e3] at e2; cases e2
  | some ys =>
    rw [e3] at e2
    cases e2
    refine ⟨ρ, Y, ow, r, s, I, v, s', e1, fun u H' ρ' t st rl _ => ?_⟩
    obtain ⟨vs, h1, h2⟩ := sk_of rl e3 fz_same
    rw [g.K]
    exact ⟨u, vs, rfl, h2 _ fun z hz => q _ H' ρ' t st (iter_enum h1 hz)⟩)
theorem i_enum2 (g : GoodX c p k cf X) {a b : E} {x y : Expr} {elts : List Expr} {kk : Nat} {tpos pf pos : Pos} (h1 : ("enumerate" : Str) ∈ c.free) (h2 : glC c.sc "enumerate" = true) (hx : plainE x = true) (hy : plainE y = true) (ha : PE X x (simE p cf B a)) (hb : PE X y (simE p cf B b)) :
    PI X (.Tuple elts kk tpos) (.Call (.Name "enumerate" pf) [x, y] [] pos) (simI p cf B (.enum2 a b)) :=
  PI.imp (pi_enumE2 (glC_ok g h2) (g.free _ h1) (pa_cons ha (pa_cons hb pa_nil (star_cons hy)) (star_cons hx)) (star_cons hx) (star_any (by simp [hy]))) (by
  rintro σ H R ⟨ρ, Y, ow, r, s, I, xs, s', e0, q⟩
  obtain ⟨v, s1, e1, f⟩ := Res.bind_eq_ok (show (ev cf a r s).bind _ = _ from e0)
  obtain ⟨v2, s2, e2, f2⟩ := Res.bind_eq_ok f
  obtain ⟨e3, rfl⟩ := Res.ofO_eq_ok f2
  cases e4 : itemsOf v with
  | none => rw [e4] at e3; cases e3
  | some ys =>
    rw [e4] at e3
    refine ⟨ρ, Y, ow, r, s, I, v, s1, e1, fun u H1 ρ1 t1 st1 rl _ => ?_⟩
    have I1 := I.step t1 st1
    refine ⟨ρ1, Y, ow, r, s1, I1, v2, s', e2, fun u2 H2 ρ2 t2 st2 rl2 _ => ?_⟩
    cases rl2 with
    | int i =>
      have e3 : (if lim62 i = true then some (enumL i ys) else none) = some xs := e3
      split at e3
      · rename_i hz
        cases e3
        obtain ⟨vs, h1, h2⟩ := sk_of (rl.mono t2.pre (I1.same t2)) e4 fz_same
        rw [g.K]
        exact ⟨u, vs, i, rfl, hz, h2 _ fun z hz => q _ H2 ρ2 (t1.trans t2) st2 (iter_enum h1 hz)⟩
      · cases e3
    | _ => cases e3)
theorem i_zip (g : GoodX c p k cf X) {a b : E} {x y : Expr} {elts : List Expr} {kk : Nat} {tpos pf pos : Pos} (h1 : ("zip" : Str) ∈ c.free) (h2 : glC c.sc "zip" = true) (hx : plainE x = true) (hy : plainE y = true) (ha : PE X x (simE p cf B a)) (hb : PE X y (simE p cf B b)) :
    PI X (.Tuple elts kk tpos) (.Call (.Name "zip" pf) [x, y] [] pos) (simI p cf B (.zip a b)) :=
  PI.imp (pi_zipE (glC_ok g h2) (g.free _ h1) (pa_cons ha (pa_cons hb pa_nil (star_cons hy)) (star_cons hx)) (star_cons hx) (star_any (by simp [hy]))) (by
  rintro σ H R ⟨ρ, Y, ow, r, s, I, xs, s', e0, q⟩
  obtain ⟨v, s1, e1, f⟩ := Res.bind_eq_ok (show (ev cf a r s).bind _ = _ from e0)
  obtain ⟨v2, s2, e2, f2⟩ := Res.bind_eq_ok f
  obtain ⟨e3, rfl⟩ := Res.ofO_eq_ok f2
  cases e4 : itemsOf v with
  | none => rw [e4] at e3; cases e3
  | some ys =>
    cases e5 : itemsOf v2 with
    | none => rw [e4, e5] at e3; cases e3
    | some zs =>
      rw [e4, e5] at e3
      cases e3
      refine ⟨ρ, Y, ow, r, s, I, v, s1, e1, fun u H1 ρ1 t1 st1 rl _ => ?_⟩
      have I1 := I.step t1 st1
      refine ⟨ρ1, Y, ow, r, s1, I1, v2, s', e2, fun u2 H2 ρ2 t2 st2 rl2 _ => ?_⟩
      obtain ⟨vs, h1, h2⟩ := sk_of (rl.mono t2.pre (I1.same t2)) e4 fz_same
      obtain ⟨ws, h3, h4⟩ := sk_of rl2 e5 fz_same
      rw [g.K]
      exact ⟨u, u2, vs, ws, rfl, h2 _ fun z hz => h4 _ fun l hl => q _ H2 ρ2 (t1.trans t2) st2 (iter_zip h1 h3 hz hl)⟩)
theorem i_zipN (g : GoodX c p k cf X) {a b : E} {x y : Expr} {nx : Str} {tpos pf pos : Pos} (h1 : ("zip" : Str) ∈ c.free) (h2 : glC c.sc "zip" = true) (hx : plainE x = true) (hy : plainE y = true) (ha : PE X x (simE p cf B a)) (hb : PE X y (simE p cf B b)) :
    PI X (.Name nx tpos) (.Call (.Name "zip" pf) [x, y] [] pos) (simI p cf B (.zip a b)) :=
  PI.imp (pi_zipN (glC_ok g h2) (g.free _ h1) (pa_cons ha (pa_cons hb pa_nil (star_cons hy)) (star_cons hx)) (star_cons hx) (star_any (by simp [hy]))) (by
  rintro σ H R ⟨ρ, Y, ow, r, s, I, xs, s', e0, q⟩
  obtain ⟨v, s1, e1, f⟩ := Res.bind_eq_ok (show (ev cf a r s).bind _ = _ from e0)
  obtain ⟨v2, s2, e2, f2⟩ := Res.bind_eq_ok f
  obtain ⟨e3, rfl⟩ := Res.ofO_eq_ok f2
  cases e4 : itemsOf v with
  | none => rw [e4] at e3; cases e3
  | some ys =>
    cases e5 : itemsOf v2 with
    | none => rw [e4, e5] at e3; cases e3
    | some zs =>
      rw [e4, e5] at e3
      cases e3
      refine ⟨ρ, Y, ow, r, s, I, v, s1, e1, fun u H1 ρ1 t1 st1 rl _ => ?_⟩
      have I1 := I.step t1 st1
      refine ⟨ρ1, Y, ow, r, s1, I1, v2, s', e2, fun u2 H2 ρ2 t2 st2 rl2 _ => ?_⟩
      obtain ⟨vs, h1, h2⟩ := sk_of (rl.mono t2.pre (I1.same t2)) e4 fz_same
      obtain ⟨ws, h3, h4⟩ := sk_of rl2 e5 fz_same
      rw [g.K]
      exact ⟨u, u2, vs, ws, rfl, h2 _ fun z hz => h4 _ fun l hl => q _ H2 ρ2 (t1.trans t2) st2 (iter_zip h1 h3 hz hl)⟩)
end
end PyI

set_option maxRecDepth 100000
/-! PyITZ: tuple(zip(xs, ys)). -/
namespace PyI
open PySem PySem.Spec PyProof.Rows L2
/-- a zip has come -/
def PZ (X : Cx) (pins : List (Addr × Obj)) (σ : L2.St) (R : L2.It → Hp → Prop) (itv : Value) (s2 : Shared) : Prop :=
  ∃ (it : Addr) (fp : List Addr) (tn : Nat → Heap → Prop) (J : L2.It) (H' : Hp), itv = .ref it ∧ L2.Inv X pins σ H' s2 ∧ L2.Turn X.prog X.w X.K (.Name "x" ⟨0, 0, 0, 0⟩) J fp it tn ∧ tn 0 s2.heap ∧ (∀ b ∈ fp, L2.FpOk X pins H' b) ∧ (∀ i h, tn i h → ∃ o, h.get? it = some o ∧ o.cls = .type "zip") ∧ R J H'
section
variable {X : Cx}
theorem zip_eval {e e2 : Expr} {ta : TA} {pp pos : Pos} (hg : Gl X "zip") (hm : X.mg "zip" = none) (ha : PA X [e, e2] ta) (hs : starEach [e, e2] X.env = (false, eval e X.env) :: starEach [e2] X.env) (hpl : (backTo pos (starEach [e2] X.env)).any (·.1) = false)
    {pins : List (Addr × Obj)} {s : Shared} {σ : L2.St} {H : Hp} {R : L2.It → Hp → Prop} (I : L2.Inv X pins σ H s) (h : ta σ H fun vs H1 => ∃ x y us ws, vs = [x, y] ∧ SKR X.K x H1 us fun k => SKR X.K y H1 ws fun l => R (ItZ X.K k l) H1) :
    wpAny (model X.prog X.w) X.A (eval (.Call (.Name "zip" pp) [e, e2] [] pos) X.env) (PZ X pins σ R) X.xe s := by
  refine Call_ (ld_blt I hg hm PyProof.Rows.boot_zip (PyProof.Rows.callWith_type1 (thn (ha.run pos pins s σ H _ I h) fun us s1 ⟨vs, H1, I1, r1, q1⟩ => ?_) hs hpl))
  obtain ⟨x, y, ws, zs, rfl, hq⟩ := q1
  obtain ⟨u, u2, rfl, rx, ry⟩ := vals2 r1
  obtain ⟨k, rfl, hk, hq2⟩ := hq.of rx
  obtain ⟨l, rfl, hl, q⟩ := hq2.of ry
  obtain ⟨G, Bg, g1⟩ := SK.begins I1 hk
  obtain ⟨G2, Bg2, g2⟩ := SK.begins I1 hl
  refine zip_begins2 Bg Bg2 g1 g2 fun h' hz hTI hTO h1 h2 _ hkp => ?_
  have I2 : L2.Inv X pins σ H1 { s1 with heap := h' } := I1.kept (t' := s1.toks) hkp
  have lt : ∀ (kk : SK) (us : List V), kk.vs X.K H1 us → ∀ b, (kk = .l b ∨ kk = .t b) → b < s1.heap.objs.size := by
    intro kk us hv b hb
    rcases hb with rfl | rfl
    · obtain ⟨its, rv, pl, _⟩ := I1.list hv
      exact pl.lt
    · obtain ⟨its, rv, pl, _⟩ := I1.tuple hv
      exact pl.lt
  have ne : ∀ a b : Nat, a ≠ b → s1.heap.objs.size + a ≠ s1.heap.objs.size + b := fun a b h e => h (Nat.add_left_cancel e)
  have D : ZA k l (s1.heap.objs.size + 4) (s1.heap.objs.size + 2) (s1.heap.objs.size + 3) s1.heap.objs.size (s1.heap.objs.size + 1) :=
    ⟨ne 2 4 (by decide), ne 3 4 (by decide), ne 2 3 (by decide), ne 2 0 (by decide), ne 2 1 (by decide), ne 4 0 (by decide), ne 4 1 (by decide), ne 3 0 (by decide), ne 3 1 (by decide), ne 0 1 (by decide), fun b hb e => by
      have h5 : b < s1.heap.objs.size := hb.elim (lt k _ hk b) (lt l _ hl b)
      rw [e] at h5
      exact absurd (Nat.lt_of_le_of_lt (Nat.le_add_right _ _) h5) (Nat.lt_irrefl _)⟩
  refine ⟨s1.heap.objs.size + 4, [s1.heap.objs.size + 4, s1.heap.objs.size + 2, s1.heap.objs.size + 3, s1.heap.objs.size, s1.heap.objs.size + 1], _, _, H1, rfl, I2, turn_zipN D, ⟨⟨_, _, hz, .inl rfl⟩, hTI, ⟨_, _, hTO⟩, SK.iter0 h1, SK.iter0 h2⟩, fun b hb => ?_, fun i h st => (let ⟨⟨_, _, e, _⟩, _⟩ := st; ⟨_, e, rfl⟩), q⟩
  have hle : s1.heap.objs.size ≤ b := by
    have hb' : b = s1.heap.objs.size + 4 ∨ b = s1.heap.objs.size + 2 ∨ b = s1.heap.objs.size + 3 ∨ b = s1.heap.objs.size ∨ b = s1.heap.objs.size + 1 := by simpa using hb
    rcases hb' with z | z | z | z | z <;> rw [z] <;> first | exact Nat.le_add_right _ _ | exact Nat.le_refl _
  exact I1.fpOk hle (I1.hok.fresh hle)
end
theorem iter_run {K : PySem.W.Frag} {fa : Nat → Addr} {ρ : List Addr} {Y : Addr → Prop} {H0 : Hp} {J : L2.It} {xs : List PV} (it : Iter K fa ρ (fz (Mt Y ρ) H0) J xs) : ∀ (n i : Nat) (H : Hp), n + i = xs.length → Same H0 H → (∀ b, Mt Y ρ b → H b ≠ none) →
    runJ J n i H fun vs H2 => Same H H2 ∧ PRels K fa ρ (fz (Mt Y ρ) H2) (xs.drop i) vs
  | 0, i, H, l, sm, th => by
    have q := it i Y ρ H List.prefix_rfl (fz_mono fun b o hn e => ⟨hn, sm b o e⟩) th
    refine ⟨q.2 (by omega), Same.refl _, ?_⟩
    rw [List.drop_of_length_le (by omega)]
    exact .nil
  | n + 1, i, H, l, sm, th => by
    have q := it i Y ρ H List.prefix_rfl (fz_mono fun b o hn e => ⟨hn, sm b o e⟩) th
    have hi : i < xs.length := by omega
    obtain ⟨g, hy⟩ := q.1 xs[i] (List.getElem?_eq_getElem hi)
    refine ⟨g, fun x H3 y => ?_⟩
    obtain ⟨s3, r3⟩ := hy x H3 y
    have th3 : ∀ b, Mt Y ρ b → H3 b ≠ none := fun b hb e => by
      cases z : H b with
      | none => exact th b hb z
      | some o => rw [s3 b o z] at e; cases e
    have ih := iter_run it n (i + 1) H3 (by omega) (sm.trans s3) th3
    have mono : ∀ {n i : Nat} {H : Hp} {Q Q' : List V → Hp → Prop}, runJ J n i H Q → (∀ xs H2, Q xs H2 → Q' xs H2) → runJ J n i H Q' := by
      intro n
      induction n with
      | zero => exact fun h m => ⟨h.1, m _ _ h.2⟩
      | succ n ih => exact fun h m => ⟨h.1, fun x H' hy => ih (h.2 x H' hy) fun xs H2 q => m _ _ q⟩
    refine mono ih fun vs H2 ⟨s4, r4⟩ => ⟨s3.trans s4, ?_⟩
    rw [List.drop_eq_getElem_cons hi]
    exact .cons (r3.mono List.prefix_rfl (fz_mono fun b o hn e => ⟨hn, s4 b o e⟩)) r4
section
variable {c : Ctx} {p : Par} {k : Nat} {cf : CF} {X : Cx} {B : List Nat}
theorem tup_v : bootBuiltins ("tuple" : Str) = some (.type "tuple") := by decide +kernel
theorem e_tzip (g : GoodX c p k cf X) {a b : E} {x y : Expr} {p1 p2 q1 q2 : Pos} (h1 : ("tuple" : Str) ∈ c.free) (h2 : glC c.sc "tuple" = true) (h3 : ("zip" : Str) ∈ c.free) (h4 : glC c.sc "zip" = true) (hx : plainE x = true) (hy : plainE y = true) (ha : PE X x (simE p cf B a)) (hb : PE X y (simE p cf B b)) :
    PE X (.Call (.Name "tuple" p1) [.Call (.Name "zip" p2) [x, y] [] q2] [] q1) (simE p cf B (.tzip a b)) := by
  refine ⟨fun pins s0 σ H Q I0 h => ?_⟩
  have na : starEach [Expr.Call (.Name "zip" p2) [x, y] [] q2] X.env = (false, eval (.Call (.Name "zip" p2) [x, y] [] q2) X.env) :: starEach [] X.env := star_cons rfl
  obtain ⟨ρ, Y, ow, r, s, I, v, s', e, q⟩ := h
  obtain ⟨va, s1, e1, f⟩ := Res.bind_eq_ok (show (ev cf a r s).bind _ = _ from e)
  obtain ⟨vb, s2, e2, f2⟩ := Res.bind_eq_ok f
  obtain ⟨e3, rfl⟩ := Res.ofO_eq_ok f2
  cases e4 : itemsOf va with
  | none => rw [e4] at e3; cases e3
  | some ys =>
    cases e5 : itemsOf vb with
    | none => rw [e4, e5] at e3; cases e3
    | some zs =>
      rw [e4, e5] at e3
      have e3 : (if (zipL ys zs).length ≤ SZ then some (PV.tup (zipL ys zs)) else none) = some v := e3
      split at e3
      · rename_i hz
        cases e3
        refine Call_ (ld_blt I0 (glC_ok g h2) (g.free _ h1) tup_v (PyProof.Rows.callWith_type1 (PyProof.Rows.args_cons (thn (zip_eval (glC_ok g h4) (g.free _ h3) (pa_cons ha (pa_cons hb pa_nil (star_cons hy)) (star_cons hx)) (star_cons hx) (star_any (by simp [hy]))
          (R := fun J H2 => runJ J (zipL ys zs).length 0 H2 fun vs H3 => ∀ pa, H3 pa = none → Q (.ref pa) (upd H3 pa (.tup vs))) I0 ?_) fun w s4 hw => PyProof.Rows.args_nil ?_) na) na))
        · refine ⟨ρ, Y, ow, r, s, I, va, s1, e1, fun u H1 ρ1 t1 st1 rl _ => ?_⟩
          have I1 := I.step t1 st1
          refine ⟨ρ1, Y, ow, r, s1, I1, vb, s', e2, fun u2 H2 ρ2 t2 st2 rl2 _ => ?_⟩
          have I2 := I1.step t2 st2
          obtain ⟨vs, k1, k2⟩ := sk_of (rl.mono t2.pre (I1.same t2)) e4 fz_same
          obtain ⟨ws, k3, k4⟩ := sk_of rl2 e5 fz_same
          rw [g.K]
          refine ⟨u, u2, vs, ws, rfl, k2 _ fun z hz' => k4 _ fun l hl => ?_⟩
          have run := iter_run (iter_zip k1 k3 hz' hl) (zipL ys zs).length 0 H2 (by omega) (Same.refl _) (fun b h => I2.there h)
          have mono : ∀ {J : L2.It} {n i : Nat} {H : Hp} {Q Q' : List V → Hp → Prop}, runJ J n i H Q → (∀ xs H2, Q xs H2 → Q' xs H2) → runJ J n i H Q' := by
            intro J n
            induction n with
            | zero => exact fun h m => ⟨h.1, m _ _ h.2⟩
            | succ n ih => exact fun h m => ⟨h.1, fun x H' hy => ih (h.2 x H' hy) fun xs H2 q => m _ _ q⟩
          refine mono run fun us H3 ⟨sm, rr⟩ pa hp => ?_
          rw [List.drop_zero] at rr
          have t3 : Step ρ2 H2 ρ2 H3 := Step.same sm
          have st3 := st2.same sm
          have I3 := I2.step t3 st3
          exact (q.gv ((t1.trans t2).trans t3) st3).tup (fun b h => I3.there h) rr pa hp
        · obtain ⟨it, fp, tn, J, H', rfl, I4, T, st, hf, hT, run⟩ := hw
          exact call_tuple_turn g.calm T hT I4 hf st run (by rw [sz_eq]; exact hz) fun xs H5 qq pa hp => qq pa hp
      · cases e3
end
end PyI

set_option maxRecDepth 100000
/-! PyI10: list comprehensions. -/
namespace PyI
open PySem PySem.Spec PyProof.Rows L2

theorem wipe_in {σ : L2.St} {vs : List Nat} {i : Nat} (hi : i ∈ vs) (hl : i < σ.length) : (L2.wipe σ vs)[i]? = some none := by
  induction vs with
  | nil => simp at hi
  | cons v vs ih =>
    show ((L2.wipe σ vs).set v none)[i]? = _
    by_cases e : v = i
    · subst e
      rw [List.getElem?_set_self (by rw [wipe_length]; exact hl)]
    · rw [List.getElem?_set_ne e]
      exact ih ((List.mem_cons.mp hi).resolve_left fun z => e z.symm)
theorem wipe_wipe (σ : L2.St) (vs : List Nat) : L2.wipe (L2.wipe σ vs) vs = L2.wipe σ vs := by
  apply List.ext_getElem?
  intro i
  by_cases hi : i ∈ vs
  · by_cases hl : i < σ.length
    · rw [wipe_in hi (by rw [wipe_length]; exact hl), wipe_in hi hl]
    · rw [List.getElem?_eq_none (by rw [wipe_length, wipe_length]; omega), List.getElem?_eq_none (by rw [wipe_length]; omega)]
  · rw [wipe_out hi]
/-- Y and a list that is just made -/
abbrev YD (Y : Addr → Prop) (D : Addr) : Addr → Prop := fun b => Y b ∨ b = D
theorem Step.updD {ρ ρ' : List Addr} {H H' : Hp} {D : Addr} {o : HO} (t : Step ρ H ρ' H') (h : H D = none) : Step ρ H ρ' (upd H' D o) := ⟨t.pre, t.new, fun b u e hb => by
  rw [upd_ne (ne_of_none e h)]
  exact t.keep b u e hb⟩
theorem StR.updD {ρ : List Addr} {H : Hp} {s : Store} {D : Addr} {o : HO} (st : StR ρ H s) (h : D ∉ ρ) : StR ρ (upd H D o) s := ⟨st.len, st.nd, fun i xs e => by
  obtain ⟨a, vs, h1, h2, h3⟩ := st.at_ i xs e
  refine ⟨a, vs, h1, ?_, h3⟩
  rw [upd_ne]
  · exact h2
  · rintro rfl
    exact h (List.mem_of_getElem? h1)⟩
theorem notin_of {ρ ρ' : List Addr} {H H' : Hp} {D : Addr} (t : Step ρ H ρ' H') (h : H D ≠ none) (hn : D ∉ ρ) : D ∉ ρ' := fun z => h (t.new D z hn)
section
variable {p : Par} {B : List Nat} {ρ ρ' : List Addr} {Y : Addr → Prop} {ow : Own} {σ : L2.St} {H H' : Hp} {r : Env} {s s' : Store} {D : Addr}
theorem sameD (t : Step ρ H ρ' H') (hY : ∀ b, Y b → H b ≠ none) (hD : H D = none) : Same (fz (Mt Y ρ) H) (fz (Mt (YD Y D) ρ') H') := fz_mono fun b o hn e => by
  have hb : b ∉ ρ := fun z => hn (.inr z)
  refine ⟨fun z => ?_, t.keep b o e hb⟩
  rcases z with (z | z) | z
  · exact hn (.inl z)
  · rw [z, hD] at e; cases e
  · have := t.new b z hb
    rw [e] at this
    cases this
theorem SI.withD (I : SI p B ρ Y ow σ H r s) (t : Step ρ H ρ' H') (st : StR ρ' H' s') (hD : H D = none) (hD' : H' D ≠ none) (hn : D ∉ ρ') : SI p B ρ' (YD Y D) ow σ H' r s' := by
  have I1 := I.step t st
  have sm := sameD (D := D) t (fun b h => I.there (.inl h)) hD
  refine ⟨I.bs, I.bnd, I1.pre, I1.new, I1.frame, fun b h => .inl (I.m0 b h), fun b h => ?_, st, I.len, fun i v hi e => ?_, fun i a h => ?_, I.dis⟩
  · rcases h with h | h
    · exact I1.th b h
    · rw [h]; exact ⟨hD', hn⟩
  · obtain ⟨u, h1, h2⟩ := I.vars i v hi e
    exact ⟨u, h1, h2.mono t.pre sm⟩
  · obtain ⟨xs, vs, h1, h2, h3, h4, h5, h6, h7⟩ := I.owns i a h
    obtain ⟨_, _, _, _, k3, _⟩ := I1.owns i a h
    exact ⟨xs, vs, h1, h2, t.keep a _ h3 (I.th a h6).2, h4.mono t.pre sm, h5, .inl h6, h7⟩
end

/-- a comprehension's state: what stands of the list so far -/
structure LW (p : Par) (ρ1 : List Addr) (Y : Addr → Prop) (H1 : Hp) (D : Addr) (ρc : List Addr) (Hc : Hp) (sc : Store) (acc : List PV) (avs : List V) : Prop where
  t : Step ρ1 H1 ρc Hc
  st : StR ρc Hc sc
  d : Hc D = some (.lst avs)
  n : D ∉ ρc
  r : PRels p.K p.fa ρc (fz (fun b => Mt Y ρc b ∨ b = D) Hc) acc avs
section
variable {p : Par} {B : List Nat} {ρ1 ρc ρ' : List Addr} {Y : Addr → Prop} {ow : Own} {σ : L2.St} {H1 Hc H' : Hp} {r : Env} {s s' sc : Store} {D : Addr} {acc : List PV} {avs : List V}
theorem LW.step (w : LW p ρ1 Y H1 D ρc Hc sc acc avs) (hY : ∀ b, Y b → H1 b ≠ none ∧ b ∉ ρ1) (t : Step ρc Hc ρ' H') (st : StR ρ' H' s') : LW p ρ1 Y H1 D ρ' H' s' acc avs where
  t := w.t.trans t
  st := st
  d := t.keep D _ w.d w.n
  n := notin_of t (by rw [w.d]; exact fun z => nomatch z) w.n
  r := w.r.mono t.pre (fz_mono fun b o hn e => by
    have hb : b ∉ ρc := fun z => hn (.inl (.inr z))
    refine ⟨fun z => ?_, t.keep b o e hb⟩
    rcases z with (z | z) | z
    · exact hn (.inl (.inl z))
    · have := t.new b z hb
      rw [e] at this
      cases this
    · exact hn (.inr z))
/-- an item more -/
theorem LW.app {y : PV} {u : V} (w : LW p ρ1 Y H1 D ρc Hc sc acc avs) (hD : H1 D = none) (h : PRel p.K p.fa ρc (fz (Mt (YD Y D) ρc) Hc) y u) : LW p ρ1 Y H1 D ρc (upd Hc D (.lst (avs ++ [u]))) sc (acc ++ [y]) (avs ++ [u]) where
  t := w.t.updD hD
  st := w.st.updD w.n
  d := upd_same
  n := w.n
  r := by
    have sm : ∀ M : Addr → Prop, (∀ b, M b ↔ (Mt Y ρc b ∨ b = D)) → Same (fz M Hc) (fz (fun b => Mt Y ρc b ∨ b = D) (upd Hc D (.lst (avs ++ [u])))) := fun M hM => fz_mono fun b o hn e => by
      have h2 := fun z => hn ((hM b).mpr z)
      refine ⟨h2, ?_⟩
      rw [upd_ne fun z => h2 (.inr z)]
      exact e
    refine (w.r.mono List.prefix_rfl (sm _ fun b => Iff.rfl)).append (.cons (h.mono List.prefix_rfl (sm _ fun b => ?_)) .nil)
    constructor
    · rintro ((z | z) | z)
      · exact .inl (.inl z)
      · exact .inr z
      · exact .inl (.inr z)
    · rintro ((z | z) | z)
      · exact .inl (.inl z)
      · exact .inr z
      · exact .inl (.inr z)
theorem LW.new (st : StR ρ1 H1 s) (hD : H1 D = none) : LW p ρ1 Y H1 D ρ1 (upd H1 D (.lst [])) s [] [] := by
  have hn : D ∉ ρ1 := fun z => by
    obtain ⟨vs, h⟩ := st.some z
    rw [hD] at h
    cases h
  exact ⟨Step.laid hD, st.updD hn, upd_same, hn, .nil⟩
/-- the end -/
theorem LW.done {ρ : List Addr} {H : Hp} {Q : VK} (w : LW p ρ1 Y H1 D ρc Hc sc acc avs) (I : SI p B ρ Y ow σ H r s) (t1 : Step ρ H ρ1 H1) (hD : H1 D = none) (q : Post p ρ Y H true (.lst acc) sc Q) : Q (.ref D) Hc := by
  have hY : ¬ Y D := fun z => by
    have := (t1.th I.th D z).1
    exact this hD
  refine q _ Hc ρc (t1.trans w.t) w.st (.lst (vs := avs) ?_ ?_) fun _ xs e => ?_
  · rw [fz_eq]
    · exact w.d
    · rintro (z | z)
      · exact hY z
      · exact w.n z
  · exact w.r.mono List.prefix_rfl (fz_mono fun b o hn e => ⟨fun z => hn (.inl z), e⟩)
  · cases e
    refine ⟨D, avs, rfl, ?_, w.d, w.r⟩
    cases z : H D with
    | none => rfl
    | some o =>
      by_cases hr : D ∈ ρ
      · exact absurd (t1.mem hr) fun m => w.n (w.t.mem m)
      · rw [t1.keep D o z hr] at hD
        cases hD
end

section
variable {c : Ctx} {p : Par} {k : Nat} {cf : CF} {X : Cx} {B : List Nat}
/-- a turn of a comprehension: the target, the test, the item -/
theorem turn_read {K : PySem.W.Frag} {vs : List Nat} {t : Tg} {cd e : E} {σ : L2.St} {ρ1 : List Addr} {Y : Addr → Prop} {H1 Hc : Hp} {D : Addr} {ρc : List Addr} {sc sn : Store} {acc : List PV} {avs : List V} {r : Env} {ow : Own} {x : PV} {xv : V} {o : Option PV} {Nx : Hp → Prop}
    (hK : K = p.K) (hvB : ∀ i ∈ vs, i ∉ B) (htv : ∀ i ∈ slots t, i ∈ vs) (I : SI p B ρ1 Y ow σ H1 r s1) (hD : H1 D = none) (w : LW p ρ1 Y H1 D ρc Hc sc acc avs) (rx : PRel p.K p.fa ρc (fz (Mt (YD Y D) ρc) Hc) x xv)
    (ef : ((Res.ofO (asg t x (PyI.wipe r vs)) sc).bind fun r1 s => (ev cf cd r1 s).bind fun b s => (Res.ofO (truth b) s).bind fun k s => if k then (ev cf e r1 s).bind fun y s => Res.ok (some y) s else Res.ok none s) = .ok o sn)
    (hz : ∀ y, o = some y → acc.length < SZ)
    (q : ∀ ρ2 H2 avs2, LW p ρ1 Y H1 D ρ2 H2 sn (match o with | some y => acc ++ [y] | none => acc) avs2 → Nx H2) :
    gT K t xv (L2.wipe σ vs) Hc fun σ2 H2 => L2.wipe σ2 vs = L2.wipe σ vs ∧ simT p cf B cd σ2 H2 fun b H3 =>
      if b = true then simE p cf B e σ2 H3 fun y H4 => ∃ acc, H4 D = some (.lst acc) ∧ acc.length < sizeLine ∧ Nx (upd H4 D (.lst (acc ++ [y]))) else Nx H3 := by
  subst hK
  have hth := I.th
  have Ic : SI p B ρc (YD Y D) ow σ Hc r sc := I.withD w.t w.st hD (by rw [w.d]; exact fun z => nomatch z) w.n
  have Iw := Ic.wiped hvB
  obtain ⟨r1, s2, e1, f1⟩ := Res.bind_eq_ok ef
  obtain ⟨e1', rfl⟩ := Res.ofO_eq_ok e1
  obtain ⟨vb, s3, e2, f2⟩ := Res.bind_eq_ok f1
  obtain ⟨kb, s4, e3, f3⟩ := Res.bind_eq_ok f2
  obtain ⟨e3', rfl⟩ := Res.ofO_eq_ok e3
  refine gT_run fz_same t rx Iw.len e1' fun σ2 u => ⟨(u.wipe htv).trans (wipe_wipe σ vs), ?_⟩
  have I2 := Iw.up u fun i hi => hvB i (htv i hi)
  refine simT_of I2 e2 e3' fun H3 ρ3 t3 st3 => ?_
  have w3 := w.step hth t3 st3
  have I3 := I2.step t3 st3
  cases kb with
  | false =>
    rw [if_neg Bool.false_ne_true]
    cases f3
    exact q ρ3 H3 avs w3
  | true =>
    rw [if_pos rfl]
    obtain ⟨y, s5, e4, f4⟩ := Res.bind_eq_ok (show (ev cf e r1 s4).bind _ = _ from f3)
    cases f4
    refine ⟨ρ3, YD Y D, ow, r1, s4, I3, y, sn, e4, fun yv H4 ρ4 t4 st4 r4 _ => ?_⟩
    have w4 := w3.step hth t4 st4
    refine ⟨avs, w4.d, ?_, q ρ4 _ _ (w4.app hD r4)⟩
    rw [← w4.r.length, sz_eq]
    exact hz y rfl
theorem compL_cons {f : PV → Store → Res (Option PV)} {x : PV} {xs : List PV} {s s' : Store} {ys : List PV} (h : compL f (x :: xs) s = .ok ys s') : ∃ o s1 zs, f x s = .ok o s1 ∧ compL f xs s1 = .ok zs s' ∧ ys = (match o with | some y => y :: zs | none => zs) := by
  obtain ⟨o, s1, e1, f1⟩ := Res.bind_eq_ok (show (f x s).bind _ = _ from h)
  obtain ⟨zs, s2, e2, f2⟩ := Res.bind_eq_ok f1
  refine ⟨o, s1, zs, e1, ?_, ?_⟩
  · cases o <;> (cases f2; exact e2)
  · cases o <;> (cases f2; rfl)
theorem lc_read (g : GoodX c p k cf X) {vs : List Nat} {t : Tg} {it : It} {cd e : E} {σ : L2.St} {H : Hp} {Q : VK} (hvB : ∀ i ∈ vs, i ∉ B) (htv : ∀ i ∈ slots t, i ∈ vs) (h : simE p cf B (.comp vs t it cd e) σ H Q) :
    tLc (simI p cf B it) (gT X.K t) (simT p cf B cd) (simE p cf B e) vs σ H Q := by
  obtain ⟨ρ, Y, ow, r, s, I, v, s', e0, q⟩ := h
  obtain ⟨items, s1, e1, f1⟩ := Res.bind_eq_ok (show (evI cf it r s).bind _ = _ from e0)
  obtain ⟨ys, s2, e2, f2⟩ := Res.bind_eq_ok f1
  split at f2
  case isFalse => cases f2
  case isTrue hz =>
  cases f2
  refine ⟨ρ, Y, ow, r, s, I, items, s1, e1, fun J H1 ρ1 t1 st1 itr D hD => ?_⟩
  have I1 := I.step t1 st1
  refine ⟨fun i m Hc => m = items.length - i ∧ i ≤ items.length ∧ ∃ ρc sc acc avs rest, LW p ρ1 Y H1 D ρc Hc sc acc avs ∧ compL _ (items.drop i) sc = .ok rest s' ∧ acc ++ rest = ys, ⟨items.length, by simp, Nat.zero_le _, ρ1, s1, [], [], ys, LW.new st1 hD, by rw [List.drop_zero]; exact e2, rfl⟩, ?_⟩
  rintro i m Hc ⟨rfl, hi, ρc, sc, acc, avs, rest, w, ec, hsum⟩
  have sm := sameD (D := D) w.t (fun b h => I1.there (.inl h)) hD
  have th : ∀ b, Mt (YD Y D) ρc b → Hc b ≠ none := fun b hb => by
    rcases hb with (hb | hb) | hb
    · exact (w.t.th I1.th b hb).1
    · rw [hb, w.d]; exact fun z => nomatch z
    · obtain ⟨vs, h⟩ := w.st.some hb
      rw [h]; exact fun z => nomatch z
  obtain ⟨it1, it2⟩ := itr i (YD Y D) ρc Hc w.t.pre sm th
  by_cases hlt : i < items.length
  · right
    have hx : items[i]? = some items[i] := List.getElem?_eq_getElem hlt
    rw [List.drop_eq_getElem_cons hlt] at ec
    obtain ⟨o, sn, zs, e4, e5, e6⟩ := compL_cons ec
    obtain ⟨go, yl⟩ := it1 _ hx
    refine ⟨go, fun H' => ∃ ρc acc avs rest, LW p ρ1 Y H1 D ρc H' sn acc avs ∧ compL _ (items.drop (i + 1)) sn = .ok rest s' ∧ acc ++ rest = ys, fun H' ⟨ρc, acc, avs, rest, w', h5, h6⟩ => ⟨items.length - (i + 1), by omega, rfl, hlt, ρc, sn, acc, avs, rest, w', h5, h6⟩, fun x H3 hy => ?_⟩
    obtain ⟨sm3, rx⟩ := yl x H3 hy
    have w3 := w.step I1.th (Step.same sm3) (w.st.same sm3)
    refine turn_read (p := p) (ow := ow) (o := o) (acc := acc) g.K hvB htv I1 hD w3 rx e4 (fun y hy => ?_) fun ρ2 H2 avs2 w2 => ⟨ρ2, _, avs2, zs, w2, e5, ?_⟩
    · subst hy
      rw [e6] at hsum
      have := congrArg List.length hsum
      simp only [List.length_append, List.length_cons] at this
      omega
    · rw [← hsum, e6]
      cases o <;> simp
  · left
    have hi2 : i = items.length := by omega
    subst hi2
    refine ⟨it2 rfl, ?_⟩
    rw [List.drop_length] at ec
    cases ec
    rw [List.append_nil] at hsum
    subst hsum
    exact w.done I t1 hD q
end

/-! ### as an expression -/
section
variable {c : Ctx} {p : Par} {k : Nat} {cf : CF} {X : Cx} {B : List Nat}
/-- within a comprehension -/
def blkCtx (c : Ctx) (scope : Scope) : Ctx := { c with sc := relS scope c.sc, fnF := fun x => scope.names.lookup x == some .cell }
theorem GoodX.blk (g : GoodX c p k cf X) {scope : Scope} (hk : scope.kind = .function) (s : Shared) (H : Hp) (C : Addr) (cl : List (Str × Addr)) (fp : List Addr) : GoodX (blkCtx c scope) p k cf (X.blk s H scope (compEnvC scope cl C X.env) fp) where
  N := g.N
  nd := g.nd
  sc := by show relS scope X.env.scope = _; rw [g.sc]; rfl
  K := g.K
  calm := g.calm
  room := g.room
  xe := rfl
  st := fun x h => h
  kind := hk
  fns := g.fns
  cons := g.cons
  free := g.free
theorem ts_none : PTs X [] (simT p cf B (.con (.bl true))) := PTs.imp pts_nil (by
  rintro σ H Q ⟨ρ, Y, ow, r, s, I, kk, s', e, q⟩
  have e : Res.ok true s = Res.ok kk s' := e
  cases e
  exact q H ρ (Step.refl _ _) I.st)
theorem e_comp (g : GoodX c p k cf X) {elt tg iter : Expr} {ifs : List Expr} {scope : Scope} {own : List (Str × Nat)} {pos : Pos} {t : Tg} {it : It} {cd e : E} (hi : PI X tg iter (simI p cf B it)) (ok : blkC c.N c.sc scope own = true)
    (hvB : ∀ i ∈ own.map (·.2), i ∉ B) (htv : ∀ i ∈ slots t, i ∈ own.map (·.2)) (hg : ∀ X', GoodX (blkCtx c scope) p k cf X' → PG X' tg (gT X'.K t)) (ht : ∀ X', GoodX (blkCtx c scope) p k cf X' → PTs X' ifs (simT p cf B cd))
    (he : ∀ X', GoodX (blkCtx c scope) p k cf X' → PE X' elt (simE p cf B e)) (hs : ∀ x env, foldedSetIterable iter env x = pure x) :
    PE X (.ListComp elt [⟨tg, iter, ifs, 0⟩] scope pos) (simE p cf B (.comp (own.map (·.2)) t it cd e)) := by
  have bk : BlkOk X.N X.env.scope scope own := by rw [g.N, g.sc]; exact blkOk_by ok
  have G := fun s H C cl fp => g.blk bk.kind s H C cl fp
  exact PE.imp (pe_lc g.calm (by rw [g.N]; exact g.nd) hi bk (fun s H C cl fp => hg _ (G s H C cl fp)) (fun s H C cl fp => ht _ (G s H C cl fp)) (fun s H C cl fp => he _ (G s H C cl fp)) (fun x => hs x _)) fun σ H Q h => lc_read g hvB htv h
theorem s_setC (g : GoodX c p k cf X) {i : Nat} {y : Str} {py spos : Pos} {elt tg iter : Expr} {ifs : List Expr} {scope : Scope} {own : List (Str × Nat)} {pos : Pos} {t : Tg} {it : It} {cd e : E} (hy : c.N[i]? = some y) (hyl : isLc c.sc y = true) (hl : (py.line == pos.line) = true)
    (ha : (scope.names.any fun (n, k) => n == y && (k == .local || k == .cell)) = false) (hi : PI X tg iter (simI p cf B it)) (ok : blkC c.N c.sc scope own = true)
    (hvB : ∀ i ∈ own.map (·.2), i ∉ B) (htv : ∀ i ∈ slots t, i ∈ own.map (·.2)) (hg : ∀ X', GoodX (blkCtx c scope) p k cf X' → PG X' tg (gT X'.K t)) (ht : ∀ X', GoodX (blkCtx c scope) p k cf X' → PTs X' ifs (simT p cf B cd))
    (he : ∀ X', GoodX (blkCtx c scope) p k cf X' → PE X' elt (simE p cf B e)) (hs : ∀ x env, foldedSetIterable iter env x = pure x) :
    PS X (.Assign [.Name y py] (.ListComp elt [⟨tg, iter, ifs, 0⟩] scope pos) spos) (tAsg (simE p cf B (.comp (own.map (·.2)) t it cd e)) (gName i)) := by
  have bk : BlkOk X.N X.env.scope scope own := by rw [g.N, g.sc]; exact blkOk_by ok
  have G := fun s H C cl fp => g.blk bk.kind s H C cl fp
  have hyl' : X.env.scope.names.lookup y = some .local := by rw [g.sc]; exact isLc_ok hyl
  exact PS.imp (ps_setLc g.calm (by rw [g.N]; exact g.nd) (by rw [g.N]; exact hy) hyl' (sw_true (by rw [g.sc]; exact g.kind) hyl' hl ha) hi bk (fun s H C cl fp => hg _ (G s H C cl fp)) (fun s H C cl fp => ht _ (G s H C cl fp)) (fun s H C cl fp => he _ (G s H C cl fp)) (fun x => hs x _)) fun D σ H h => lc_read g hvB htv h
end
end PyI

set_option maxRecDepth 100000
/-! PyI11: list comprehensions of two clauses. -/
namespace PyI
open PySem PySem.Spec PyProof.Rows L2

/-- the heap without D -/
def era (H : Hp) (D : Addr) : Hp := fun b => if b = D then none else H b
theorem era_D {H : Hp} {D : Addr} : era H D D = none := if_pos rfl
theorem era_ne {H : Hp} {D b : Addr} (h : b ≠ D) : era H D b = H b := if_neg h
theorem era_same {H : Hp} {D : Addr} : Same (era H D) H := fun b o e => by
  by_cases h : b = D
  · subst h; rw [era_D] at e; cases e
  · rw [era_ne h] at e; exact e
section
variable {p : Par} {B : List Nat} {ρ ρ1 ρc ρ' : List Addr} {Y : Addr → Prop} {ow : Own} {σ : L2.St} {H H1 Hc H' : Hp} {r : Env} {s s' sc : Store} {D : Addr} {acc : List PV} {avs : List V}
theorem fz_era : Same (fz (Mt (YD Y D) ρ) H) (fz (Mt Y ρ) (era H D)) := fz_mono fun b o hn e => by
  have hD : b ≠ D := fun z => hn (.inl (.inr z))
  refine ⟨fun z => ?_, by rw [era_ne hD]; exact e⟩
  rcases z with z | z
  · exact hn (.inl (.inl z))
  · exact hn (.inr z)
theorem StR.era (st : StR ρ H s) (h : D ∉ ρ) : StR ρ (PyI.era H D) s := ⟨st.len, st.nd, fun i xs e => by
  obtain ⟨a, vs, h1, h2, h3⟩ := st.at_ i xs e
  refine ⟨a, vs, h1, ?_, h3⟩
  rw [era_ne]
  · exact h2
  · rintro rfl
    exact h (List.mem_of_getElem? h1)⟩
theorem SI.era (I : SI p B ρ (YD Y D) ow σ H r s) (hn : D ∉ ρ) (hY : ¬ Y D) (hM : ∀ b, p.M0 b → Y b) (h0 : p.H0 D = none) (ho : ∀ i a, (i, a) ∈ ow → Y a) : SI p B ρ Y ow σ (PyI.era H D) r s := by
  refine ⟨I.bs, I.bnd, I.pre, I.new, fun b o e hb => ?_, hM, fun b h => ?_, I.st.era hn, I.len, fun i v hi e => ?_, fun i a h => ?_, I.dis⟩
  · have : b ≠ D := by rintro rfl; rw [h0] at e; cases e
    rw [era_ne this]
    exact I.frame b o e hb
  · have : b ≠ D := by rintro rfl; exact hY h
    rw [era_ne this]
    exact I.th b (.inl h)
  · obtain ⟨u, h1, h2⟩ := I.vars i v hi e
    exact ⟨u, h1, h2.mono List.prefix_rfl fz_era⟩
  · obtain ⟨xs, vs, h1, h2, h3, h4, h5, h6, h7⟩ := I.owns i a h
    have hD : a ≠ D := by rintro rfl; exact hY (ho i _ h)
    exact ⟨xs, vs, h1, h2, by rw [era_ne hD]; exact h3, h4.mono List.prefix_rfl fz_era, h5, ho i a h, h7⟩
/-- an inner loop's start -/
theorem LW.inner (w : LW p ρ1 Y H1 D ρc Hc sc acc avs) : LW p ρc Y (era Hc D) D ρc Hc sc acc avs := ⟨Step.same era_same, w.st, w.d, w.n, w.r⟩
theorem LW.outer {ρ3 : List Addr} {H3 : Hp} (w : LW p ρ3 Y (era H3 D) D ρc Hc sc acc avs) (t : Step ρ1 H1 ρ3 H3) (hD : H1 D = none) : LW p ρ1 Y H1 D ρc Hc sc acc avs := ⟨Step.trans ⟨t.pre, t.new, fun b o e hb => by
  have : b ≠ D := by rintro rfl; rw [hD] at e; cases e
  rw [era_ne this]
  exact t.keep b o e hb⟩ w.t, w.st, w.d, w.n, w.r⟩
end
theorem compLs_cons {f : PV → Store → Res (List PV)} {x : PV} {xs : List PV} {s s' : Store} {ys : List PV} (h : compLs f (x :: xs) s = .ok ys s') : ∃ o s1 zs, f x s = .ok o s1 ∧ compLs f xs s1 = .ok zs s' ∧ ys = o ++ zs := by
  obtain ⟨o, s1, e1, f1⟩ := Res.bind_eq_ok (show (f x s).bind _ = _ from h)
  obtain ⟨zs, s2, e2, f2⟩ := Res.bind_eq_ok f1
  cases f2
  exact ⟨o, s1, zs, e1, e2, rfl⟩
section
variable {c : Ctx} {p : Par} {k : Nat} {cf : CF} {X : Cx} {B : List Nat}
theorem lc2_read (g : GoodX c p k cf X) {vs vs1 : List Nat} {t t1 : Tg} {it it1 : It} {cd cd1 e : E} {σ : L2.St} {H : Hp} {Q : VK} (hvB : ∀ i ∈ vs, i ∉ B) (htv : ∀ i ∈ slots t, i ∈ vs) (hv1 : ∀ i ∈ vs1, i ∈ vs) (htv1 : ∀ i ∈ slots t1, i ∈ vs1)
    (h : simE p cf B (.comp2 vs vs1 t it cd t1 it1 cd1 e) σ H Q) :
    tLc2 (simI p cf B it) (gT X.K t) (simT p cf B cd) (simI p cf B it1) (gT X.K t1) (simT p cf B cd1) (simE p cf B e) vs vs1 σ H Q := by
  obtain ⟨ρ, Y, ow, r, s, I, v, s', e0, q⟩ := h
  obtain ⟨items, s1, e1, f1⟩ := Res.bind_eq_ok (show (evI cf it r s).bind _ = _ from e0)
  obtain ⟨ys, s2, e2, f2⟩ := Res.bind_eq_ok f1
  split at f2
  case isFalse => cases f2
  case isTrue hz =>
  cases f2
  refine ⟨ρ, Y, ow, r, s, I, items, s1, e1, fun J H1 ρ1 tt1 st1 itr D hD => ?_⟩
  have I1 := I.step tt1 st1
  refine ⟨fun i m Hc => m = items.length - i ∧ i ≤ items.length ∧ ∃ ρc sc acc avs rest, LW p ρ1 Y H1 D ρc Hc sc acc avs ∧ compLs _ (items.drop i) sc = .ok rest s' ∧ acc ++ rest = ys, ⟨items.length, by simp, Nat.zero_le _, ρ1, s1, [], [], ys, LW.new st1 hD, by rw [List.drop_zero]; exact e2, rfl⟩, ?_⟩
  rintro i m Hc ⟨rfl, hi, ρc, sc, acc, avs, rest, w, ec, hsum⟩
  have sm := sameD (D := D) w.t (fun b h => I1.there (.inl h)) hD
  have th : ∀ b, Mt (YD Y D) ρc b → Hc b ≠ none := fun b hb => by
    rcases hb with (hb | hb) | hb
    · exact (w.t.th I1.th b hb).1
    · rw [hb, w.d]; exact fun z => nomatch z
    · obtain ⟨vs, h⟩ := w.st.some hb
      rw [h]; exact fun z => nomatch z
  obtain ⟨it1', it2'⟩ := itr i (YD Y D) ρc Hc w.t.pre sm th
  by_cases hlt : i < items.length
  · right
    have hx : items[i]? = some items[i] := List.getElem?_eq_getElem hlt
    rw [List.drop_eq_getElem_cons hlt] at ec
    obtain ⟨o, sn, zs, e4, e5, e6⟩ := compLs_cons ec
    obtain ⟨go, yl⟩ := it1' _ hx
    refine ⟨go, fun H' => ∃ ρc acc avs rest, LW p ρ1 Y H1 D ρc H' sn acc avs ∧ compLs _ (items.drop (i + 1)) sn = .ok rest s' ∧ acc ++ rest = ys, fun H' ⟨ρc, acc, avs, rest, w', h5, h6⟩ => ⟨items.length - (i + 1), by omega, rfl, hlt, ρc, sn, acc, avs, rest, w', h5, h6⟩, fun x H3 hy => ?_⟩
    obtain ⟨sm3, rx⟩ := yl x H3 hy
    have w3 := w.step I1.th (Step.same sm3) (w.st.same sm3)
    have Ic : SI p B ρc (YD Y D) ow σ H3 r sc := I1.withD w3.t w3.st hD (by rw [w3.d]; exact fun z => nomatch z) w3.n
    have Iw := Ic.wiped hvB
    obtain ⟨r1, sa, g1, f1⟩ := Res.bind_eq_ok e4
    obtain ⟨g1', rfl⟩ := Res.ofO_eq_ok g1
    obtain ⟨vb, sb, g2, f2⟩ := Res.bind_eq_ok f1
    obtain ⟨kb, sd, g3, f3⟩ := Res.bind_eq_ok f2
    obtain ⟨g3', rfl⟩ := Res.ofO_eq_ok g3
    rw [g.K]
    refine gT_run fz_same t rx Iw.len g1' fun σ2 u => ⟨(u.wipe htv).trans (wipe_wipe σ vs), ?_⟩
    have I2 := Iw.up u fun i hi => hvB i (htv i hi)
    refine simT_of I2 g2 g3' fun H4 ρ4 t4 st4 => ?_
    have w4 := w3.step I1.th t4 st4
    have I4 := I2.step t4 st4
    cases kb with
    | false =>
      rw [if_neg Bool.false_ne_true]
      cases f3
      exact ⟨ρ4, _, avs, zs, w4, e5, by rw [← hsum, e6]; rfl⟩
    | true =>
      rw [if_pos rfl]
      obtain ⟨xs1, s5, g4, f4⟩ := Res.bind_eq_ok (show (evI cf it1 r1 sd).bind _ = _ from f3)
      refine ⟨ρ4, YD Y D, ow, r1, sd, I4, xs1, s5, g4, fun J1 H5 ρ5 t5 st5 itr1 => ?_⟩
      have w5 := w4.step I1.th t5 st5
      have I5 := I4.step t5 st5
      have hY : ¬ Y D := fun z => (I1.th D z).1 hD
      have h0 : p.H0 D = none := by
        cases z : p.H0 D with
        | none => rfl
        | some o =>
          by_cases hr : D ∈ p.ρ0
          · obtain ⟨tt, h2⟩ := I1.pre
            obtain ⟨vs, h⟩ := I1.st.some (show D ∈ ρ1 by rw [← h2]; exact List.mem_append_left _ hr)
            rw [hD] at h; cases h
          · have := I1.frame D o z hr
            rw [hD] at this; cases this
      have Ie : SI p B ρ5 Y ow σ2 (era H5 D) r1 s5 := I5.era w5.n hY I1.m0 h0 fun i a h => by
        obtain ⟨_, _, _, _, _, _, _, h6, _⟩ := I1.owns i a h
        exact h6
      have wi0 := w5.inner
      refine ⟨fun j m Hc => m = xs1.length - j ∧ j ≤ xs1.length ∧ ∃ ρc sc acc2 avs2 rest, LW p ρ5 Y (era H5 D) D ρc Hc sc (acc ++ acc2) avs2 ∧ compL _ (xs1.drop j) sc = .ok rest sn ∧ acc2 ++ rest = o, ⟨xs1.length, by simp, Nat.zero_le _, ρ5, s5, [], avs, o, by rw [List.append_nil]; exact wi0, by rw [List.drop_zero]; exact f4, rfl⟩, ?_⟩
      rintro j m Hd ⟨rfl, hj, ρd, sd', acc2, avs2, rest2, wd, ed, hsum2⟩
      have smd := sameD (D := D) wd.t (fun b h => Ie.there (.inl h)) era_D
      have thd : ∀ b, Mt (YD Y D) ρd b → Hd b ≠ none := fun b hb => by
        rcases hb with (hb | hb) | hb
        · exact (wd.t.th Ie.th b hb).1
        · rw [hb, wd.d]; exact fun z => nomatch z
        · obtain ⟨vs, h⟩ := wd.st.some hb
          rw [h]; exact fun z => nomatch z
      obtain ⟨jt1, jt2⟩ := itr1 j (YD Y D) ρd Hd wd.t.pre (fz_era.trans smd) thd
      by_cases hltj : j < xs1.length
      · right
        have hxj : xs1[j]? = some xs1[j] := List.getElem?_eq_getElem hltj
        rw [List.drop_eq_getElem_cons hltj] at ed
        obtain ⟨oo, sn2, zs2, k4, k5, k6⟩ := compL_cons ed
        obtain ⟨go2, yl2⟩ := jt1 _ hxj
        refine ⟨go2, fun H' => ∃ ρc acc2 avs2 rest, LW p ρ5 Y (era H5 D) D ρc H' sn2 (acc ++ acc2) avs2 ∧ compL _ (xs1.drop (j + 1)) sn2 = .ok rest sn ∧ acc2 ++ rest = o, fun H' ⟨ρc, acc2, avs2, rest, w', h5, h6⟩ => ⟨xs1.length - (j + 1), by omega, rfl, hltj, ρc, sn2, acc2, avs2, rest, w', h5, h6⟩, fun x2 H6 hy2 => ?_⟩
        obtain ⟨sm6, rx6⟩ := yl2 x2 H6 hy2
        have w6 := wd.step Ie.th (Step.same sm6) (wd.st.same sm6)
        refine turn_read (p := p) (ow := ow) (o := oo) (acc := acc ++ acc2) rfl (fun i hi => hvB i (hv1 i hi)) htv1 Ie era_D w6 rx6 k4 (fun y hy => ?_) fun ρ7 H7 avs7 w7 => ⟨ρ7, (match oo with | some y => acc2 ++ [y] | none => acc2), avs7, zs2, ?_, k5, ?_⟩
        · subst hy
          rw [k6] at hsum2
          have h1 := congrArg List.length hsum2
          have h2 := congrArg List.length hsum
          rw [e6] at h2
          simp only [List.length_append, List.length_cons] at h1 h2
          rw [List.length_append]
          omega
        · cases oo
          · exact w7
          · simpa [List.append_assoc] using w7
        · cases oo with
          | none =>
            have k6 : rest2 = zs2 := k6
            show acc2 ++ zs2 = o
            rw [← hsum2, k6]
          | some y =>
            have k6 : rest2 = y :: zs2 := k6
            show acc2 ++ [y] ++ zs2 = o
            rw [← hsum2, k6]
            simp
      · left
        have hj2 : j = xs1.length := by omega
        subst hj2
        refine ⟨jt2 rfl, ?_⟩
        rw [List.drop_length] at ed
        cases ed
        rw [List.append_nil] at hsum2
        subst hsum2
        refine ⟨ρd, _, avs2, zs, wd.outer w5.t hD, e5, ?_⟩
        rw [← hsum, e6, List.append_assoc]
  · left
    have hi2 : i = items.length := by omega
    subst hi2
    refine ⟨it2' rfl, ?_⟩
    rw [List.drop_length] at ec
    cases ec
    rw [List.append_nil] at hsum
    subst hsum
    exact w.done I tt1 hD q
theorem e_comp2 (g : GoodX c p k cf X) {elt tg iter tg1 iter1 : Expr} {ifs ifs1 : List Expr} {scope : Scope} {own : List (Str × Nat)} {vs1 : List Nat} {pos : Pos} {t t1 : Tg} {it it1 : It} {cd cd1 e : E} (hi : PI X tg iter (simI p cf B it)) (ok : blkC c.N c.sc scope own = true)
    (hvB : ∀ i ∈ own.map (·.2), i ∉ B) (htv : ∀ i ∈ slots t, i ∈ own.map (·.2)) (hv1 : ∀ i ∈ vs1, i ∈ own.map (·.2)) (htv1 : ∀ i ∈ slots t1, i ∈ vs1)
    (hg : ∀ X', GoodX (blkCtx c scope) p k cf X' → PG X' tg (gT X'.K t)) (ht : ∀ X', GoodX (blkCtx c scope) p k cf X' → PTs X' ifs (simT p cf B cd))
    (hi1 : ∀ X', GoodX (blkCtx c scope) p k cf X' → PI X' tg1 iter1 (simI p cf B it1)) (hg1 : ∀ X', GoodX (blkCtx c scope) p k cf X' → PG X' tg1 (gT X'.K t1)) (ht1 : ∀ X', GoodX (blkCtx c scope) p k cf X' → PTs X' ifs1 (simT p cf B cd1))
    (he : ∀ X', GoodX (blkCtx c scope) p k cf X' → PE X' elt (simE p cf B e)) (hs : ∀ x env, foldedSetIterable iter env x = pure x) (hs1 : ∀ x env, foldedSetIterable iter1 env x = pure x) :
    PE X (.ListComp elt [⟨tg, iter, ifs, 0⟩, ⟨tg1, iter1, ifs1, 0⟩] scope pos) (simE p cf B (.comp2 (own.map (·.2)) vs1 t it cd t1 it1 cd1 e)) := by
  have bk : BlkOk X.N X.env.scope scope own := by rw [g.N, g.sc]; exact blkOk_by ok
  have G := fun s H C cl fp => g.blk bk.kind s H C cl fp
  exact PE.imp (pe_lc2 g.calm (by rw [g.N]; exact g.nd) hi bk hv1 (fun s H C cl fp => hg _ (G s H C cl fp)) (fun s H C cl fp => ht _ (G s H C cl fp)) (fun s H C cl fp => hi1 _ (G s H C cl fp)) (fun s H C cl fp => hg1 _ (G s H C cl fp)) (fun s H C cl fp => ht1 _ (G s H C cl fp)) (fun s H C cl fp => he _ (G s H C cl fp)) (fun x => hs x _) (fun env x => hs1 x env)) fun σ H Q h => lc2_read g hvB htv hv1 htv1 h
theorem s_setC2 (g : GoodX c p k cf X) {i : Nat} {y : Str} {py spos : Pos} {elt tg iter tg1 iter1 : Expr} {ifs ifs1 : List Expr} {scope : Scope} {own : List (Str × Nat)} {vs1 : List Nat} {pos : Pos} {t t1 : Tg} {it it1 : It} {cd cd1 e : E} (hy : c.N[i]? = some y) (hyl : isLc c.sc y = true) (hl : (py.line == pos.line) = true)
    (ha : (scope.names.any fun (n, k) => n == y && (k == .local || k == .cell)) = false) (hi : PI X tg iter (simI p cf B it)) (ok : blkC c.N c.sc scope own = true)
    (hvB : ∀ i ∈ own.map (·.2), i ∉ B) (htv : ∀ i ∈ slots t, i ∈ own.map (·.2)) (hv1 : ∀ i ∈ vs1, i ∈ own.map (·.2)) (htv1 : ∀ i ∈ slots t1, i ∈ vs1)
    (hg : ∀ X', GoodX (blkCtx c scope) p k cf X' → PG X' tg (gT X'.K t)) (ht : ∀ X', GoodX (blkCtx c scope) p k cf X' → PTs X' ifs (simT p cf B cd))
    (hi1 : ∀ X', GoodX (blkCtx c scope) p k cf X' → PI X' tg1 iter1 (simI p cf B it1)) (hg1 : ∀ X', GoodX (blkCtx c scope) p k cf X' → PG X' tg1 (gT X'.K t1)) (ht1 : ∀ X', GoodX (blkCtx c scope) p k cf X' → PTs X' ifs1 (simT p cf B cd1))
    (he : ∀ X', GoodX (blkCtx c scope) p k cf X' → PE X' elt (simE p cf B e)) (hs : ∀ x env, foldedSetIterable iter env x = pure x) (hs1 : ∀ x env, foldedSetIterable iter1 env x = pure x) :
    PS X (.Assign [.Name y py] (.ListComp elt [⟨tg, iter, ifs, 0⟩, ⟨tg1, iter1, ifs1, 0⟩] scope pos) spos) (tAsg (simE p cf B (.comp2 (own.map (·.2)) vs1 t it cd t1 it1 cd1 e)) (gName i)) := by
  have bk : BlkOk X.N X.env.scope scope own := by rw [g.N, g.sc]; exact blkOk_by ok
  have G := fun s H C cl fp => g.blk bk.kind s H C cl fp
  have hyl' : X.env.scope.names.lookup y = some .local := by rw [g.sc]; exact isLc_ok hyl
  exact PS.imp (ps_setLc2 g.calm (by rw [g.N]; exact g.nd) (by rw [g.N]; exact hy) hyl' (sw_true (by rw [g.sc]; exact g.kind) hyl' hl ha) hi bk hv1 (fun s H C cl fp => hg _ (G s H C cl fp)) (fun s H C cl fp => ht _ (G s H C cl fp)) (fun s H C cl fp => hi1 _ (G s H C cl fp)) (fun s H C cl fp => hg1 _ (G s H C cl fp)) (fun s H C cl fp => ht1 _ (G s H C cl fp)) (fun s H C cl fp => he _ (G s H C cl fp)) (fun x => hs x _) (fun env x => hs1 x env)) fun D σ H h => lc2_read g hvB htv hv1 htv1 h
end
end PyI

set_option maxRecDepth 100000
/-! PyI12: statements. -/
namespace PyI
open PySem PySem.Spec PyProof.Rows L2

/-- what stays from a state to a later one -/
def Ext (ρ : List Addr) (Y : Addr → Prop) (H : Hp) (ρ' : List Addr) (Y' : Addr → Prop) (H' : Hp) : Prop := ρ <+: ρ' ∧ Same (fz (Mt Y ρ) H) (fz (Mt Y' ρ') H')
theorem Ext.refl (ρ : List Addr) (Y : Addr → Prop) (H : Hp) : Ext ρ Y H ρ Y H := ⟨List.prefix_rfl, Same.refl _⟩
theorem Ext.trans {ρ ρ1 ρ2 : List Addr} {Y Y1 Y2 : Addr → Prop} {H H1 H2 : Hp} (a : Ext ρ Y H ρ1 Y1 H1) (b : Ext ρ1 Y1 H1 ρ2 Y2 H2) : Ext ρ Y H ρ2 Y2 H2 := ⟨a.1.trans b.1, a.2.trans b.2⟩
def Nx (p : Par) (B : List Nat) (ρ : List Addr) (Y : Addr → Prop) (H : Hp) (r : Env) (s : Store) (T : L2.St → Hp → Prop) : Prop :=
  ∀ ρ' Y' ow' σ' H', SI p B ρ' Y' ow' σ' H' r s → Ext ρ Y H ρ' Y' H' → T σ' H'
def Rt (p : Par) (v : PV) (s : Store) (T : VK) : Prop := ∀ u H' ρ', Step p.ρ0 p.H0 ρ' H' → StR ρ' H' s → PRel p.K p.fa ρ' (fz (Mt p.M0 ρ') H') v u → T u H'
/-- the ends: B' the buffers behind, Bl those behind a break or a continue -/
def EndS (p : Par) (B' Bl : List Nat) (ρ : List Addr) (Y : Addr → Prop) (H : Hp) (s : Store) (D : Ends) : Fl → Prop
  | .next r => Nx p B' ρ Y H r s D.nx
  | .brk r => Nx p Bl ρ Y H r s D.bk
  | .cont r => Nx p Bl ρ Y H r s D.ct
  | .ret v => Rt p v s D.rt
def simS (p : Par) (cf : CF) (B B' Bl : List Nat) (st : S) : TS := fun D σ H => ∃ ρ Y ow r s, SI p B ρ Y ow σ H r s ∧ ∃ fl s', ex cf st r s = .ok fl s' ∧ EndS p B' Bl ρ Y H s' D fl
def simSs (p : Par) (cf : CF) (B B' Bl : List Nat) (st : Ss) : TS := fun D σ H => ∃ ρ Y ow r s, SI p B ρ Y ow σ H r s ∧ ∃ fl s', exs cf st r s = .ok fl s' ∧ EndS p B' Bl ρ Y H s' D fl

section
variable {c : Ctx} {p : Par} {k : Nat} {cf : CF} {X : Cx} {B B' Bl : List Nat}
theorem Nx.ext {ρ ρ1 : List Addr} {Y Y1 : Addr → Prop} {H H1 : Hp} {r : Env} {s : Store} {T : L2.St → Hp → Prop} (q : Nx p B ρ Y H r s T) (e : Ext ρ Y H ρ1 Y1 H1) : Nx p B ρ1 Y1 H1 r s T :=
  fun ρ' Y' ow' σ' H' I x => q ρ' Y' ow' σ' H' I (e.trans x)
theorem EndS.ext {ρ ρ1 : List Addr} {Y Y1 : Addr → Prop} {H H1 : Hp} {s : Store} {D : Ends} {fl : Fl} (q : EndS p B' Bl ρ Y H s D fl) (e : Ext ρ Y H ρ1 Y1 H1) : EndS p B' Bl ρ1 Y1 H1 s D fl := by
  cases fl with
  | next r => exact Nx.ext (B := B') q e
  | brk r => exact Nx.ext (B := Bl) q e
  | cont r => exact Nx.ext (B := Bl) q e
  | ret v => exact q
theorem SI.ext {ρ ρ' : List Addr} {Y : Addr → Prop} {ow : Own} {σ : L2.St} {H H' : Hp} {r : Env} {s : Store} (I : SI p B ρ Y ow σ H r s) (t : Step ρ H ρ' H') : Ext ρ Y H ρ' Y H' := ⟨t.pre, I.same t⟩

theorem ss_nil : PSs X [] (simSs p cf B B Bl .nil) := PSs.imp pss_nil (by
  rintro D σ H ⟨ρ, Y, ow, r, s, I, fl, s', e, q⟩
  cases e
  exact q ρ Y ow σ H I (Ext.refl _ _ _))
theorem ss_cons {st : Stmt} {sts : List Stmt} {a : S} {as : Ss} {B1 : List Nat} (h1 : PS X st (simS p cf B B1 Bl a)) (h2 : PSs X sts (simSs p cf B1 B' Bl as)) : PSs X (st :: sts) (simSs p cf B B' Bl (.cons a as)) := PSs.imp (pss_cons h1 h2) (by
  rintro D σ H ⟨ρ, Y, ow, r, s, I, fl, s', e, q⟩
  obtain ⟨f1, s1, e1, f⟩ := Res.bind_eq_ok (show (ex cf a r s).bind _ = _ from e)
  refine ⟨ρ, Y, ow, r, s, I, f1, s1, e1, ?_⟩
  cases f1 with
  | next r1 =>
    intro ρ1 Y1 ow1 σ1 H1 I1 x
    exact ⟨ρ1, Y1, ow1, r1, s1, I1, fl, s', f, q.ext x⟩
  | brk r1 => cases f; exact q
  | cont r1 => cases f; exact q
  | ret v => cases f; exact q)
/-- a step that no line of the text makes -/
theorem ss_free {sts : List Stmt} {i : Nat} {as : Ss} (h : PSs X sts (simSs p cf (B.filter fun j => ![i].contains j) B' Bl as)) : PSs X sts (simSs p cf B B' Bl (.cons (.free i) as)) := PSs.imp h (by
  rintro D σ H ⟨ρ, Y, ow, r, s, I, fl, s', e, q⟩
  have e : exs cf as r s = .ok fl s' := e
  refine ⟨ρ, _, _, r, s, I.lent [i], fl, s', e, q.ext ⟨List.prefix_rfl, fz_mono fun b o hn e => ⟨fun z => hn (z.elim (fun z => .inl z.1) .inr), e⟩⟩⟩)
theorem s_pass {pos : Pos} : PS X (.Pass pos) (simS p cf B B Bl .pass) := PS.imp ps_pass (by
  rintro D σ H ⟨ρ, Y, ow, r, s, I, fl, s', e, q⟩
  cases e
  exact q ρ Y ow σ H I (Ext.refl _ _ _))
theorem s_doc {x j pos pos'} : PS X (.Expr (.Constant (.str x) j pos) pos') (simS p cf B B Bl .pass) := PS.imp ps_doc (by
  rintro D σ H ⟨ρ, Y, ow, r, s, I, fl, s', e, q⟩
  cases e
  exact q ρ Y ow σ H I (Ext.refl _ _ _))
/-- not a comprehension -/
def noComp (x : Expr) : Bool := match x with
  | .ListComp .. | .SetComp .. | .DictComp .. => false
  | _ => true
theorem sw_false {x : Expr} {t : Option Expr} {l : Nat} {env : PySem.Env} (h : noComp x = true) : swapsWith x t l env = pure false := by
  unfold swapsWith
  cases x <;> first | rfl | cases h
theorem s_drop {e : E} {x : Expr} {pos : Pos} (hx : noComp x = true) (h : PE X x (simE p cf B e)) : PS X (.Expr x pos) (simS p cf B B Bl (.drop e)) := PS.imp (ps_expr h (sw_false hx)) (by
  rintro D σ H ⟨ρ, Y, ow, r, s, I, fl, s', e0, q⟩
  obtain ⟨v, s1, e1, f⟩ := Res.bind_eq_ok (show (ev cf e r s).bind _ = _ from e0)
  cases f
  refine ⟨ρ, Y, ow, r, s, I, v, s', e1, fun u H1 ρ1 t1 st1 r1 _ => ?_⟩
  exact q ρ1 Y ow σ H1 (I.step t1 st1) (I.ext t1))
theorem s_brk {pos : Pos} : PS X (.Break pos) (simS p cf B B' B .brk) := PS.imp ps_break (by
  rintro D σ H ⟨ρ, Y, ow, r, s, I, fl, s', e, q⟩
  cases e
  exact q ρ Y ow σ H I (Ext.refl _ _ _))
theorem s_cont {pos : Pos} : PS X (.Continue pos) (simS p cf B B' B .cont) := PS.imp ps_continue (by
  rintro D σ H ⟨ρ, Y, ow, r, s, I, fl, s', e, q⟩
  cases e
  exact q ρ Y ow σ H I (Ext.refl _ _ _))
theorem s_raise {st : Stmt} {i : Nat} : PS X st (simS p cf B B' Bl (.raise i)) := PS.imp ps_never (by
  rintro D σ H ⟨ρ, Y, ow, r, s, I, fl, s', e, q⟩
  cases e)
theorem s_retN {pos : Pos} : PS X (.Return none pos) (simS p cf B B' Bl .retN) := PS.imp ps_retN (by
  rintro D σ H ⟨ρ, Y, ow, r, s, I, fl, s', e, q⟩
  cases e
  exact q _ H ρ I.whole I.st .non)
/-- what is free of us is free of the caller's keeping -/
theorem SI.out {ρ : List Addr} {Y : Addr → Prop} {ow : Own} {σ : L2.St} {H : Hp} {r : Env} {s : Store} (I : SI p B ρ Y ow σ H r s) : Same (fz (Mt Y ρ) H) (fz (Mt p.M0 ρ) H) := fz_mono fun b o hn e => ⟨fun z => hn (z.elim (fun z => .inl (I.m0 b z)) .inr), e⟩
theorem s_ret {e : E} {x : Expr} {pos : Pos} (h : PE X x (simE p cf B e)) : PS X (.Return (some x) pos) (simS p cf B B' Bl (.ret e)) := PS.imp (ps_ret h) (by
  rintro D σ H ⟨ρ, Y, ow, r, s, I, fl, s', e0, q⟩
  obtain ⟨v, s1, e1, f⟩ := Res.bind_eq_ok (show (ev cf e r s).bind _ = _ from e0)
  cases f
  refine ⟨ρ, Y, ow, r, s, I, v, s', e1, fun u H1 ρ1 t1 st1 r1 _ => ?_⟩
  have I1 := I.step t1 st1
  exact q u H1 ρ1 I1.whole st1 (r1.mono List.prefix_rfl I1.out))
theorem s_if {d : E} {x : Expr} {a b : Ss} {as bs : List Stmt} {pos : Pos} (hc : PT X x (simT p cf B d)) (ha : PSs X as (simSs p cf B B' Bl a)) (hb : PSs X bs (simSs p cf B B' Bl b)) : PS X (.If x as bs pos) (simS p cf B B' Bl (.ite d a b)) := PS.imp (ps_if hc ha hb) (by
  rintro D σ H ⟨ρ, Y, ow, r, s, I, fl, s', e0, q⟩
  obtain ⟨v, s1, e1, f⟩ := Res.bind_eq_ok (show (ev cf d r s).bind _ = _ from e0)
  obtain ⟨kk, s2, e2, f2⟩ := Res.bind_eq_ok f
  obtain ⟨g2, rfl⟩ := Res.ofO_eq_ok e2
  refine simT_of I e1 g2 fun H1 ρ1 t1 st1 => ?_
  have I1 := I.step t1 st1
  cases kk with
  | true =>
    rw [if_pos rfl]
    exact ⟨ρ1, Y, ow, r, s2, I1, fl, s', f2, q.ext (I.ext t1)⟩
  | false =>
    rw [if_neg Bool.false_ne_true]
    exact ⟨ρ1, Y, ow, r, s2, I1, fl, s', f2, q.ext (I.ext t1)⟩)
theorem forL_cons {f : PV → Env → Store → Res Fl} {x : PV} {xs : List PV} {r : Env} {s s' : Store} {fl : Fl} (h : forL f (x :: xs) r s = .ok fl s') : ∃ f1 s1, f x r s = .ok f1 s1 ∧
    (match f1 with | .next r => forL f xs r s1 = .ok fl s' | .cont r => forL f xs r s1 = .ok fl s' | .brk r => fl = .next r ∧ s' = s1 | .ret v => fl = .ret v ∧ s' = s1) := by
  obtain ⟨f1, s1, e1, g1⟩ := Res.bind_eq_ok (show (f x r s).bind _ = _ from h)
  refine ⟨f1, s1, e1, ?_⟩
  cases f1 with
  | next r => exact g1
  | cont r => exact g1
  | brk r => cases g1; exact ⟨rfl, rfl⟩
  | ret v => cases g1; exact ⟨rfl, rfl⟩
theorem s_for (g : GoodX c p k cf X) {t : Tg} {it : It} {b : Ss} {tg iter : Expr} {body : List Stmt} {pos : Pos} (hi : PI X tg iter (simI p cf B it)) (hg : PG X tg (gT X.K t)) (htB : ∀ i ∈ slots t, i ∉ B) (hb : PSs X body (simSs p cf B B B b)) (hs : ∀ x env, foldedSetIterable iter env x = pure x) :
    PS X (.For tg iter body [] pos) (simS p cf B B Bl (.for_ t it b)) := PS.imp (ps_for (by rw [g.xe]; exact PassesOwn.never) g.calm hi hg hb (fun x => hs x _)) (by
  rintro D σ H ⟨ρ, Y, ow, r, s, I, fl, s', e0, q⟩
  obtain ⟨items, s1, e1, f1⟩ := Res.bind_eq_ok (show (evI cf it r s).bind _ = _ from e0)
  refine ⟨ρ, Y, ow, r, s, I, items, s1, e1, fun J H1 ρ1 t1 st1 itr => ?_⟩
  have I1 := I.step t1 st1
  refine ⟨fun i m σ2 H2 => m = items.length - i ∧ i ≤ items.length ∧ ∃ ρ2 Y2 ow2 r2 s2, SI p B ρ2 Y2 ow2 σ2 H2 r2 s2 ∧ Ext ρ1 Y H1 ρ2 Y2 H2 ∧ forL (fun x r s => (Res.ofO (asg t x r) s).bind fun r s => exs cf b r s) (items.drop i) r2 s2 = .ok fl s', ⟨items.length, by simp, Nat.zero_le _, ρ1, Y, ow, r, s1, I1, Ext.refl _ _ _, by rw [List.drop_zero]; exact f1⟩, ?_⟩
  rintro i m σ2 H2 ⟨rfl, hi, ρ2, Y2, ow2, r2, s2, I2, x2, ef⟩
  obtain ⟨it1, it2⟩ := itr i Y2 ρ2 H2 x2.1 x2.2 fun b h => I2.there h
  by_cases hlt : i < items.length
  · right
    have hx : items[i]? = some items[i] := List.getElem?_eq_getElem hlt
    rw [List.drop_eq_getElem_cons hlt] at ef
    obtain ⟨fb, s3, e3, f3⟩ := forL_cons ef
    obtain ⟨go, yl⟩ := it1 _ hx
    obtain ⟨r3, s4, e4, f4⟩ := Res.bind_eq_ok e3
    obtain ⟨e4', rfl⟩ := Res.ofO_eq_ok e4
    refine ⟨go, fun σ' H' => ∃ ρ2 Y2 ow2 r2 s2, SI p B ρ2 Y2 ow2 σ' H' r2 s2 ∧ Ext ρ1 Y H1 ρ2 Y2 H' ∧ forL (fun x r s => (Res.ofO (asg t x r) s).bind fun r s => exs cf b r s) (items.drop (i + 1)) r2 s2 = .ok fl s',
      fun σ' H' ⟨ρ2, Y2, ow2, r2, s2, I', x', f'⟩ => ⟨items.length - (i + 1), by omega, rfl, hlt, ρ2, Y2, ow2, r2, s2, I', x', f'⟩, fun xv H3 hy => ?_⟩
    obtain ⟨sm3, rx⟩ := yl xv H3 hy
    have I3 := I2.step (Step.same sm3) (I2.st.same sm3)
    have x3 := I2.ext (Step.same (ρ := ρ2) sm3)
    rw [g.K]
    refine gT_run fz_same t rx I3.len e4' fun σ3 u => ?_
    have I4 := I3.up u htB
    refine ⟨ρ2, Y2, ow2, r3, s4, I4, fb, s3, f4, ?_⟩
    have x4 := x2.trans x3
    cases fb with
    | next rr => exact fun ρ5 Y5 ow5 σ5 H5 I5 x5 => ⟨ρ5, Y5, ow5, rr, s3, I5, x4.trans x5, f3⟩
    | cont rr => exact fun ρ5 Y5 ow5 σ5 H5 I5 x5 => ⟨ρ5, Y5, ow5, rr, s3, I5, x4.trans x5, f3⟩
    | brk rr =>
      obtain ⟨rfl, rfl⟩ := f3
      exact fun ρ5 Y5 ow5 σ5 H5 I5 x5 => q ρ5 Y5 ow5 σ5 H5 I5 ((I.ext t1).trans (x4.trans x5))
    | ret v =>
      obtain ⟨rfl, rfl⟩ := f3
      exact q
  · left
    have hi2 : i = items.length := by omega
    subst hi2
    refine ⟨it2 rfl, ?_⟩
    rw [List.drop_length] at ef
    cases ef
    exact q ρ2 Y2 ow2 σ2 H2 I2 ((I.ext t1).trans x2))
theorem whileL_succ {cc : Env → Store → Res Bool} {f : Env → Store → Res Fl} {n : Nat} {r : Env} {s s' : Store} {fl : Fl} (h : whileL cc f (n + 1) r s = .ok fl s') : ∃ kk s1, cc r s = .ok kk s1 ∧
    (if kk then ∃ f1 s2, f r s1 = .ok f1 s2 ∧ (match f1 with | .next r => whileL cc f n r s2 = .ok fl s' | .cont r => whileL cc f n r s2 = .ok fl s' | .brk r => fl = .next r ∧ s' = s2 | .ret v => fl = .ret v ∧ s' = s2) else fl = .next r ∧ s' = s1) := by
  obtain ⟨kk, s1, e1, g1⟩ := Res.bind_eq_ok (show (cc r s).bind _ = _ from h)
  refine ⟨kk, s1, e1, ?_⟩
  cases kk with
  | false => rw [if_neg Bool.false_ne_true] at g1 ⊢; cases g1; exact ⟨rfl, rfl⟩
  | true =>
    rw [if_pos rfl] at g1 ⊢
    obtain ⟨f1, s2, e2, g2⟩ := Res.bind_eq_ok g1
    refine ⟨f1, s2, e2, ?_⟩
    cases f1 with
    | next r => exact g2
    | cont r => exact g2
    | brk r => cases g2; exact ⟨rfl, rfl⟩
    | ret v => cases g2; exact ⟨rfl, rfl⟩
theorem s_while (g : GoodX c p k cf X) {d : E} {b : Ss} {x : Expr} {body : List Stmt} {pos : Pos} (hc : PT X x (simT p cf B d)) (hb : PSs X body (simSs p cf B B B b)) : PS X (.While x body [] pos) (simS p cf B B Bl (.while_ d b)) := PS.imp (ps_while (by rw [g.xe]; exact PassesOwn.never) hc hb) (by
  rintro D σ H ⟨ρ, Y, ow, r, s, I, fl, s', e0, q⟩
  refine ⟨fun m σ2 H2 => ∃ ρ2 Y2 ow2 r2 s2, SI p B ρ2 Y2 ow2 σ2 H2 r2 s2 ∧ Ext ρ Y H ρ2 Y2 H2 ∧ whileL (fun r s => (ev cf d r s).bind fun x s => Res.ofO (truth x) s) (fun r s => exs cf b r s) m r2 s2 = .ok fl s', ⟨FUEL, ρ, Y, ow, r, s, I, Ext.refl _ _ _, e0⟩, ?_⟩
  rintro m σ2 H2 ⟨ρ2, Y2, ow2, r2, s2, I2, x2, ef⟩
  cases m with
  | zero => cases ef
  | succ m =>
    obtain ⟨kk, s3, e3, f3⟩ := whileL_succ ef
    obtain ⟨v, s4, e4, f4⟩ := Res.bind_eq_ok e3
    obtain ⟨e5, rfl⟩ := Res.ofO_eq_ok f4
    refine simT_of I2 e4 e5 fun H3 ρ3 t3 st3 => ?_
    have I3 := I2.step t3 st3
    have x3 := x2.trans (I2.ext t3)
    cases kk with
    | false =>
      rw [if_neg Bool.false_ne_true] at f3 ⊢
      obtain ⟨rfl, rfl⟩ := f3
      exact q ρ3 Y2 ow2 σ2 H3 I3 x3
    | true =>
      rw [if_pos rfl] at f3 ⊢
      obtain ⟨fb, s5, e6, f6⟩ := f3
      refine ⟨fun σ' H' => ∃ ρ2 Y2 ow2 r2 s2, SI p B ρ2 Y2 ow2 σ' H' r2 s2 ∧ Ext ρ Y H ρ2 Y2 H' ∧ whileL (fun r s => (ev cf d r s).bind fun x s => Res.ofO (truth x) s) (fun r s => exs cf b r s) m r2 s2 = .ok fl s', fun σ' H' h => ⟨m, Nat.lt_succ_self m, h⟩, ?_⟩
      refine ⟨ρ3, Y2, ow2, r2, s3, I3, fb, s5, e6, ?_⟩
      cases fb with
      | next rr => exact fun ρ5 Y5 ow5 σ5 H5 I5 x5 => ⟨ρ5, Y5, ow5, rr, s5, I5, x3.trans x5, f6⟩
      | cont rr => exact fun ρ5 Y5 ow5 σ5 H5 I5 x5 => ⟨ρ5, Y5, ow5, rr, s5, I5, x3.trans x5, f6⟩
      | brk rr =>
        obtain ⟨rfl, rfl⟩ := f6
        exact fun ρ5 Y5 ow5 σ5 H5 I5 x5 => q ρ5 Y5 ow5 σ5 H5 I5 (x3.trans x5)
      | ret v =>
        obtain ⟨rfl, rfl⟩ := f6
        exact q)
end
end PyI

set_option maxRecDepth 100000
/-! PyI13: statements that store. -/
namespace PyI
open PySem PySem.Spec PyProof.Rows L2

section
variable {p : Par} {B : List Nat} {ρ ρ' : List Addr} {Y : Addr → Prop} {ow : Own} {σ : L2.St} {H H' : Hp} {r : Env} {s s' : Store} {a : Addr} {i : Nat}
theorem SI.h0 (I : SI p B ρ Y ow σ H r s) (h : H a = none) : p.H0 a = none := by
  cases z : p.H0 a with
  | none => rfl
  | some o =>
    by_cases hr : a ∈ p.ρ0
    · obtain ⟨tt, h2⟩ := I.pre
      obtain ⟨vs, h3⟩ := I.st.some (show a ∈ ρ by rw [← h2]; exact List.mem_append_left _ hr)
      rw [h] at h3; cases h3
    · have := I.frame a o z hr
      rw [h] at this; cases this
/-- a new owner -/
theorem SI.own (I : SI p B ρ Y ow σ H r s) (t : Step ρ H ρ' H') (st : StR ρ' H' s') (hi : i ∉ B) (hl : i < r.length) (h0 : H a = none) (hn : a ∉ ρ') {w : PV} {o : HO} (h1 : H' a = some o) (rr : OwR p.K p.fa ρ' (fz (fun b => Mt Y ρ' b ∨ b = a) H') w o) :
    SI p (i :: B) ρ' (YD Y a) ((i, a) :: ow) (σ.set i (some (.ref a))) H' (r.set i (some w)) s' := by
  have Iw := I.withD t st h0 (by rw [h1]; exact fun z => nomatch z) hn
  have nY : ¬ Y a := fun z => (I.th a z).1 h0
  refine ⟨by rw [List.map_cons, I.bs], List.nodup_cons.mpr ⟨hi, I.bnd⟩, Iw.pre, Iw.new, Iw.frame, Iw.m0, Iw.th, st, by rw [List.length_set, List.length_set]; exact I.len, fun j v hj e => ?_, fun j b h => ?_, ?_⟩
  · have hji : i ≠ j := fun z => hj (by simp [z])
    rw [List.getElem?_set_ne hji] at e ⊢
    exact Iw.vars j v (fun z => hj (List.mem_cons_of_mem _ z)) e
  · rcases List.mem_cons.mp h with h | h
    · cases h
      refine ⟨w, o, List.getElem?_set_self hl, List.getElem?_set_self (by rw [← I.len]; exact hl), h1, rr.mono List.prefix_rfl (fz_mono fun b o hn e => ⟨fun z => hn ?_, e⟩), I.h0 h0, .inr rfl, fun z => nY (I.m0 _ z)⟩
      rcases z with (z | z) | z
      · exact .inl (.inl z)
      · exact .inr z
      · exact .inl (.inr z)
    · have hji : i ≠ j := by
        rintro rfl
        exact hi (by rw [← I.bs]; exact List.mem_map.mpr ⟨_, h, rfl⟩)
      obtain ⟨xs, vs, q1, q2, q3⟩ := Iw.owns j b h
      exact ⟨xs, vs, by rw [List.getElem?_set_ne hji]; exact q1, by rw [List.getElem?_set_ne hji]; exact q2, q3⟩
  · rw [List.map_cons, List.nodup_cons]
    refine ⟨fun z => ?_, I.dis⟩
    obtain ⟨⟨j, b⟩, hm, rfl⟩ := List.mem_map.mp z
    obtain ⟨_, _, _, _, _, _, _, h6, _⟩ := I.owns j b hm
    exact nY h6
/-- an owner's list is changed -/
theorem SI.put (I : SI p B ρ Y ow σ H r s) (hm : (i, a) ∈ ow) {w : PV} {ho : HO} (rr : OwR p.K p.fa ρ (PyI.fz (Mt Y ρ) H) w ho) : SI p B ρ Y ow σ (upd H a ho) (r.set i (some w)) s ∧ Ext ρ Y H ρ Y (upd H a ho) := by
  obtain ⟨xs0, vs0, g1, g2, g3, g4, g5, g6, g7⟩ := I.owns i a hm
  have hB : i ∈ B := by rw [← I.bs]; exact List.mem_map.mpr ⟨_, hm, rfl⟩
  have sm : Same (fz (Mt Y ρ) H) (fz (Mt Y ρ) (upd H a ho)) := fz_mono fun b o hn e => ⟨hn, by rw [upd_ne (fun z => hn (.inl (by rw [z]; exact g6)))]; exact e⟩
  have hn := (I.th a g6).2
  have one : ∀ j b, (j, b) ∈ ow → (j = i ∧ b = a) ∨ (j ≠ i ∧ b ≠ a) := fun j b h => by
    obtain ⟨m, hm1, hm2⟩ := List.getElem_of_mem hm
    obtain ⟨n, hn1, hn2⟩ := List.getElem_of_mem h
    have nd1 : (ow.map (·.1)).Nodup := by rw [I.bs]; exact I.bnd
    by_cases hmn : m = n
    · subst hmn
      rw [hm2] at hn2
      cases hn2
      exact .inl ⟨rfl, rfl⟩
    · refine .inr ⟨fun z => hmn ?_, fun z => hmn ?_⟩
      · have e1 : (ow.map (·.1))[m]'(by simpa using hm1) = i := by simp [hm2]
        have e2 : (ow.map (·.1))[n]'(by simpa using hn1) = i := by simp [hn2, z]
        exact (List.getElem_inj nd1).mp (e1.trans e2.symm)
      · have e1 : (ow.map (·.2))[m]'(by simpa using hm1) = a := by simp [hm2]
        have e2 : (ow.map (·.2))[n]'(by simpa using hn1) = a := by simp [hn2, z]
        exact (List.getElem_inj I.dis).mp (e1.trans e2.symm)
  refine ⟨⟨I.bs, I.bnd, I.pre, I.new, fun b o e hb => ?_, I.m0, fun b h => ⟨?_, (I.th b h).2⟩, I.st.updD hn, by rw [List.length_set]; exact I.len, fun j v hj e => ?_, fun j b h => ?_, I.dis⟩, List.prefix_rfl, sm⟩
  · rw [upd_ne (by rintro rfl; rw [g5] at e; cases e)]
    exact I.frame b o e hb
  · by_cases z : b = a
    · subst z; rw [upd_same]; exact fun z => nomatch z
    · rw [upd_ne z]; exact (I.th b h).1
  · have hji : i ≠ j := fun z => hj (z ▸ hB)
    rw [List.getElem?_set_ne hji] at e
    obtain ⟨u, h1, h2⟩ := I.vars j v hj e
    exact ⟨u, h1, h2.mono List.prefix_rfl sm⟩
  · rcases one j b h with ⟨rfl, rfl⟩ | ⟨h1, h2⟩
    · exact ⟨w, ho, List.getElem?_set_self (List.getElem?_eq_some_iff.mp g1).1, g2, upd_same, rr.mono List.prefix_rfl sm, g5, g6, g7⟩
    · obtain ⟨ys, ws, q1, q2, q3, q4, q5⟩ := I.owns j b h
      exact ⟨ys, ws, by rw [List.getElem?_set_ne (Ne.symm h1)]; exact q1, q2, by rw [upd_ne h2]; exact q3, q4.mono List.prefix_rfl sm, q5⟩
end

section
variable {c : Ctx} {p : Par} {k : Nat} {cf : CF} {X : Cx} {B Bl : List Nat}
/-- the reading of target = e -/
theorem asg_read {t : Tg} {e : E} {K : PySem.W.Frag} (hK : K = p.K) (htB : ∀ i ∈ slots t, i ∉ B) {D : Ends} {σ : L2.St} {H : Hp} (h : simS p cf B B Bl (.asg t e) D σ H) : tAsg (simE p cf B e) (gT K t) D σ H := by
  subst hK
  obtain ⟨ρ, Y, ow, r, s, I, fl, s', e0, q⟩ := h
  obtain ⟨v, s1, e1, f⟩ := Res.bind_eq_ok (show (ev cf e r s).bind _ = _ from e0)
  obtain ⟨r1, s2, e2, f2⟩ := Res.bind_eq_ok f
  obtain ⟨g2, rfl⟩ := Res.ofO_eq_ok e2
  cases f2
  refine ⟨ρ, Y, ow, r, s, I, v, _, e1, fun u H1 ρ1 t1 st1 rr _ => ?_⟩
  have I1 := I.step t1 st1
  refine gT_run fz_same t rr I1.len g2 fun σ1 up => ?_
  exact q ρ1 Y ow σ1 H1 (I1.up up htB) (I.ext t1)
/-- not a tuple's target with a tuple -/
def noPar (tg x : Expr) : Bool := match tg, x with
  | .Tuple _ _ _, .Tuple _ _ _ => false
  | .List _ _, _ => false
  | _, _ => true
theorem swapped_none {tg x : Expr} {env : PySem.Env} (h : noPar tg x = true) : swappedStores [tg] x env = pure none := by
  unfold swappedStores
  cases tg <;> first | rfl | cases h | (cases x <;> first | rfl | cases h)
theorem sole_none {tg x : Expr} {l : Nat} {env : PySem.Env} (h : noComp x = true) : swapsWithSole [tg] x l env = pure false := by
  unfold swapsWithSole
  first
    | exact sw_false h
    | (cases tg <;> first | exact sw_false h | rfl)
theorem asgE_one {tg : Expr} {env : PySem.Env} {t : Tg} (h : chkTg c t tg = true) : (assignEach [tg] env).map (·.2) = [assign tg env] := by
  cases tg <;> first | rfl | (cases t <;> cases h)
theorem s_asg (g : GoodX c p k cf X) {t : Tg} {e : E} {tg x : Expr} {pos : Pos} (ht : chkTg c t tg = true) (hx : noComp x = true) (hp : noPar tg x = true) (htB : ∀ i ∈ slots t, i ∉ B) (h : PE X x (simE p cf B e)) : PS X (.Assign [tg] x pos) (simS p cf B B Bl (.asg t e)) :=
  PS.imp (ps_asg h (g_tg g t ht) (sole_none hx) (swapped_none hp) (asgE_one ht)) fun D σ H h => asg_read g.K htB h
/-- a comprehension's own row -/
theorem s_asgC {i : Nat} {e : E} {st : Stmt} (hi : i ∉ B) (h : PS X st (tAsg (simE p cf B e) (gName i))) : PS X st (simS p cf B B Bl (.asg (.name i) e)) :=
  PS.imp h fun D σ H h => asg_read (K := p.K) (t := .name i) rfl (fun j hj => by
    have : j = i := by simpa [slots] using hj
    subst this
    exact hi) h
theorem own_read {i : Nat} {e : E} (hi : i ∉ B) (hf : fresh e = true) {D : Ends} {σ : L2.St} {H : Hp} (h : simS p cf B (i :: B) Bl (.own i e) D σ H) : tAsg (simE p cf B e) (gName i) D σ H := by
  obtain ⟨ρ, Y, ow, r, s, I, fl, s', e0, q⟩ := h
  obtain ⟨v, s1, e1, f⟩ := Res.bind_eq_ok (show (ev cf e r s).bind _ = _ from e0)
  split at f
  case h_2 => cases f
  case h_1 xs =>
  split at f
  case isFalse => cases f
  case isTrue hl =>
  cases f
  refine ⟨ρ, Y, ow, r, s, I, _, s', e1, fun u H1 ρ1 t1 st1 rr fr => ?_⟩
  obtain ⟨a, vs, rfl, h0, h1, h2⟩ := fr hf xs rfl
  have hn : a ∉ ρ1 := by
    cases rr with
    | lst h r => exact fun z => (fz_some h).1 (.inr z)
  exact q ρ1 _ _ _ H1 (I.own t1 st1 hi hl h0 hn h1 (.lst h2)) ⟨t1.pre, sameD t1 (fun b h => I.there (.inl h)) h0⟩
theorem s_own (g : GoodX c p k cf X) {i : Nat} {e : E} {y : Str} {x : Expr} {py pos : Pos} (hN : c.N[i]? = some y) (hy : stoC c y = true) (hx : noComp x = true) (hi : i ∉ B) (hf : fresh e = true) (h : PE X x (simE p cf B e)) : PS X (.Assign [.Name y py] x pos) (simS p cf B (i :: B) Bl (.own i e)) := by
  obtain ⟨hl, hs⟩ := stoC_ok g hy
  exact PS.imp (ps_set (by rw [g.N]; exact g.nd) (by rw [g.N]; exact hN) hl h (sw_false hx) hs) fun D σ H h => own_read hi hf h
theorem s_ownC {i : Nat} {e : E} {st : Stmt} (hi : i ∉ B) (hf : fresh e = true) (h : PS X st (tAsg (simE p cf B e) (gName i))) : PS X st (simS p cf B (i :: B) Bl (.own i e)) := PS.imp h fun D σ H h => own_read hi hf h
/-- a method's base is just evaluated -/
theorem few_ok {x : Expr} {xs : List Expr} {pos : Pos} {env : PySem.Env} (h : (x :: xs).all plainE = true) (hl : (x :: xs).length < 30) : ((backTo pos (starEach (x :: xs) env)).all (fun x => !x.1) && (backToKw pos (keywordEach [] env)).all (fun x => x.1.isSome)
      && decide ((x :: xs).length + ([] : List Keyword).length + (if ([] : List Keyword).isEmpty then 0 else 1) < 30)) = true := by
  have h1 : (backTo pos (starEach (x :: xs) env)).all (fun x => !x.1) = true := by
    have := star_any (pos := pos) (env := env) h
    rw [List.any_eq_false] at this
    rw [List.all_eq_true]
    intro y hy
    have := this y hy
    simpa using this
  rw [h1]
  have h2 : (backToKw pos (keywordEach [] env)).all (fun x => x.1.isSome) = true := rfl
  rw [h2]
  simpa using hl
theorem s_app (g : GoodX c p k cf X) {i : Nat} {e : E} {y : Str} {x : Expr} {py apos cpos pos : Pos} (hN : c.N[i]? = some y) (hv : visC c.sc y = true) (hp : plainN y = true) (hx : plainE x = true) (hline : (apos.endLine == cpos.line) = true) (hi : i ∈ B) (h : PE X x (simE p cf B e)) :
    PS X (.Expr (.Call (.Attribute (.Name y py) "append" apos) [x] [] cpos) pos) (simS p cf B B Bl (.app i e)) := by
  obtain ⟨h1, h2, _⟩ := plainN_ok hp
  have hx1 : [x].all plainE = true := by simp [hx]
  refine PS.imp (ps_expr (pe_bm F.plainAttrs_list F.slot_list_append F.type_list_append mt_append (pe_var (i := i) (by rw [g.N]; exact hN) (by rw [g.sc]; exact visC_ok hv) h1 h2) (pa_cons h pa_nil (star_cons hx)) rfl (few_ok hx1 (Nat.lt_of_sub_pos (by decide : 0 < 30 - 1))) hline (star_cons hx) rfl) rfl) ?_
  rintro D σ H ⟨ρ, Y, ow, r, s, I, fl, s', e0, q⟩
  obtain ⟨v, s1, e1, f⟩ := Res.bind_eq_ok (show (ev cf e r s).bind _ = _ from e0)
  have hB := hi
  rw [← I.bs] at hB
  obtain ⟨⟨i', a⟩, hm, rfl⟩ := List.mem_map.mp hB
  obtain ⟨xs, vs, g1, g2, g3, g4, g5, g6, g7⟩ := I.owns _ _ hm
  rw [g1] at f
  cases g4 with
  | dct _ _ _ => cases f
  | lst g4 =>
  rename_i xs vs
  have f : (if xs.length < SZ then Res.ok (.next (r.set i' (some (.lst (xs ++ [v]))))) s1 else .bad) = Res.ok fl s' := f
  split at f
  case isFalse => cases f
  case isTrue hz =>
  cases f
  refine ⟨_, g2, .inl ⟨rfl, vs, SqL.of g3⟩, ρ, Y, ow, r, s, I, v, s', e1, fun u H1 ρ1 t1 st1 rr _ => ?_⟩
  have I1 := I.step t1 st1
  obtain ⟨xs1, vs1, k1, k2, k3, k4, k5⟩ := I1.owns _ _ hm
  rw [g1] at k1
  cases k1
  cases k4 with
  | lst k4 =>
  rename_i vs1
  refine ⟨a, vs1, u, rfl, rfl, k3, ?_, ?_⟩
  · rw [← k4.length, sz_eq]; exact hz
  · obtain ⟨J, x⟩ := I1.put hm (.lst (k4.append (.cons rr .nil)))
    exact q ρ1 Y ow σ _ J ((I.ext t1).trans x)
theorem asg_sub {o i : Expr} {pos : Pos} {env : PySem.Env} (h : plainI i = true) (v : Value) : assign (.Subscript o i pos) env v = (do
      let ov ← holding [v] (eval o env)
      let iv ← holding [v, ov] (eval i env)
      standAt pos
      holding [v, ov, iv] (setItem ov iv v)
      release [v, ov, iv] []) := by
  cases i <;> first | rfl | cases h
theorem PS.or {st : Stmt} {t t' : TS} (h : PS X st t) (h' : PS X st t') : PS X st fun D σ H => t D σ H ∨ t' D σ H := ⟨fun pins s σ H D I q => q.elim (h.run pins s σ H D I) (h'.run pins s σ H D I)⟩
theorem keyed_any {k : Ky} : ∀ {ks : List Ky} {vs : List V}, ks.length = vs.length → ((keyed ks vs).any fun kv => decide (kv.1 = kyK k)) = decide (k ∈ ks) := fun l => by rw [L2.valV_any, keyed_has l]
theorem keyed_map {k : Ky} {v : V} : ∀ {ks : List Ky} {vs : List V}, ((keyed ks vs).map fun kv => if kv.1 = kyK k then (kv.1, v) else kv) = keyed ks (putIn k v ks vs)
  | [], _ => by simp [keyed]
  | _ :: _, [] => by simp [keyed, putIn]
  | j :: js, u :: us => by
    show (if kyK j = kyK k then (kyK j, v) else (kyK j, u)) :: ((keyed js us).map fun kv => if kv.1 = kyK k then (kv.1, v) else kv) = (kyK j, if j = k then v else u) :: keyed js (putIn k v js us)
    rw [keyed_map]
    by_cases e : j = k
    · rw [if_pos (key_inj.mpr e), if_pos e]
    · rw [if_neg (fun z => e (key_inj.mp z)), if_neg e]
theorem keyed_snoc {k : Ky} {v : V} : ∀ {ks : List Ky} {vs : List V}, ks.length = vs.length → keyed ks vs ++ [(kyK k, v)] = keyed (ks ++ [k]) (vs ++ [v])
  | [], [], _ => rfl
  | [], _ :: _, l => by cases l
  | _ :: _, [], l => by cases l
  | j :: js, u :: us, l => by
    show (kyK j, u) :: (keyed js us ++ [(kyK k, v)]) = (kyK j, u) :: keyed (js ++ [k]) (us ++ [v])
    rw [keyed_snoc (by simpa using l)]
theorem keyed_put {k : Ky} {v : V} {ks : List Ky} {vs : List V} (l : ks.length = vs.length) : L2.putK (keyed ks vs) (kyK k) v = keyed (putKs k ks) (putXs k v ks vs) := by
  unfold L2.putK putKs putXs
  rw [keyed_any l]
  by_cases h : k ∈ ks
  · rw [if_pos (decide_eq_true h), if_pos h, if_pos h, keyed_map]
  · rw [if_neg (by simpa using h), if_neg h, if_neg h, keyed_snoc l]
theorem putIn_len {α : Type} {k : Ky} {v : α} : ∀ {ks : List Ky} {vs : List α}, ks.length = vs.length → (putIn k v ks vs).length = vs.length
  | [], [], _ => rfl
  | [], _ :: _, l => by cases l
  | _ :: _, [], l => by cases l
  | j :: js, u :: us, l => by
    show _ + 1 = _ + 1
    rw [putIn_len (by simpa using l)]
theorem put_len {α : Type} {k : Ky} {v : α} {ks : List Ky} {vs : List α} (l : ks.length = vs.length) : (putKs k ks).length = (putXs k v ks vs).length := by
  unfold putKs putXs
  by_cases h : k ∈ ks
  · rw [if_pos h, if_pos h, putIn_len l, l]
  · rw [if_neg h, if_neg h, List.length_append, List.length_append, l]; rfl
theorem put_ok {k : Ky} {ks : List Ky} (h : ks.all okK = true) (hk : okK k = true) : (putKs k ks).all okK = true := by
  unfold putKs
  by_cases e : k ∈ ks
  · rw [if_pos e]; exact h
  · rw [if_neg e, List.all_append, h, List.all_cons, hk]; rfl
theorem PRels.putIn {K : PySem.W.Frag} {fa : Nat → Addr} {ρ : List Addr} {H : Hp} {k : Ky} {x : PV} {v : V} (h : PRel K fa ρ H x v) : ∀ {ks : List Ky} {xs : List PV} {vs : List V}, PRels K fa ρ H xs vs → PRels K fa ρ H (PyI.putIn k x ks xs) (PyI.putIn k v ks vs)
  | [], _, _, _ => .nil
  | _ :: _, _, _, .nil => .nil
  | j :: js, _, _, .cons h0 r => by
    refine .cons ?_ (PRels.putIn h r)
    by_cases e : j = k
    · rw [if_pos e, if_pos e]; exact h
    · rw [if_neg e, if_neg e]; exact h0
theorem PRels.putXs {K : PySem.W.Frag} {fa : Nat → Addr} {ρ : List Addr} {H : Hp} {k : Ky} {x : PV} {v : V} (h : PRel K fa ρ H x v) {ks : List Ky} {xs : List PV} {vs : List V} (r : PRels K fa ρ H xs vs) : PRels K fa ρ H (PyI.putXs k x ks xs) (PyI.putXs k v ks vs) := by
  unfold PyI.putXs
  by_cases e : k ∈ ks
  · rw [if_pos e, if_pos e]; exact r.putIn h
  · rw [if_neg e, if_neg e]; exact r.append (.cons h .nil)
theorem s_setL (g : GoodX c p k cf X) {i : Nat} {ke e : E} {y : Str} {kx x : Expr} {py tpos pos : Pos} (hN : c.N[i]? = some y) (hv : visC c.sc y = true) (hp : plainN y = true) (hi : i ∈ B) (hx : noComp x = true) (hki : plainI kx = true) (hk : PE X kx (simE p cf B ke)) (h : PE X x (simE p cf B e)) :
    PS X (.Assign [.Subscript (.Name y py) kx tpos] x pos) (simS p cf B B Bl (.setL i ke e)) := by
  obtain ⟨h1, h2, _⟩ := plainN_ok hp
  have h3 : noPar (.Subscript (.Name y py) kx tpos) x = true := by cases x <;> rfl
  have hu : X.A.units + 1 < cLine := by have := g.room.un; omega
  have ho := pe_var (X := X) (x := y) (pos := py) (i := i) (by rw [g.N]; exact hN) (by rw [g.sc]; exact visC_ok hv) h1 h2
  refine PS.imp (PS.or (ps_asg h (pg_sub ho hk set_list (asg_sub hki)) (sole_none hx) (swapped_none h3) rfl) (L2.ps_dput hu ho hk h (sw_false hx))) ?_
  rintro D σ H ⟨ρ, Y, ow, r, s, I, fl, s', e0, q⟩
  obtain ⟨v, s1, e1, f⟩ := Res.bind_eq_ok (show (ev cf e r s).bind _ = _ from e0)
  obtain ⟨kv, s2, e2, f2⟩ := Res.bind_eq_ok f
  have hB := hi
  rw [← I.bs] at hB
  obtain ⟨⟨i', a⟩, hm, rfl⟩ := List.mem_map.mp hB
  obtain ⟨xs, vs, g1, g2, g3, g4, g5, g6, g7⟩ := I.owns _ _ hm
  rw [g1] at f2
  cases g4 with
  | dct hl0 hok0 g4 =>
    rename_i ks xs vs
    right
    have f2 : (match kyP kv with
      | some k => if ks.length < 100000 then Res.ok (.next (r.set i' (some (.dct (putKs k ks) (putXs k v ks xs))))) s2 else .bad
      | none => .bad) = Res.ok fl s' := by cases kv <;> exact f2
    cases ek : kyP kv with
    | none => rw [ek] at f2; cases f2
    | some kk =>
      rw [ek] at f2
      have f2 : (if ks.length < 100000 then Res.ok (.next (r.set i' (some (.dct (putKs kk ks) (putXs kk v ks xs))))) s2 else .bad) = Res.ok fl s' := f2
      split at f2
      case isFalse => cases f2
      case isTrue hz =>
      cases f2
      refine ⟨ρ, Y, ow, r, s, I, v, s1, e1, fun u H1 ρ1 t1 st1 rr _ => ⟨_, g2, ?_⟩⟩
      have I1 := I.step t1 st1
      refine ⟨ρ1, Y, ow, r, s1, I1, _, s', e2, fun ku H2 ρ2 t2 st2 rk _ => ?_⟩
      have I2 := I1.step t2 st2
      obtain ⟨xs1, vs1, k1, k2, k3, k4, k5⟩ := I2.owns _ _ hm
      rw [g1] at k1
      cases k1
      cases k4 with
      | dct hl1 hok1 k4 =>
      rename_i vs1
      obtain ⟨ey, hkk⟩ := key_rel ek rk
      refine ⟨a, _, rfl, by rw [ey]; exact L2.DPut.k k3 (by
        have : (keyed ks vs1).length ≤ ks.length := by
          unfold keyed
          rw [List.length_map, List.length_zip]
          omega
        rw [sizeLine_eq]; omega), ?_⟩
      rw [keyed_put hl1]
      obtain ⟨J, x⟩ := I2.put hm (.dct (put_len hl1) (put_ok hok1 hkk) (k4.putXs (rr.mono t2.pre (I1.same t2))))
      exact q ρ2 Y ow σ _ J (((I.ext t1).trans (I1.ext t2)).trans x)
  | lst g4 =>
  left
  rename_i xs vs
  cases kv with
  | int j =>
    have f2 : (match PyI.ixN xs.length j with | some m => Res.ok (.next (r.set i' (some (.lst (xs.set m v))))) s2 | none => .bad) = Res.ok fl s' := f2
    cases hj : PyI.ixN xs.length j with
    | none => rw [hj] at f2; cases f2
    | some m =>
      rw [hj] at f2
      cases f2
      refine ⟨ρ, Y, ow, r, s, I, v, s1, e1, fun u H1 ρ1 t1 st1 rr _ => ⟨_, g2, ?_⟩⟩
      have I1 := I.step t1 st1
      refine ⟨ρ1, Y, ow, r, s1, I1, _, s', e2, fun ku H2 ρ2 t2 st2 rk _ => ?_⟩
      have I2 := I1.step t2 st2
      cases rk
      obtain ⟨xs1, vs1, k1, k2, k3, k4, k5⟩ := I2.owns _ _ hm
      rw [g1] at k1
      cases k1
      cases k4 with
      | lst k4 =>
      rename_i vs1
      refine ⟨a, vs1, j, m, rfl, rfl, k3, by rw [← k4.length]; rw [← ixN_eq]; exact hj, ?_⟩
      obtain ⟨J, x⟩ := I2.put hm (.lst (k4.set (rr.mono t2.pre (I1.same t2)) m))
      exact q ρ2 Y ow σ _ J (((I.ext t1).trans (I1.ext t2)).trans x)
  | _ => cases f2
theorem s_setP (g : GoodX c p k cf X) {i : Nat} {ke e : E} {y : Str} {kx x : Expr} {py tpos pos : Pos} (hN : c.N[i]? = some y) (hv : visC c.sc y = true) (hp : plainN y = true) (hi : i ∉ B) (hx : noComp x = true) (hki : plainI kx = true) (hk : PE X kx (simE p cf B ke)) (h : PE X x (simE p cf B e)) :
    PS X (.Assign [.Subscript (.Name y py) kx tpos] x pos) (simS p cf B B Bl (.setP i ke e)) := by
  obtain ⟨h1, h2, _⟩ := plainN_ok hp
  have h3 : noPar (.Subscript (.Name y py) kx tpos) x = true := by cases x <;> rfl
  refine PS.imp (ps_asg h (pg_sub (pe_var (i := i) (by rw [g.N]; exact hN) (by rw [g.sc]; exact visC_ok hv) h1 h2) hk set_list (asg_sub hki)) (sole_none hx) (swapped_none h3) rfl) ?_
  rintro D σ H ⟨ρ, Y, ow, r, s, I, fl, s', e0, q⟩
  obtain ⟨v, s1, e1, f⟩ := Res.bind_eq_ok (show (ev cf e r s).bind _ = _ from e0)
  obtain ⟨kv, s2, e2, f2⟩ := Res.bind_eq_ok f
  split at f2
  case h_2 => cases f2
  case h_1 _ pi j hr =>
  split at f2
  case h_2 => cases f2
  case h_1 xs hs =>
  split at f2
  case h_2 => cases f2
  case h_1 m hj =>
  split at f2
  case isFalse => cases f2
  case isTrue hsc =>
  cases f2
  obtain ⟨u0, g1, g2⟩ := I.vars _ _ hi hr
  cases g2 with
  | loc g2 =>
    rename_i a
    refine ⟨ρ, Y, ow, r, s, I, v, s1, e1, fun u H1 ρ1 t1 st1 rr _ => ⟨_, g1, ?_⟩⟩
    have I1 := I.step t1 st1
    refine ⟨ρ1, Y, ow, r, s1, I1, _, s2, e2, fun ku H2 ρ2 t2 st2 rk _ => ?_⟩
    have I2 := I1.step t2 st2
    cases rk
    obtain ⟨a', vs, k1, k2, k3, k4⟩ := st2.at_ pi xs hs
    have t12 := t1.trans t2
    have : a' = a := by
      obtain ⟨tt, h4⟩ := t12.pre
      rw [← h4, List.getElem?_append_left (List.getElem?_eq_some_iff.mp g2).1, g2] at k1
      exact (Option.some.inj k1).symm
    subst this
    have ha : a' ∈ ρ2 := List.mem_of_getElem? k1
    refine ⟨a', vs, j, m, rfl, rfl, k2, by rw [← k4.length]; rw [← ixN_eq]; exact hj, ?_⟩
    have t3 : Step ρ2 H2 ρ2 (upd H2 a' (.lst (vs.set m u))) := ⟨List.prefix_rfl, fun _ h n => absurd h n, fun b o e hb => by rw [upd_ne (by rintro rfl; exact hb ha)]; exact e⟩
    have hpl : pi < s2.length := (List.getElem?_eq_some_iff.mp hs).1
    have st3 : StR ρ2 (upd H2 a' (.lst (vs.set m u))) (s2.set pi (xs.set m v)) := by
      refine ⟨by rw [List.length_set]; exact st2.len, st2.nd, fun n ys e => ?_⟩
      by_cases hn : pi = n
      · subst hn
        rw [List.getElem?_set_self hpl] at e
        cases e
        refine ⟨a', _, k1, upd_same, ?_, k4.set (rr.scal hsc) m⟩
        rw [List.all_eq_true] at k3 ⊢
        intro z hz
        rcases List.mem_or_eq_of_mem_set hz with h | h
        · exact k3 z h
        · rw [h]; exact hsc
      · rw [List.getElem?_set_ne hn] at e
        obtain ⟨b, ws, h1, h2, h3⟩ := st2.at_ n ys e
        refine ⟨b, ws, h1, ?_, h3⟩
        rw [upd_ne]
        · exact h2
        · rintro rfl
          obtain ⟨l1, q1⟩ := List.getElem?_eq_some_iff.mp h1
          obtain ⟨l2, q2⟩ := List.getElem?_eq_some_iff.mp k1
          exact hn ((List.getElem_inj st2.nd).mp (q2.trans q1.symm))
    exact q ρ2 Y ow σ _ (I2.step t3 st3) (((I.ext t1).trans (I1.ext t2)).trans (I2.ext t3))
end
end PyI

set_option maxRecDepth 100000
/-! PyI14: names stored in parallel. -/
namespace PyI
open PySem PySem.Spec PyProof.Rows L2
section
variable {c : Ctx} {p : Par} {k : Nat} {cf : CF} {X : Cx} {B Bl : List Nat}
def noStar (x : Expr) : Bool := match x with
  | .Starred .. => false
  | _ => true
theorem any2 {f : Expr → Bool} {a b : Expr} (ha : f a = false) (hb : f b = false) : [a, b].any f = false := by simp [ha, hb]
theorem any3 {f : Expr → Bool} {a b d : Expr} (ha : f a = false) (hb : f b = false) (hd : f d = false) : [a, b, d].any f = false := by simp [ha, hb, hd]
theorem sw2 {env : PySem.Env} {x y : Str} {px py pt pt2 : Pos} {kt k2 : Nat} {a b : Expr} (hk : env.scope.kind = .function) (hx : env.scope.names.lookup x = some .local) (hy : env.scope.names.lookup y = some .local) (hl : (py.line == px.line) = true)
    (hne : ([x, y].eraseDups.length == 2) = true) (ha : noStar a = true) (hb : noStar b = true) (hf : [a, b].all (foldedForSure 8) = false) (hc : [a, b].all (constantsAlone 8) = false) :
    swappedStores [.Tuple [.Name x px, .Name y py] kt pt] (.Tuple [a, b] k2 pt2) env = pure (some [x, y]) := by
  have kx : env.kindOf x = some .local := hx
  have ky : env.kindOf y = some .local := hy
  have hbk : env.blockKind = .function := by unfold PySem.Env.blockKind; rw [hk]; rfl
  have hl' : py.line = px.line := by simpa using hl
  have hn : [x, y].eraseDups.length = 2 := by simpa using hne
  unfold swappedStores
  simp only [hbk, hf, hc, List.length_cons, List.length_nil]
  rw [any2 (by revert ha; cases a <;> intro ha <;> first | rfl | cases ha) (by revert hb; cases b <;> intro hb <;> first | rfl | cases hb)]
  simp [kx, ky, hl', hn, Expr.pos]
theorem sw3 {env : PySem.Env} {x y z : Str} {px py pz pt pt2 : Pos} {kt k2 : Nat} {a b d : Expr} (hk : env.scope.kind = .function) (hx : env.scope.names.lookup x = some .local) (hy : env.scope.names.lookup y = some .local) (hz : env.scope.names.lookup z = some .local) (hl : (py.line == px.line) = true) (hl2 : (pz.line == px.line) = true)
    (hne : ([x, y, z].eraseDups.length == 3) = true) (ha : noStar a = true) (hb : noStar b = true) (hd : noStar d = true) (hf : [a, b, d].all (foldedForSure 8) = false) (hc : [a, b, d].all (constantsAlone 8) = false) :
    swappedStores [.Tuple [.Name x px, .Name y py, .Name z pz] kt pt] (.Tuple [a, b, d] k2 pt2) env = pure (some [x, y, z]) := by
  have kx : env.kindOf x = some .local := hx
  have ky : env.kindOf y = some .local := hy
  have kz : env.kindOf z = some .local := hz
  have hbk : env.blockKind = .function := by unfold PySem.Env.blockKind; rw [hk]; rfl
  have hl' : py.line = px.line := by simpa using hl
  have hl2' : pz.line = px.line := by simpa using hl2
  have hn : [x, y, z].eraseDups.length = 3 := by simpa using hne
  unfold swappedStores
  simp only [hbk, hf, hc, List.length_cons, List.length_nil]
  rw [any3 (by revert ha; cases a <;> intro ha <;> first | rfl | cases ha) (by revert hb; cases b <;> intro hb <;> first | rfl | cases hb) (by revert hd; cases d <;> intro hd <;> first | rfl | cases hd)]
  simp [kx, ky, kz, hl', hl2', hn, Expr.pos]
/-- constants: no stores in another order -/
theorem swF {env : PySem.Env} {ts vs : List Expr} {k1 k2 : Nat} {pt pt2 : Pos} (hf : vs.all (foldedForSure 8) = true) : swappedStores [.Tuple ts k1 pt] (.Tuple vs k2 pt2) env = pure none := by
  unfold swappedStores
  simp only [hf]
  split
  · rfl
  · split
    · rfl
    · split <;> rfl
theorem swL {env : PySem.Env} {ts vs : List Expr} {k1 k2 : Nat} {pt pt2 : Pos} (hf : (ts.length == 2 || ts.length == 3) = false) : swappedStores [.Tuple ts k1 pt] (.Tuple vs k2 pt2) env = pure none := by
  unfold swappedStores
  simp only [hf]
  rfl
theorem s_asgT (g : GoodX c p k cf X) {t : Tg} {e : E} {ts vs : List Expr} {k1 k2 : Nat} {pt pt2 pos : Pos} (ht : chkTg c t (.Tuple ts k1 pt) = true) (hp : (!(ts.length == 2 || ts.length == 3) || vs.all (foldedForSure 8)) = true) (htB : ∀ i ∈ slots t, i ∉ B) (h : PE X (.Tuple vs k2 pt2) (simE p cf B e)) : PS X (.Assign [.Tuple ts k1 pt] (.Tuple vs k2 pt2) pos) (simS p cf B B Bl (.asg t e)) :=
  PS.imp (ps_asg h (g_tg g t ht) (sole_none rfl) (by
    rw [Bool.or_eq_true, Bool.not_eq_true'] at hp
    exact hp.elim swL swF) (asgE_one ht)) fun D σ H h => asg_read g.K htB h

theorem s_par2 (g : GoodX c p k cf X) {i j : Nat} {es : Es} {x y : Str} {px py pt pt2 pos : Pos} {kt k2 : Nat} {a b : Expr} (hi : c.N[i]? = some x) (hj : c.N[j]? = some y) (hij : i ≠ j) (hx : isLc c.sc x = true) (hy : isLc c.sc y = true) (hl : (py.line == px.line) = true)
    (hne : ([x, y].eraseDups.length == 2) = true) (ha : noStar a = true) (hb : noStar b = true) (hf : [a, b].all (foldedForSure 8) = false) (hc : [a, b].all (constantsAlone 8) = false) (hiB : i ∉ B) (hjB : j ∉ B) (h : PA X [a, b] (simEs p cf B es)) :
    PS X (.Assign [.Tuple [.Name x px, .Name y py] kt pt] (.Tuple [a, b] k2 pt2) pos) (simS p cf B B Bl (.par [i, j] es)) := by
  have hx' : X.env.scope.names.lookup x = some .local := by rw [g.sc]; exact isLc_ok hx
  have hy' : X.env.scope.names.lookup y = some .local := by rw [g.sc]; exact isLc_ok hy
  refine PS.imp (ps_par g.calm (by rw [g.N]; exact g.nd) (by rw [g.N]; exact hi) (by rw [g.N]; exact hj) hij hx' hy' h (sw2 (by rw [g.sc]; exact g.kind) hx' hy' hl hne ha hb hf hc) (sole_none rfl)) ?_
  rintro D σ H ⟨ρ, Y, ow, r, s, I, fl, s', e0, q⟩
  obtain ⟨vs, s1, e1, f⟩ := Res.bind_eq_ok (show (evs cf es r s).bind _ = _ from e0)
  obtain ⟨r1, s2, e2, f2⟩ := Res.bind_eq_ok f
  obtain ⟨g2, rfl⟩ := Res.ofO_eq_ok e2
  cases f2
  refine ⟨ρ, Y, ow, r, s, I, vs, _, e1, fun us H1 ρ1 t1 st1 rr => ?_⟩
  have I1 := I.step t1 st1
  match vs, us, rr, g2 with
  | [v, w], [u, z], .cons r1 (.cons r2 .nil), g2 =>
    cases g2
    refine ⟨u, z, rfl, ?_⟩
    exact q ρ1 Y ow _ H1 (I1.up ((Up.one I1.len r1).trans (Up.one (by rw [List.length_set, List.length_set]; exact I1.len) r2)) fun n hn => by
      rcases List.mem_append.mp hn with h | h
      · have : n = i := by simpa using h
        subst this; exact hiB
      · have : n = j := by simpa using h
        subst this; exact hjB) (I.ext t1)
  | [], _, _, g2 => cases g2
  | [_], _, _, g2 => cases g2
  | _ :: _ :: _ :: _, _, _, g2 => cases g2
theorem s_par3 (g : GoodX c p k cf X) {i j l : Nat} {es : Es} {x y z : Str} {px py pz pt pt2 pos : Pos} {kt k2 : Nat} {a b d : Expr} (hi : c.N[i]? = some x) (hj : c.N[j]? = some y) (hl3 : c.N[l]? = some z) (hij : i ≠ j) (hil : i ≠ l) (hjl : j ≠ l) (hx : isLc c.sc x = true) (hy : isLc c.sc y = true) (hz : isLc c.sc z = true) (hl : (py.line == px.line) = true) (hl2 : (pz.line == px.line) = true)
    (hne : ([x, y, z].eraseDups.length == 3) = true) (ha : noStar a = true) (hb : noStar b = true) (hd : noStar d = true) (hf : [a, b, d].all (foldedForSure 8) = false) (hc : [a, b, d].all (constantsAlone 8) = false) (hiB : i ∉ B) (hjB : j ∉ B) (hlB : l ∉ B) (h : PA X [a, b, d] (simEs p cf B es)) :
    PS X (.Assign [.Tuple [.Name x px, .Name y py, .Name z pz] kt pt] (.Tuple [a, b, d] k2 pt2) pos) (simS p cf B B Bl (.par [i, j, l] es)) := by
  have hx' : X.env.scope.names.lookup x = some .local := by rw [g.sc]; exact isLc_ok hx
  have hy' : X.env.scope.names.lookup y = some .local := by rw [g.sc]; exact isLc_ok hy
  have hz' : X.env.scope.names.lookup z = some .local := by rw [g.sc]; exact isLc_ok hz
  refine PS.imp (L2.ps_par3 g.calm (by rw [g.N]; exact g.nd) (by rw [g.N]; exact hi) (by rw [g.N]; exact hj) (by rw [g.N]; exact hl3) hij hil hjl hx' hy' hz' h (sw3 (by rw [g.sc]; exact g.kind) hx' hy' hz' hl hl2 hne ha hb hd hf hc) (sole_none rfl)) ?_
  rintro D σ H ⟨ρ, Y, ow, r, s, I, fl, s', e0, q⟩
  obtain ⟨vs, s1, e1, f⟩ := Res.bind_eq_ok (show (evs cf es r s).bind _ = _ from e0)
  obtain ⟨r1, s2, e2, f2⟩ := Res.bind_eq_ok f
  obtain ⟨g2, rfl⟩ := Res.ofO_eq_ok e2
  cases f2
  refine ⟨ρ, Y, ow, r, s, I, vs, _, e1, fun us H1 ρ1 t1 st1 rr => ?_⟩
  have I1 := I.step t1 st1
  match vs, us, rr, g2 with
  | [v, w, o], [u, z, n], .cons r1 (.cons r2 (.cons r3 .nil)), g2 =>
    cases g2
    refine ⟨u, z, n, rfl, ?_⟩
    exact q ρ1 Y ow _ H1 (I1.up (((Up.one I1.len r1).trans (Up.one (by rw [List.length_set, List.length_set]; exact I1.len) r2)).trans (Up.one (by rw [List.length_set, List.length_set, List.length_set, List.length_set]; exact I1.len) r3)) fun n hn => by
      rcases List.mem_append.mp hn with h | h
      · rcases List.mem_append.mp h with h | h
        · have : n = i := by simpa using h
          subst this; exact hiB
        · have : n = j := by simpa using h
          subst this; exact hjB
      · have : n = l := by simpa using h
        subst this; exact hlB) (I.ext t1)
  | [], _, _, g2 => cases g2
  | [_], _, _, g2 => cases g2
  | [_, _], _, _, g2 => cases g2
  | _ :: _ :: _ :: _ :: _, _, _, g2 => cases g2
end
end PyI

set_option maxRecDepth 100000
/-! PyIO: owners of dicts; an owner's item taken out. -/
namespace PyI
open PySem PySem.Spec PyProof.Rows L2
section
variable {c : Ctx} {p : Par} {k : Nat} {cf : CF} {X : Cx} {B Bl : List Nat}
theorem SI.notin {ρ : List Addr} {Y : Addr → Prop} {ow : Own} {σ : L2.St} {H : Hp} {r : Env} {s : Store} (I : SI p B ρ Y ow σ H r s) {D : Addr} (hD : H D = none) : D ∉ ρ := fun z => by
  obtain ⟨vs, h⟩ := I.st.some z
  rw [hD] at h; cases h
/-- a new dict, owned -/
theorem SI.ownD {ρ : List Addr} {Y : Addr → Prop} {ow : Own} {σ : L2.St} {H : Hp} {r : Env} {s : Store} {i : Nat} {a : Addr} (I : SI p B ρ Y ow σ H r s) (hi : i ∉ B) (hl : i < r.length) (ha : H a = none) :
    SI p (i :: B) ρ (YD Y a) ((i, a) :: ow) (σ.set i (some (.ref a))) (upd H a (.dK [])) (r.set i (some (.dct [] []))) s ∧ Ext ρ Y H ρ (YD Y a) (upd H a (.dK [])) := by
  have t0 : Step ρ H ρ (upd H a (.dK [])) := Step.laid ha
  have hn := I.notin ha
  exact ⟨I.own t0 (I.st.updD hn) hi hl ha hn upd_same (.dct (vs := []) rfl rfl .nil), t0.pre, sameD t0 (fun b h => I.there (.inl h)) ha⟩
theorem s_ownD (g : GoodX c p k cf X) {i : Nat} {y : Str} {py dp pos : Pos} (hN : c.N[i]? = some y) (hy : stoC c y = true) (hi : i ∉ B) : PS X (.Assign [.Name y py] (.Dict [] [] dp) pos) (simS p cf B (i :: B) Bl (.ownD i)) := by
  obtain ⟨hl, hs⟩ := stoC_ok g hy
  refine PS.imp (ps_set (by rw [g.N]; exact g.nd) (by rw [g.N]; exact hN) hl (pe_dnewK) (sw_false rfl) hs) ?_
  rintro D σ H ⟨ρ, Y, ow, r, s, I, fl, s', e0, q⟩
  have e0 : (if i < r.length then Res.ok (.next (r.set i (some (.dct [] [])))) s else .bad) = Res.ok fl s' := e0
  split at e0
  case isFalse => cases e0
  case isTrue hl =>
  cases e0
  intro a ha
  obtain ⟨J, x⟩ := I.ownD hi hl ha
  exact q ρ _ _ _ _ J x
theorem s_ownDD (g : GoodX c p k cf X) {i j : Nat} {x y : Str} {px py pt pt2 pos da db : Pos} {kt k2 : Nat} (hi : c.N[i]? = some x) (hj : c.N[j]? = some y) (hij : i ≠ j) (hx : isLc c.sc x = true) (hy : isLc c.sc y = true) (hl : (py.line == px.line) = true)
    (hne : ([x, y].eraseDups.length == 2) = true) (hf : [Expr.Dict [] [] da, Expr.Dict [] [] db].all (foldedForSure 8) = false) (hc : [Expr.Dict [] [] da, Expr.Dict [] [] db].all (constantsAlone 8) = false) (hiB : i ∉ B) (hjB : j ∉ B) :
    PS X (.Assign [.Tuple [.Name x px, .Name y py] kt pt] (.Tuple [.Dict [] [] da, .Dict [] [] db] k2 pt2) pos) (simS p cf B (j :: i :: B) Bl (.ownDD i j)) := by
  have hx' : X.env.scope.names.lookup x = some .local := by rw [g.sc]; exact isLc_ok hx
  have hy' : X.env.scope.names.lookup y = some .local := by rw [g.sc]; exact isLc_ok hy
  have hp : plainE (.Dict [] [] da) = true := rfl
  have hp2 : plainE (.Dict [] [] db) = true := rfl
  refine PS.imp (ps_par g.calm (by rw [g.N]; exact g.nd) (by rw [g.N]; exact hi) (by rw [g.N]; exact hj) hij hx' hy' (pa_cons pe_dnewK (pa_cons pe_dnewK pa_nil (star_cons hp2)) (star_cons hp)) (sw2 (by rw [g.sc]; exact g.kind) hx' hy' hl hne rfl rfl hf hc) (sole_none rfl)) ?_
  rintro D σ H ⟨ρ, Y, ow, r, s, I, fl, s', e0, q⟩
  have e0 : (if (decide (i < r.length) && decide (j < r.length)) = true then Res.ok (.next ((r.set i (some (.dct [] []))).set j (some (.dct [] [])))) s else .bad) = Res.ok fl s' := e0
  split at e0
  case isFalse => cases e0
  case isTrue hl =>
  cases e0
  rw [Bool.and_eq_true, decide_eq_true_eq, decide_eq_true_eq] at hl
  intro a ha b hb
  refine ⟨_, _, rfl, ?_⟩
  obtain ⟨J, x1⟩ := I.ownD hiB hl.1 ha
  obtain ⟨J2, x2⟩ := J.ownD (i := j) (a := b) (by
    intro z
    rcases List.mem_cons.mp z with z | z
    · exact hij z.symm
    · exact hjB z) (by rw [List.length_set]; exact hl.2) hb
  exact q ρ _ _ _ _ J2 (x1.trans x2)
theorem PRels.eraseIdx {K : PySem.W.Frag} {fa : Nat → Addr} {ρ : List Addr} {H : Hp} : ∀ {xs : List PV} {vs : List V} (n : Nat), PRels K fa ρ H xs vs → PRels K fa ρ H (xs.eraseIdx n) (vs.eraseIdx n)
  | _, _, _, .nil => .nil
  | _, _, 0, .cons _ r => r
  | _, _, n + 1, .cons h r => .cons h (PRels.eraseIdx n r)
theorem s_popL (g : GoodX c p k cf X) {i j : Nat} {e : E} {y z : Str} {x : Expr} {py pz apos cpos pos : Pos} (hj : c.N[j]? = some y) (hy : stoC c y = true) (hN : c.N[i]? = some z) (hv : visC c.sc z = true) (hp : plainN z = true) (hx : plainE x = true) (hline : (apos.endLine == cpos.line) = true) (hi : i ∈ B) (hjB : j ∉ B) (h : PE X x (simE p cf B e)) :
    PS X (.Assign [.Name y py] (.Call (.Attribute (.Name z pz) "pop" apos) [x] [] cpos) pos) (simS p cf B B Bl (.popL j i e)) := by
  obtain ⟨h1, h2, _⟩ := plainN_ok hp
  obtain ⟨hl, hs⟩ := stoC_ok g hy
  have hx1 : [x].all plainE = true := by simp [hx]
  refine PS.imp (ps_set (by rw [g.N]; exact g.nd) (by rw [g.N]; exact hj) hl (pe_bm F.plainAttrs_list F.slot_list_pop F.type_list_pop mt_popAt (pe_var (i := i) (by rw [g.N]; exact hN) (by rw [g.sc]; exact visC_ok hv) h1 h2) (pa_cons h pa_nil (star_cons hx)) rfl (few_ok hx1 (Nat.lt_of_sub_pos (by decide : 0 < 30 - 1))) hline (star_cons hx) rfl) (sw_false rfl) hs) ?_
  rintro D σ H ⟨ρ, Y, ow, r, s, I, fl, s', e0, q⟩
  obtain ⟨v, s1, e1, f⟩ := Res.bind_eq_ok (show (ev cf e r s).bind _ = _ from e0)
  have hB := hi
  rw [← I.bs] at hB
  obtain ⟨⟨i', a⟩, hm, rfl⟩ := List.mem_map.mp hB
  obtain ⟨xs, vs, g1, g2, g3, g4, g5, g6, g7⟩ := I.owns _ _ hm
  rw [g1] at f
  cases g4 with
  | dct _ _ _ => cases f
  | lst g4 =>
  rename_i xs vs
  cases v with
  | int n =>
    have f : (match ixN xs.length n with
      | some m => (match xs[m]? with
        | some x => if lim63 n then Res.ok (.next ((r.set i' (some (.lst (xs.eraseIdx m)))).set j (some x))) s1 else .bad
        | none => .bad)
      | none => .bad) = Res.ok fl s' := f
    cases hj' : ixN xs.length n with
    | none => rw [hj'] at f; cases f
    | some m =>
      rw [hj'] at f
      have f : (match xs[m]? with
        | some x => if lim63 n then Res.ok (.next ((r.set i' (some (.lst (xs.eraseIdx m)))).set j (some x))) s1 else .bad
        | none => .bad) = Res.ok fl s' := f
      cases hx' : xs[m]? with
      | none => rw [hx'] at f; cases f
      | some xv =>
        rw [hx'] at f
        have f : (if lim63 n then Res.ok (.next ((r.set i' (some (.lst (xs.eraseIdx m)))).set j (some xv))) s1 else .bad) = Res.ok fl s' := f
        split at f
        case isFalse => cases f
        case isTrue hz =>
        cases f
        refine ⟨_, g2, .inl ⟨rfl, vs, SqL.of g3⟩, ρ, Y, ow, r, s, I, _, s', e1, fun u H1 ρ1 t1 st1 rr _ => ?_⟩
        have I1 := I.step t1 st1
        obtain ⟨xs1, vs1, k1, k2, k3, k4, k5⟩ := I1.owns _ _ hm
        rw [g1] at k1
        cases k1
        cases k4 with
        | lst k4 =>
        rename_i vs1
        cases rr
        obtain ⟨w, hw1, hw2⟩ := k4.get hx'
        unfold lim63 at hz
        rw [Bool.and_eq_true, decide_eq_true_eq, decide_eq_true_eq] at hz
        refine ⟨a, vs1, n, m, w, rfl, rfl, k3, hz.1, hz.2, by rw [← k4.length]; exact (L2.ixN_seq hj').1, hw1, ?_⟩
        obtain ⟨J, x⟩ := I1.put hm (.lst (k4.eraseIdx m))
        have J2 := J.up (Up.one J.len (hw2.mono List.prefix_rfl x.2)) fun n hn => by
          have : n = j := by simpa using hn
          subst this
          exact hjB
        exact q ρ1 Y ow _ _ J2 ((I.ext t1).trans x)
  | _ => cases f
end
end PyI

set_option maxRecDepth 100000
/-! PyIX: methods, range of three, names stored in parallel of which one is an owner. -/
namespace PyI
open PySem PySem.Spec PyProof.Rows L2

section
variable {c : Ctx} {p : Par} {k : Nat} {cf : CF} {X : Cx} {B Bl : List Nat}
def methN : Meth → Str
  | .join => "join" | .count => "count" | .find => "find" | .startswith => "startswith" | .endswith => "endswith"
/-- a method by values -/
def rMeth (K : PySem.W.Frag) (fa : Nat → Addr) (m : Meth) (x : V) (us : List V) (H : Hp) (Q : VK) : Prop := ∃ ρ M a xs v, (∀ b, M b → H b ≠ none) ∧ PRel K fa ρ (fz M H) a x ∧ PRels K fa ρ (fz M H) xs us ∧ mtop m a xs = some v ∧ Gv K fa ρ M H v Q
theorem MtR.imp {X : Cx} {id : String} {r r' : V → List V → Hp → VK → Prop} (h : MtR X id r) (i : ∀ x vs H Q, r' x vs H Q → r x vs H Q) : MtR X id r' := fun pins s σ H x xs v us Q I rx rv q => h pins s σ H x xs v us Q I rx rv (i _ _ _ _ q)
theorem Gv.strS {K : PySem.W.Frag} {fa : Nat → Addr} {ρ : List Addr} {M : Addr → Prop} {H : Hp} {Q : VK} {z : Str} (g : Gv K fa ρ M H (.str z.cps.toList) Q) (h : okS z.cps.toList = true) : Q (.str z) H := by
  have := g.str h
  rwa [Array.toArray_toList] at this
theorem meth_str {m : Meth} {a : PV} {xs : List PV} {v : PV} (h : mtop m a xs = some v) : ∃ s x, a = .str s ∧ xs = [x] ∧ mt1 m s x = some v := by
  unfold mtop at h
  split at h
  · exact ⟨_, _, rfl, rfl, h⟩
  · cases h
theorem join_ok {K : PySem.W.Frag} {fa : Nat → Addr} {ρ : List Addr} {M : Addr → Prop} {H : Hp} {Q : VK} {s : List Nat} {xs : List PV} {us : List V} {v : PV} (hx : PRels K fa ρ (fz M H) xs us)
    (h : joinV s xs = some v) (g : Gv K fa ρ M H v Q) :
    ∃ ys : List Str, us = ys.map V.str ∧ (ys.map (·.length)).sum + ys.length * (mkS s).length ≤ 16777216 ∧ Q (.str (PySem.Txt.join (mkS s) ys)) H := by
  unfold joinV at h
  cases e : strsOf xs with
  | none => rw [e] at h; cases h
  | some l =>
    rw [e] at h
    have h : (if ((l.map mkS).map (·.length)).sum + (l.map mkS).length * (mkS s).length ≤ SZ && okS (PySem.Txt.join (mkS s) (l.map mkS)).cps.toList then some (PV.str (PySem.Txt.join (mkS s) (l.map mkS)).cps.toList) else none) = some v := h
    split at h
    · rename_i hz
      cases h
      rw [Bool.and_eq_true, decide_eq_true_eq] at hz
      have := strsOf_eq e
      subst this
      have ev := hx.strs
      exact ⟨l.map mkS, by rw [ev, List.map_map]; rfl, hz.1, g.strS hz.2⟩
    · cases h
theorem e_meth (g : GoodX c p k cf X) {m : Meth} {a : E} {as : Es} {o x : Expr} {xs : List Expr} {apos pos : Pos} (hb : attributeBase o (methN m) X.env (eval o X.env) = eval o X.env) (hx : (x :: xs).all plainE = true) (hn : (x :: xs).length < 30) (hl : (apos.endLine == pos.line) = true) (ho : PE X o (simE p cf B a)) (hs : PA X (x :: xs) (simEs p cf B as)) :
    PE X (.Call (.Attribute o (methN m) apos) (x :: xs) [] pos) (simE p cf B (.meth m a as)) := by
  have hx' := hx
  rw [List.all_cons, Bool.and_eq_true] at hx'
  have key : PE X (.Call (.Attribute o (methN m) apos) (x :: xs) [] pos) (tBM X.K "str" (rMeth X.K p.fa m) (simE p cf B a) (simEs p cf B as)) := by
    cases m with
    | join =>
      refine pe_bm F.plainAttrs_str F.slot_str_join F.type_str_join (MtR.imp mt_join ?_) ho hs hb (few_ok hx hn) hl (star_cons hx'.1) (star_any hx'.2)
      rintro x us H Q ⟨ρ, M, a, xs, v, hM, ra, rx, e, gv⟩
      obtain ⟨s, y, rfl, rfl, e⟩ := meth_str e
      cases ra
      obtain ⟨yv, rfl, r1⟩ := rx.one
      cases r1 with
      | lst h r =>
        obtain ⟨ys, h1, h2, h3⟩ := join_ok r e gv
        subst h1
        exact ⟨_, _, ys, rfl, rfl, .inl (SqL.of (fz_same _ _ h)), h2, h3⟩
      | tup h r =>
        obtain ⟨ys, h1, h2, h3⟩ := join_ok r e gv
        subst h1
        exact ⟨_, _, ys, rfl, rfl, .inr (Same.sqT fz_same h), h2, h3⟩
      | _ => cases e
    | count =>
      refine pe_bm F.plainAttrs_str F.slot_str_count F.type_str_count (MtR.imp mt_count ?_) ho hs hb (few_ok hx hn) hl (star_cons hx'.1) (star_any hx'.2)
      rintro x us H Q ⟨ρ, M, a, xs, v, hM, ra, rx, e, gv⟩
      obtain ⟨s, y, rfl, rfl, e⟩ := meth_str e
      cases ra
      obtain ⟨yv, rfl, r1⟩ := rx.one
      cases r1 with
      | str b hb => cases e; exact ⟨_, _, rfl, rfl, gv.int⟩
      | _ => cases e
    | find =>
      refine pe_bm F.plainAttrs_str F.slot_str_find F.type_str_find (MtR.imp mt_find ?_) ho hs hb (few_ok hx hn) hl (star_cons hx'.1) (star_any hx'.2)
      rintro x us H Q ⟨ρ, M, a, xs, v, hM, ra, rx, e, gv⟩
      obtain ⟨s, y, rfl, rfl, e⟩ := meth_str e
      cases ra
      obtain ⟨yv, rfl, r1⟩ := rx.one
      cases r1 with
      | str b hb => cases e; exact ⟨_, _, rfl, rfl, gv.int⟩
      | _ => cases e
    | startswith =>
      refine pe_bm F.plainAttrs_str F.slot_str_startswith F.type_str_startswith (MtR.imp mt_startswith ?_) ho hs hb (few_ok hx hn) hl (star_cons hx'.1) (star_any hx'.2)
      rintro x us H Q ⟨ρ, M, a, xs, v, hM, ra, rx, e, gv⟩
      obtain ⟨s, y, rfl, rfl, e⟩ := meth_str e
      cases ra
      obtain ⟨yv, rfl, r1⟩ := rx.one
      cases r1 with
      | str b hb => cases e; exact ⟨_, _, rfl, rfl, gv.bl⟩
      | _ => cases e
    | endswith =>
      refine pe_bm F.plainAttrs_str F.slot_str_endswith F.type_str_endswith (MtR.imp mt_endswith ?_) ho hs hb (few_ok hx hn) hl (star_cons hx'.1) (star_any hx'.2)
      rintro x us H Q ⟨ρ, M, a, xs, v, hM, ra, rx, e, gv⟩
      obtain ⟨s, y, rfl, rfl, e⟩ := meth_str e
      cases ra
      obtain ⟨yv, rfl, r1⟩ := rx.one
      cases r1 with
      | str b hb => cases e; exact ⟨_, _, rfl, rfl, gv.bl⟩
      | _ => cases e
  refine PE.imp key ?_
  rintro σ H Q ⟨ρ, Y, ow, r, s, I, v, s', e, q⟩
  obtain ⟨va, s1, e1, f1⟩ := Res.bind_eq_ok (show (ev cf a r s).bind _ = _ from e)
  obtain ⟨ws, s2, e2, f2⟩ := Res.bind_eq_ok f1
  obtain ⟨e3, rfl⟩ := Res.ofO_eq_ok f2
  obtain ⟨sx, wx, rfl, rfl, e4⟩ := meth_str e3
  refine ⟨ρ, Y, ow, r, s, I, _, s1, e1, fun u H1 ρ1 t1 st1 r1 _ => ?_⟩
  have I1 := I.step t1 st1
  refine ⟨by cases r1; exact rfl, ρ1, Y, ow, r, s1, I1, _, s', e2, fun us H2 ρ2 t2 st2 r2 => ?_⟩
  have I2 := I1.step t2 st2
  refine ⟨ρ2, Mt Y ρ2, _, _, v, fun b h => I2.there h, ?_, ?_, e3, ?_⟩
  · rw [g.K]; exact r1.mono t2.pre (I1.same t2)
  · rw [g.K]; exact r2
  · rw [g.K]; exact q.gv (t1.trans t2) st2
theorem rangeT_get : ∀ (n : Nat) (lo cc : Int) (i : Nat) (v : PV), (rangeT lo cc n)[i]? = some v → v = .int (lo + (i : Nat) * cc) ∧ i < n
  | 0, _, _, _, _, h => by simp [rangeT] at h
  | n + 1, lo, cc, 0, v, h => by
    have : v = .int lo := by simpa [rangeT] using h.symm
    exact ⟨by rw [this]; simp, Nat.succ_pos _⟩
  | n + 1, lo, cc, i + 1, v, h => by
    obtain ⟨h1, h2⟩ := rangeT_get n (lo + cc) cc i v (by simpa [rangeT] using h)
    refine ⟨by rw [h1]; congr 1; push_cast; rw [Int.add_mul]; omega, by omega⟩
theorem rangeT_len : ∀ (n : Nat) (lo cc : Int), (rangeT lo cc n).length = n
  | 0, _, _ => rfl
  | n + 1, lo, cc => congrArg (· + 1) (rangeT_len n (lo + cc) cc)
theorem i_range3 (g : GoodX c p k cf X) {a b d : E} {tg x y z : Expr} {pf pos : Pos} (h1 : ("range" : Str) ∈ c.free) (h2 : glC c.sc "range" = true) (hx : plainE x = true) (hy : plainE y = true) (hz : plainE z = true) (ha : PE X x (simE p cf B a)) (hb : PE X y (simE p cf B b)) (hd : PE X z (simE p cf B d)) :
    PI X tg (.Call (.Name "range" pf) [x, y, z] [] pos) (simI p cf B (.range3 a b d)) :=
  PI.imp (pi_range3 (glC_ok g h2) (g.free _ h1) (pa_cons ha (pa_cons hb (pa_cons hd pa_nil (star_cons hz)) (star_cons hy)) (star_cons hx)) (star_cons hx) (star_any (by simp [hy, hz]))) (by
  rintro σ H R ⟨ρ, Y, ow, r, s, I, xs, s', e0, q⟩
  obtain ⟨v, s1, e1, f⟩ := Res.bind_eq_ok (show (ev cf a r s).bind _ = _ from e0)
  obtain ⟨v2, s2, e2, f2⟩ := Res.bind_eq_ok f
  obtain ⟨v3, s3, e3, f3⟩ := Res.bind_eq_ok f2
  obtain ⟨e4, rfl⟩ := Res.ofO_eq_ok f3
  have : ∃ i j cc, v = .int i ∧ v2 = .int j ∧ v3 = .int cc := by
    unfold range3op at e4
    split at e4
    · exact ⟨_, _, _, rfl, rfl, rfl⟩
    · cases e4
  obtain ⟨i, j, cc, rfl, rfl, rfl⟩ := this
  have e4 : (if cc ≠ 0 && decide (cc.natAbs < 1073741824) && PySem.Builtin.Range.small i j cc && decide (PySem.Builtin.Range.rangeSize i j cc = ((PySem.Builtin.Range.rangeSize i j cc).toNat : Int)) then some (rangeT i cc (PySem.Builtin.Range.rangeSize i j cc).toNat) else none) = some xs := e4
  split at e4
  case isFalse => cases e4
  case isTrue hc =>
  cases e4
  simp only [Bool.and_eq_true, decide_eq_true_eq] at hc
  obtain ⟨⟨⟨c1, c2⟩, c3⟩, c4⟩ := hc
  refine ⟨ρ, Y, ow, r, s, I, _, s1, e1, fun u H1 ρ1 t1 st1 rl _ => ?_⟩
  have I1 := I.step t1 st1
  refine ⟨ρ1, Y, ow, r, s1, I1, _, s2, e2, fun u2 H2 ρ2 t2 st2 rl2 _ => ?_⟩
  have I2 := I1.step t2 st2
  refine ⟨ρ2, Y, ow, r, s2, I2, _, s', e3, fun u3 H3 ρ3 t3 st3 rl3 _ => ?_⟩
  cases rl
  cases rl2
  cases rl3
  refine ⟨i, j, cc, _, rfl, ⟨by simpa using c1, c2, c3, c4⟩, q _ H3 ρ3 ((t1.trans t2).trans t3) st3 ?_⟩
  intro n Y2 ρ4 H4 hp hs ht
  refine ⟨fun w hw => ?_, fun hl => ?_⟩
  · obtain ⟨h1, h2⟩ := rangeT_get _ _ _ _ _ hw
    refine ⟨h2, fun x H5 hy => ?_⟩
    obtain ⟨rfl, rfl⟩ := hy
    rw [h1]
    exact ⟨Same.refl _, .int _⟩
  · rw [rangeT_len] at hl
    exact Nat.le_of_eq hl)

/-! ### parallel, one of them a new list that is owned -/
def simEsO (p : Par) (cf : CF) (B : List Nat) (es : Es) (o : Nat) : TA := fun σ H Q => ∃ ρ Y ow r s, SI p B ρ Y ow σ H r s ∧ ∃ vs s' xs, evs cf es r s = .ok vs s' ∧ vs[o]? = some (.lst xs) ∧
  ∀ us H' ρ' D ws, H D = none → Step ρ H ρ' H' → StR ρ' H' s' → D ∉ ρ' → H' D = some (.lst ws) → PRels p.K p.fa ρ' (fz (fun b => Mt Y ρ' b ∨ b = D) H') xs ws → us[o]? = some (.ref D) → vs.length = us.length →
    (∀ i v u, i ≠ o → vs[i]? = some v → us[i]? = some u → PRel p.K p.fa ρ' (fz (Mt (YD Y D) ρ') H') v u) → Q us H'
theorem fz_D {Y : Addr → Prop} {ρ : List Addr} {H : Hp} {D : Addr} : fz (fun b => Mt Y ρ b ∨ b = D) H = fz (Mt (YD Y D) ρ) H := by
  funext b
  by_cases h : Mt Y ρ b ∨ b = D
  · have h2 : Mt (YD Y D) ρ b := by
      rcases h with (h | h) | h
      · exact .inl (.inl h)
      · exact .inr h
      · exact .inl (.inr h)
    unfold fz
    rw [if_pos h, if_pos h2]
  · have h2 : ¬ Mt (YD Y D) ρ b := by
      rintro ((z | z) | z)
      · exact h (.inl (.inl z))
      · exact h (.inr z)
      · exact h (.inl (.inr z))
    unfold fz
    rw [if_neg h, if_neg h2]
theorem esO_here {x : Expr} {xs : List Expr} {a : E} {as : Es} (hx : plainE x = true) (hf : fresh a = true) (ha : PE X x (simE p cf B a)) (hs : PA X xs (simEs p cf B as)) : PA X (x :: xs) (simEsO p cf B (.cons a as) 0) := PA.imp (pa_cons ha hs (star_cons hx)) (by
  rintro σ H Q ⟨ρ, Y, ow, r, s, I, vs, s', ys, e, ho, q⟩
  obtain ⟨va, s1, e1, f⟩ := Res.bind_eq_ok (show (ev cf a r s).bind _ = _ from e)
  obtain ⟨ws, s2, e2, f2⟩ := Res.bind_eq_ok f
  cases f2
  have ho : some va = some (.lst ys) := ho
  cases ho
  refine ⟨ρ, Y, ow, r, s, I, _, s1, e1, fun u H0 ρ0 t0 st0 rr fr => ?_⟩
  obtain ⟨D, wv, rfl, hD, hD0, hr⟩ := fr hf ys rfl
  have hn : D ∉ ρ0 := by
    cases rr with
    | lst h r => exact fun z => (fz_some h).1 (.inr z)
  have I0 := I.withD t0 st0 hD (by rw [hD0]; exact fun z => nomatch z) hn
  refine ⟨ρ0, YD Y D, ow, r, s1, I0, ws, s', e2, fun us H1 ρ1 t1 st1 r1 => ?_⟩
  have hn1 : D ∉ ρ1 := notin_of t1 (by rw [hD0]; exact fun z => nomatch z) hn
  refine q _ H1 ρ1 D wv hD (t0.trans t1) st1 hn1 (t1.keep D _ hD0 hn) ?_ rfl (by simp [r1.length]) fun i v u hi hv hu => ?_
  · rw [fz_D] at hr ⊢
    exact hr.mono t1.pre (I0.same t1)
  · cases i with
    | zero => exact absurd rfl hi
    | succ i =>
      obtain ⟨u', h1, h2⟩ := r1.get (by simpa using hv)
      rw [show us[i]? = some u by simpa using hu] at h1
      cases h1
      exact h2)
theorem esO_there {x : Expr} {xs : List Expr} {a : E} {as : Es} {o : Nat} (hx : plainE x = true) (ha : PE X x (simE p cf B a)) (hs : PA X xs (simEsO p cf B as o)) : PA X (x :: xs) (simEsO p cf B (.cons a as) (o + 1)) := PA.imp (pa_cons ha hs (star_cons hx)) (by
  rintro σ H Q ⟨ρ, Y, ow, r, s, I, vs, s', ys, e, ho, q⟩
  obtain ⟨va, s1, e1, f⟩ := Res.bind_eq_ok (show (ev cf a r s).bind _ = _ from e)
  obtain ⟨ws, s2, e2, f2⟩ := Res.bind_eq_ok f
  cases f2
  refine ⟨ρ, Y, ow, r, s, I, va, s1, e1, fun u H1 ρ1 t1 st1 r1 _ => ?_⟩
  have I1 := I.step t1 st1
  refine ⟨ρ1, Y, ow, r, s1, I1, ws, s', ys, e2, by simpa using ho, fun us H2 ρ2 D wv hD t2 st2 hn hD2 hr2 huo hl r2 => ?_⟩
  have hD0 : H D = none := by
    cases z : H D with
    | none => rfl
    | some o =>
      by_cases hr : D ∈ ρ
      · obtain ⟨vs, h⟩ := st1.some (t1.mem hr)
        rw [hD] at h; cases h
      · rw [t1.keep D o z hr] at hD; cases hD
  refine q _ H2 ρ2 D wv hD0 (t1.trans t2) st2 hn hD2 hr2 (by simpa using huo) (by simp [hl]) fun i v u' hi hv hu => ?_
  cases i with
  | zero =>
    have h1 : va = v := by simpa using hv
    have h2 : u = u' := by simpa using hu
    subst h1
    subst h2
    exact r1.mono t2.pre (sameD t2 (fun b h => I1.there (.inl h)) hD)
  | succ i => exact r2 i v u' (fun z => hi (by rw [z])) (by simpa using hv) (by simpa using hu))
end
end PyI

set_option maxRecDepth 100000
/-! PyIY: .. the statements. -/
namespace PyI
open PySem PySem.Spec PyProof.Rows L2
section
variable {c : Ctx} {p : Par} {k : Nat} {cf : CF} {X : Cx} {B Bl : List Nat}
theorem parO_read {is : List Nat} {o : Nat} {es : Es} {io : Nat} {D : Ends} {σ : L2.St} {H : Hp} {T : List V → Hp → Prop} (hB : ∀ i ∈ is, i ∉ B) (h : simS p cf B (io :: B) Bl (.parO is o es) D σ H)
    (q : ∀ (r : Env) (vs us : List V) (ps : List PV) (r' : Env) (H' : Hp) (ρ' : List Addr) (Y : Addr → Prop) (ow : Own) (s s' : Store) (L : Addr) (ys : List PV), setsEnv is ps r = some r' → ps[o]? = some (.lst ys) → us[o]? = some (.ref L) → ps.length = us.length →
      (∀ i, i ∈ is → i ∉ B → SI p (i :: B) ρ' (YD Y L) ((i, L) :: ow) (σ.set i (some (.ref L))) H' (r.set i (some (.lst ys))) s') →
      (∀ i v u, i ≠ o → ps[i]? = some v → us[i]? = some u → PRel p.K p.fa ρ' (fz (Mt (YD Y L) ρ') H') v u) →
      (∀ σ', SI p (io :: B) ρ' (YD Y L) ((io, L) :: ow) σ' H' r' s' → D.nx σ' H') → T us H') : simEsO p cf B es o σ H T := by
  obtain ⟨ρ, Y, ow, r, s, I, fl, s', e0, qe⟩ := h
  obtain ⟨vs, s1, e1, f⟩ := Res.bind_eq_ok (show (evs cf es r s).bind _ = _ from e0)
  split at f
  case h_2 => cases f
  case h_1 ys ho =>
  split at f
  case isFalse => cases f
  case isTrue hl =>
  obtain ⟨r1, s2, e2, f2⟩ := Res.bind_eq_ok f
  obtain ⟨g2, rfl⟩ := Res.ofO_eq_ok e2
  cases f2
  refine ⟨ρ, Y, ow, r, s, I, vs, _, ys, e1, ho, fun us H1 ρ1 L ws hD t1 st1 hn hD1 hr huo hlen rr => ?_⟩
  refine q r us us vs r1 H1 ρ1 Y ow s _ L ys g2 ho huo hlen (fun i hi hiB => I.own t1 st1 hiB (by
    have := List.all_eq_true.mp hl i hi
    exact of_decide_eq_true this) hD hn hD1 (.lst hr)) rr fun σ' J => ?_
  exact qe ρ1 _ _ σ' H1 J ⟨t1.pre, sameD t1 (fun b h => I.there (.inl h)) hD⟩
theorem s_parO2 (g : GoodX c p k cf X) {i j o io : Nat} {es : Es} {x y : Str} {px py pt pt2 pos : Pos} {kt k2 : Nat} {a b : Expr} (hi : c.N[i]? = some x) (hj : c.N[j]? = some y) (hij : i ≠ j) (hx : isLc c.sc x = true) (hy : isLc c.sc y = true) (hl : (py.line == px.line) = true)
    (hne : ([x, y].eraseDups.length == 2) = true) (ha : noStar a = true) (hb : noStar b = true) (hf : [a, b].all (foldedForSure 8) = false) (hc : [a, b].all (constantsAlone 8) = false) (hiB : i ∉ B) (hjB : j ∉ B) (hio : [i, j][o]? = some io) (h : PA X [a, b] (simEsO p cf B es o)) :
    PS X (.Assign [.Tuple [.Name x px, .Name y py] kt pt] (.Tuple [a, b] k2 pt2) pos) (simS p cf B (io :: B) Bl (.parO [i, j] o es)) := by
  have hx' : X.env.scope.names.lookup x = some .local := by rw [g.sc]; exact isLc_ok hx
  have hy' : X.env.scope.names.lookup y = some .local := by rw [g.sc]; exact isLc_ok hy
  refine PS.imp (ps_par g.calm (by rw [g.N]; exact g.nd) (by rw [g.N]; exact hi) (by rw [g.N]; exact hj) hij hx' hy' h (sw2 (by rw [g.sc]; exact g.kind) hx' hy' hl hne ha hb hf hc) (sole_none rfl)) ?_
  intro D σ H hh
  refine parO_read (fun n hn => by
    rcases List.mem_cons.mp hn with e | e
    · rw [e]; exact hiB
    · rw [List.mem_singleton.mp e]; exact hjB) hh fun r _ us ps r' H' ρ' Y ow s s' L ys g2 ho huo hlen own rr fin => ?_
  match ps, us, g2, hlen with
  | [v, w], [u, z], g2, _ =>
    cases g2
    refine ⟨u, z, rfl, ?_⟩
    match o, hio with
    | 0, hio =>
      cases hio
      cases ho
      cases huo
      have J := own i (by simp) hiB
      exact fin _ (J.up (Up.one J.len (rr 1 w z (by decide) rfl rfl)) fun n hn => by
        have : n = j := by simpa using hn
        subst this
        simp [hjB, Ne.symm hij])
    | 1, hio =>
      cases hio
      cases ho
      cases huo
      have J := own j (by simp) hjB
      have q := J.up (Up.one J.len (rr 0 v u (by decide) rfl rfl)) fun n hn => by
        have : n = i := by simpa using hn
        subst this
        simp [hiB, hij]
      rw [List.set_comm _ _ (Ne.symm hij), List.set_comm _ _ (Ne.symm hij)] at q
      exact fin _ q
    | n + 2, hio => simp at hio
  | [], _, g2, _ => cases g2
  | [_], _, g2, _ => cases g2
  | _ :: _ :: _ :: _, _, g2, _ => cases g2
  | [_, _], [], _, hlen => cases hlen
  | [_, _], [_], _, hlen => cases hlen
  | [_, _], _ :: _ :: _ :: _, _, hlen => cases hlen
theorem s_parO3 (g : GoodX c p k cf X) {i j l o io : Nat} {es : Es} {x y z : Str} {px py pz pt pt2 pos : Pos} {kt k2 : Nat} {a b d : Expr} (hi : c.N[i]? = some x) (hj : c.N[j]? = some y) (hl3 : c.N[l]? = some z) (hij : i ≠ j) (hil : i ≠ l) (hjl : j ≠ l) (hx : isLc c.sc x = true) (hy : isLc c.sc y = true) (hz : isLc c.sc z = true) (hl : (py.line == px.line) = true) (hl2 : (pz.line == px.line) = true)
    (hne : ([x, y, z].eraseDups.length == 3) = true) (ha : noStar a = true) (hb : noStar b = true) (hd : noStar d = true) (hf : [a, b, d].all (foldedForSure 8) = false) (hc : [a, b, d].all (constantsAlone 8) = false) (hiB : i ∉ B) (hjB : j ∉ B) (hlB : l ∉ B) (hio : [i, j, l][o]? = some io) (h : PA X [a, b, d] (simEsO p cf B es o)) :
    PS X (.Assign [.Tuple [.Name x px, .Name y py, .Name z pz] kt pt] (.Tuple [a, b, d] k2 pt2) pos) (simS p cf B (io :: B) Bl (.parO [i, j, l] o es)) := by
  have hx' : X.env.scope.names.lookup x = some .local := by rw [g.sc]; exact isLc_ok hx
  have hy' : X.env.scope.names.lookup y = some .local := by rw [g.sc]; exact isLc_ok hy
  have hz' : X.env.scope.names.lookup z = some .local := by rw [g.sc]; exact isLc_ok hz
  refine PS.imp (L2.ps_par3 g.calm (by rw [g.N]; exact g.nd) (by rw [g.N]; exact hi) (by rw [g.N]; exact hj) (by rw [g.N]; exact hl3) hij hil hjl hx' hy' hz' h (sw3 (by rw [g.sc]; exact g.kind) hx' hy' hz' hl hl2 hne ha hb hd hf hc) (sole_none rfl)) ?_
  intro D σ H hh
  refine parO_read (fun n hn => by
    simp only [List.mem_cons, List.not_mem_nil, or_false] at hn
    rcases hn with e | e | e <;> (rw [e]; assumption)) hh fun r _ us ps r' H' ρ' Y ow s s' L ys g2 ho huo hlen own rr fin => ?_
  match ps, us, g2, hlen with
  | [v, w, t], [u, zz, m], g2, _ =>
    cases g2
    refine ⟨u, zz, m, rfl, ?_⟩
    match o, hio with
    | 0, hio =>
      cases hio
      cases ho
      cases huo
      have J := own i (by simp) hiB
      have q1 := J.up (Up.one J.len (rr 1 w zz (by decide) rfl rfl)) fun n hn => by
        have : n = j := by simpa using hn
        subst this
        simp [hjB, Ne.symm hij]
      exact fin _ (q1.up (Up.one q1.len (rr 2 t m (by decide) rfl rfl)) fun n hn => by
        have : n = l := by simpa using hn
        subst this
        simp [hlB, Ne.symm hil])
    | 1, hio =>
      cases hio
      cases ho
      cases huo
      have J := own j (by simp) hjB
      have q1 := J.up (Up.one J.len (rr 0 v u (by decide) rfl rfl)) fun n hn => by
        have : n = i := by simpa using hn
        subst this
        simp [hiB, hij]
      have q2 := q1.up (Up.one q1.len (rr 2 t m (by decide) rfl rfl)) fun n hn => by
        have : n = l := by simpa using hn
        subst this
        simp [hlB, Ne.symm hjl]
      rw [List.set_comm (l := σ) _ _ (Ne.symm hij), List.set_comm (l := r) _ _ (Ne.symm hij)] at q2
      exact fin _ q2
    | 2, hio =>
      cases hio
      cases ho
      cases huo
      have J := own l (by simp) hlB
      have q1 := J.up (Up.one J.len (rr 0 v u (by decide) rfl rfl)) fun n hn => by
        have : n = i := by simpa using hn
        subst this
        simp [hiB, hil]
      have q2 := q1.up (Up.one q1.len (rr 1 w zz (by decide) rfl rfl)) fun n hn => by
        have : n = j := by simpa using hn
        subst this
        simp [hjB, hjl]
      rw [List.set_comm (l := σ) _ _ (Ne.symm hil), List.set_comm (l := r) _ _ (Ne.symm hil), List.set_comm (l := σ.set i _) _ _ (Ne.symm hjl), List.set_comm (l := r.set i _) _ _ (Ne.symm hjl)] at q2
      exact fin _ q2
    | n + 3, hio => simp at hio
  | [], _, g2, _ => cases g2
  | [_], _, g2, _ => cases g2
  | [_, _], _, g2, _ => cases g2
  | _ :: _ :: _ :: _ :: _, _, g2, _ => cases g2
  | [_, _, _], [], _, hlen => cases hlen
  | [_, _, _], [_], _, hlen => cases hlen
  | [_, _, _], [_, _], _, hlen => cases hlen
  | [_, _, _], _ :: _ :: _ :: _ :: _, _, hlen => cases hlen
/-- a target that is no plain local name: no stores in another order -/
def oddT (c : Ctx) (x : Expr) : Bool := match x with
  | .Name y _ => !isLc c.sc y
  | _ => true
theorem fm_lt {α β : Type} {f : α → Option β} : ∀ {l : List α} {a : α}, a ∈ l → f a = none → (l.filterMap f).length < l.length
  | b :: l, a, h, e => by
    rcases List.mem_cons.mp h with h | h
    · subst h
      rw [List.filterMap_cons_none e]
      exact Nat.lt_succ_of_le (List.length_filterMap_le _ _)
    · have ih := fm_lt h e
      cases q : f b with
      | none => rw [List.filterMap_cons_none q]; exact Nat.lt_succ_of_lt ih
      | some z => rw [List.filterMap_cons_some q]; exact Nat.succ_lt_succ ih
theorem swN {env : PySem.Env} (hs : env.scope = c.sc) {ts vs : List Expr} {k1 k2 : Nat} {pt pt2 : Pos} (h : ts.any (oddT c) = true) : swappedStores [.Tuple ts k1 pt] (.Tuple vs k2 pt2) env = pure none := by
  obtain ⟨x, hx, ho⟩ := List.any_eq_true.mp h
  unfold swappedStores
  simp only []
  split
  · rfl
  · split
    · rfl
    · have key : ∀ f : Expr → Option Str, f x = none → ((ts.filterMap f).length != ts.length) = true := fun f e => by
        have := fm_lt hx e
        simp only [bne_iff_ne, ne_eq]
        omega
      rw [key _ (by
        cases x with
        | Name y p =>
          have hy : isLc c.sc y = false := by simpa [oddT] using ho
          have : (env.kindOf y == some NameKind.local) = false := by
            cases q : (env.kindOf y == some NameKind.local) with
            | false => rfl
            | true =>
              have e : env.scope.names.lookup y = some .local := eq_of_beq q
              rw [hs] at e
              unfold isLc at hy
              rw [e] at hy
              cases hy
          simp [this]
        | _ => rfl)]
      simp
theorem s_asgN (g : GoodX c p k cf X) {t : Tg} {e : E} {ts vs : List Expr} {k1 k2 : Nat} {pt pt2 pos : Pos} (ht : chkTg c t (.Tuple ts k1 pt) = true) (hp : ts.any (oddT c) = true) (htB : ∀ i ∈ slots t, i ∉ B) (h : PE X (.Tuple vs k2 pt2) (simE p cf B e)) : PS X (.Assign [.Tuple ts k1 pt] (.Tuple vs k2 pt2) pos) (simS p cf B B Bl (.asg t e)) :=
  PS.imp (ps_asg h (g_tg g t ht) (sole_none rfl) (swN g.sc hp) (asgE_one ht)) fun D σ H h => asg_read g.K htB h
/-- two new dicts, stored to names of which one is a cell -/
theorem s_ownDDN (g : GoodX c p k cf X) {i j : Nat} {x y : Str} {px py pt pt2 pos da db : Pos} {kt k2 : Nat} (ht : chkTg c (.tup (.cons (.name i) (.cons (.name j) .nil))) (.Tuple [.Name x px, .Name y py] kt pt) = true) (hij : i ≠ j) (hp : [Expr.Name x px, .Name y py].any (oddT c) = true) (hiB : i ∉ B) (hjB : j ∉ B) :
    PS X (.Assign [.Tuple [.Name x px, .Name y py] kt pt] (.Tuple [.Dict [] [] da, .Dict [] [] db] k2 pt2) pos) (simS p cf B (j :: i :: B) Bl (.ownDD i j)) := by
  have hp1 : plainE (.Dict [] [] da) = true := rfl
  have hp2 : plainE (.Dict [] [] db) = true := rfl
  refine PS.imp (ps_asg (pe_tup (pa_cons pe_dnewK (pa_cons pe_dnewK pa_nil (star_cons hp2)) (star_cons hp1))) (g_tg g (.tup (.cons (.name i) (.cons (.name j) .nil))) ht) (sole_none rfl) (swN g.sc hp) (asgE_one ht)) ?_
  rintro D σ H ⟨ρ, Y, ow, r, s, I, fl, s', e0, q⟩
  have e0 : (if (decide (i < r.length) && decide (j < r.length)) = true then Res.ok (.next ((r.set i (some (.dct [] []))).set j (some (.dct [] [])))) s else .bad) = Res.ok fl s' := e0
  split at e0
  case isFalse => cases e0
  case isTrue hl =>
  cases e0
  rw [Bool.and_eq_true, decide_eq_true_eq, decide_eq_true_eq] at hl
  intro a ha b hb
  obtain ⟨J, x1⟩ := I.ownD hiB hl.1 ha
  obtain ⟨J2, x2⟩ := J.ownD (i := j) (a := b) (by
    intro z
    rcases List.mem_cons.mp z with z | z
    · exact hij z.symm
    · exact hjB z) (by rw [List.length_set]; exact hl.2) hb
  refine ⟨by rw [sizeLine_eq]; show 2 ≤ _; omega, fun d hd => ?_⟩
  have t0 := Step.laid (ρ := ρ) (o := .tup [V.ref a, V.ref b]) hd
  have J3 := J2.step t0 (J2.st.updD (J2.notin hd))
  refine ⟨d, [V.ref a, V.ref b], rfl, .inl (SqT.of upd_same), rfl, _, _, rfl, _, _, rfl, rfl, ?_⟩
  exact q ρ _ _ _ _ J3 ((x1.trans x2).trans (J2.ext t0))
end
end PyI

set_option maxRecDepth 100000
/-! PySet: set(xs) of a list of ints. -/
namespace PyI
open PySem PyProof.Rows L2
/-- a set without items, as it is made -/
abbrev So (w : World) : Obj := { cls := .type "set", dict := none, data := .set #[] 0 (.fresh 0 0 (!w.params.followText "set-order")) }
section
variable {P : Program} {w : World} {A : Around} {E : Value → Shared → Prop} {s : Shared}
set_option maxHeartbeats 8000000 in
theorem made_set {l : Addr} {its : Array Value} (ns : List Int) {R : Value → Shared → Prop} (hd : A.handled = none) (isl : s.heap.IsList l its) (are : IntsAre its.toList ns) (few : ns.length + 1 < scanBound)
    (go : ∀ (g : Heap) (k m : Nat), SetR w g s.heap.objs.size (fun j => decide (j ∈ ns)) m → m ≤ ns.length → (∀ b o, s.heap.get? b = some o → g.get? b = some o) → R (.ref s.heap.objs.size) { s with heap := g, toks := k }) :
    wpAny (model P w) A (call (.type "set") [.ref l]) R E s := by
  have size : its.size = ns.length := (Array.length_toList (xs := its)).symm.trans (IntsAre.length are)
  obtain ⟨mroC, mroT, mro⟩ := F.called_set.mro
  have made := F.called_set.made
  have sub := F.called_set.sub
  refine wpAny_call (codeAny_of_tree ?_)
  show wpAny _ _ (callAny (.type "set") _) _ _ _
  refine wpAny_pure ⟨Code.quiet_builtin _ (by decide +kernel), codeAny_builtin F.entry_type_call ?_⟩
  rw [Around.under_plain (weight_type_call_type "set" [.ref l] []) rfl]
  have f1 := F.called_set.notType
  have f2 := F.called_set.canCreate
  have f3 := F.typeCall_set_1 (.ref l)
  repeat (any_goals (first | assumption | wp_step))
  refine codeAny_mono (code_set_led1 (.ref l) (E := E) (Q₁ := fun v s₁ => v = .ref s.heap.objs.size ∧ s₁ = { s with heap := s.heap.push (So w) }) ⟨rfl, rfl⟩) fun r0 s₁ h0 => ?_
  match r0, h0 with
  | .error e, h0 => exact h0
  | .ok (.ret v0), h0 =>
    obtain ⟨rfl, rfl⟩ := h0
    have atS : (s.heap.push (So w)).get? s.heap.objs.size = some (So w) := Heap.get?_push_size _ rfl
    have isS : Shared.TypeIs { s with heap := s.heap.push (So w) } (.ref s.heap.objs.size) "set" := ⟨_, atS, rfl⟩
    have i1 := F.called_set.init.lookup
    have i2 := F.called_set.init.bind (.ref s.heap.objs.size)
    repeat (any_goals (first | assumption | wp_step))
    refine codeAny_mono (codeAny_call_builtin (R := wants (fun v s₂ => v = .none ∧ ∃ g k m, s₂ = { s with heap := g, toks := k } ∧ SetR w g s.heap.objs.size (fun j => decide (j ∈ ns)) m ∧ m ≤ ns.length ∧ (∀ b o, s.heap.get? b = some o → g.get? b = some o)) E)
      F.called_set.init.plain F.entry_set_init (check_set_init_1 isS ?_)) fun r1 s₂ h1 => ?_
    · obtain ⟨ob, obAt, obC, obN, obD⟩ := isl
      obtain ⟨c0, c1, c2, c3⟩ := ob
      simp only at obC obD
      subst obC; subst obD
      have at2 : (s.heap.push (So w)).get? l = some { cls := .type "list", dict := c1, data := .seq its obN, slots := c3 } := Heap.get?_push_of_some _ obAt
      have k1 := F.sub_list_set
      have k2 := F.sub_list_frozenset
      have k3 : (Value.type "list" == Value.type "dict") = false := by decide
      have lst2 : (s.heap.push (So w)).IsList l its := ⟨_, at2, rfl, obN, rfl⟩
      unfold Builtin.«set.__init__» noKeywords Builtin.Frozenset.updateFrom
      generalize hPI : pyIter = PI
      wp_walk
      subst hPI
      refine wpAny_pyIter_list lst2 ?_
      refine wpAny_bind (wpAny_runValue ?_)
      have below : l < s.heap.objs.size := Heap.lt_size obAt
      have calm : A.in1.in1.in1.handled = none := by simp [hd]
      have up1 : (s.heap.push (So w)).objs.size = s.heap.objs.size + 1 := Heap.size_push ..
      have ap : l ≠ (s.heap.push (So w)).objs.size := by rw [up1]; exact Nat.ne_of_lt (Nat.lt_succ_of_lt below)
      have ap2 : s.heap.objs.size ∉ [(s.heap.push (So w)).objs.size, l] := by
        intro z
        rcases List.mem_cons.mp z with z | z
        · rw [up1] at z; exact Nat.ne_of_lt (Nat.lt_succ_self _) z
        · exact Nat.ne_of_gt below (List.mem_singleton.mp z)
      have val : ∀ (i : Nat) (v : Value), its[i]? = some v → ∃ k t, ns[i]? = some k ∧ v = .int k t := fun i v hv => by
        have lt : i < ns.length := by rw [← size]; exact (Array.getElem?_eq_some_iff.mp hv).1
        obtain ⟨t, e⟩ := PyProof.Rows.IntsAre.int_at are i v (by rw [Array.getElem?_toList]; exact hv)
        exact ⟨ns[i], t, List.getElem?_eq_getElem lt, by rw [e, List.getD_eq_getElem?_getD, List.getElem?_eq_getElem lt] <;> rfl⟩
      refine set_update_ints ((Walks.list calm _ l ap its).toS) s.heap.objs.size ap2 ns size few val (its.size - 0) 0 _ (by omega) (Nat.zero_le _) ⟨⟨_, Heap.get?_push_size _ rfl, rfl, rfl⟩, (lst2.push _)⟩ ?start ?stop
      case start => exact ⟨0, Nat.le_refl 0, setR_new_at (Heap.get?_push_of_some _ atS)⟩
      case stop =>
        rintro ⟨g, g2, d2, k, o2⟩ m mv hm hs
        have q1 : g2 = s.gens := mv.gens
        have q2 : d2 = s.drawn := mv.drawn
        have q3 : o2 = s.os := mv.os
        subst q1; subst q2; subst q3
        show wpAny _ _ _ _ _ _
        refine wpAny_pure ?_
        show wpAny _ _ (ret Value.none) _ _ _
        refine wpAny_pure ⟨rfl, g, k, m, rfl, hs, by rw [size] at hm; exact hm, fun b o e => ?_⟩
        have lt := Heap.lt_size e
        refine mv.heap b o (fun z => ?_) (Heap.get?_push_of_some _ (Heap.get?_push_of_some _ e))
        rcases List.mem_cons.mp z with z | z
        · exact Nat.ne_of_lt lt z
        · have z := List.mem_singleton.mp z
          rw [up1] at z
          exact Nat.ne_of_lt (Nat.lt_succ_of_lt lt) z
    · match r1, h1 with
      | .error e, h1 => exact h1
      | .ok (.ret v1), h1 =>
        obtain ⟨rfl, g, k, m, rfl, hs, hm, hk⟩ := h1
        repeat (any_goals (first | assumption | wp_step))
        exact go _ _ _ hs hm hk
      | .ok .next, h1 => exact h1.elim
      | .ok .brk, h1 => exact h1.elim
      | .ok .cont, h1 => exact h1.elim
  | .ok .next, h0 => exact h0.elim
  | .ok .brk, h0 => exact h0.elim
  | .ok .cont, h0 => exact h0.elim
end
end PyI

set_option maxRecDepth 100000
/-! PyIS: slices of tuples with a step. -/
namespace PyI
open PySem PySem.Spec PyProof.Rows L2
section
variable {prog : Program} {w : World} {A : Around} {E : Value → Shared → Prop} {s : Shared}
theorem applied_step {sl : Addr} {vl vu vs : Value} {lo hi : Option Int} {st : Int} {n : Nat} {Q : Int × Int × Nat → Shared → Prop} (hs : s.heap.IsSliceOf sl vl vu vs) (pl : IsPart vl lo) (pu : IsPart vu hi) (ps : IsPart vs (some st)) (h0 : st ≠ 0)
    (h : Q ((Builtin.Slice.sliceAdjust lo hi st (n : Int)).1, st, Builtin.Slice.slicePlaces (Builtin.Slice.sliceAdjust lo hi st (n : Int)).1 (Builtin.Slice.sliceAdjust lo hi st (n : Int)).2 st) s) : wpAny (model prog w) A (Builtin.Slice.sliceApplied (.ref sl) (pure (n : Int))) Q E s := by
  obtain ⟨ob, atOb, cl, dt⟩ := _root_.id hs
  unfold Builtin.Slice.sliceApplied Builtin.Slice.sliceFields
  refine wpAny_bind (wpAny_bind (wpAny_field atOb dt (x := vl) rfl (wpAny_bind (wpAny_field atOb dt (x := vu) rfl (wpAny_bind (wpAny_field atOb dt (x := vs) rfl (wpAny_pure ?_)))))))
  refine wpAny_bind (HT.slicePart_ ps ?_)
  show wpAny _ _ (if (st == 0) = true then _ else _) _ _ s
  rw [if_neg (by simpa using h0)]
  exact wpAny_bind (HT.slicePart_ pl (wpAny_bind (HT.slicePart_ pu (wpAny_bind (wpAny_pure (wpAny_pure h))))))
theorem getItem_step {t sl : Addr} {items : Array Value} {vl vu vs : Value} {lo hi : Option Int} {st : Int} {Q : Value → Shared → Prop} (ht : IsTup s.heap t items) (hs : s.heap.IsSliceOf sl vl vu vs) (pl : IsPart vl lo) (pu : IsPart vu hi) (ps : IsPart vs (some st)) (h0 : st ≠ 0) (h1 : st ≠ 1)
    (hz : (stepL items.toList lo hi st).length ≤ sizeLine) (h : Q (.ref s.heap.objs.size) { s with heap := s.heap.push { cls := .type "tuple", data := .seq (stepL items.toList lo hi st).toArray } }) : wpAny (model prog w) A (getItem (.ref t) (.ref sl)) Q E s := by
  obtain ⟨ob, atOb, cl, dt⟩ := _root_.id hs
  have isS : s.TypeIs (.ref sl) "slice" := ⟨ob, atOb, cl⟩
  unfold getItem
  try with_reducible refine wpAny_holding ?_
  first | refine wpAny_bind (wpAny_pure ?_) | skip
  refine wpAny_bind (wpAny_sequenceKey ht.typeIs (by decide) ?_)
  refine wpAny_bind (wpAny_callSpecial?_slot (name := Str.ofString "__getitem__") ht.typeIs PyProof.Rows.slot_tuple_getitem (wpAny_call_entry PyProof.Rows.slot_tuple_getitem ht.typeIs entry_tuple_getitem ?_ (args_tuple_getitem _ _)))
  show wpAny _ _ (Builtin.Tuple.tupleItemsOf (.ref t) >>= _) _ _ s
  refine wpAny_bind (tupleItemsOf_ ht ?_)
  refine wpAny_bind (wpAny_typeOf isS ?_)
  rw [if_pos (by decide)]
  refine wpAny_bind (applied_step hs pl pu ps h0 ?_)
  have no : ¬ (((Builtin.Slice.sliceAdjust lo hi st (items.size : Int)).1 == 0 && st == 1 && Builtin.Slice.slicePlaces (Builtin.Slice.sliceAdjust lo hi st (items.size : Int)).1 (Builtin.Slice.sliceAdjust lo hi st (items.size : Int)).2 st == items.size) = true) := by
    intro q
    rw [Bool.and_eq_true, Bool.and_eq_true] at q
    exact h1 (eq_of_beq q.1.2)
  show wpAny _ _ (if ((Builtin.Slice.sliceAdjust lo hi st (items.size : Int)).1 == 0 && st == 1 && Builtin.Slice.slicePlaces (Builtin.Slice.sliceAdjust lo hi st (items.size : Int)).1 (Builtin.Slice.sliceAdjust lo hi st (items.size : Int)).2 st == items.size) = true then _ else _) _ _ s
  rw [if_neg no]
  have e : ((List.range (Builtin.Slice.slicePlaces (Builtin.Slice.sliceAdjust lo hi st (items.size : Int)).1 (Builtin.Slice.sliceAdjust lo hi st (items.size : Int)).2 st)).filterMap fun (k : Nat) => items[((Builtin.Slice.sliceAdjust lo hi st (items.size : Int)).1 + (k : Int) * st).toNat]?) = stepL items.toList lo hi st := by
    unfold stepL
    rw [Array.length_toList]
    simp
  rw [e]
  have fit : sizeOk (.seq (stepL items.toList lo hi st).toArray) := by
    show (stepL items.toList lo hi st).toArray.size ≤ sizeLine
    rw [List.size_toArray]
    exact hz
  first
    | exact wpAny_bind (m := Builtin.Tuple.tupleExact _) (wpAny_newObj_type (wpAny_pure ⟨_, rfl, wpAny_pure h⟩) fit)
    | exact wpAny_bind (m := Builtin.Tuple.tupleExact _) (wpAny_newObj_type (wpAny_bind (wpAny_pure (wpAny_pure ⟨_, rfl, wpAny_pure h⟩))) fit)
    | exact wpAny_bind (wpAny_bind (m := Builtin.Tuple.tupleExact _) (wpAny_newObj_type (wpAny_pure (wpAny_pure ⟨_, rfl, wpAny_pure h⟩)) fit))
end
theorem stepL_rel {α β : Type} {R : List α → List β → Prop} (nil : R [] []) (cons : ∀ a b xs ys, R [a] [b] → R xs ys → R (a :: xs) (b :: ys)) {xs : List α} {ys : List β} (hl : xs.length = ys.length) (hg : ∀ (i : Nat) (a : α) (b : β), xs[i]? = some a → ys[i]? = some b → R [a] [b]) (lo hi : Option Int) (st : Int) : R (stepL xs lo hi st) (stepL ys lo hi st) := by
  unfold stepL
  rw [hl]
  generalize List.range _ = l
  induction l with
  | nil => exact nil
  | cons k l ih =>
    generalize hj : ((Builtin.Slice.sliceAdjust lo hi st (ys.length : Int)).1 + (k : Int) * st).toNat = j
    cases e : xs[j]? with
    | none =>
      have e2 : ys[j]? = none := by
        rw [List.getElem?_eq_none_iff] at e ⊢
        omega
      rw [List.filterMap_cons_none (by rw [hj]; exact e), List.filterMap_cons_none (by rw [hj]; exact e2)]
      exact ih
    | some a =>
      cases e2 : ys[j]? with
      | none =>
        rw [List.getElem?_eq_none_iff] at e2
        have := (List.getElem?_eq_some_iff.mp e).1
        omega
      | some b =>
        rw [List.filterMap_cons_some (by rw [hj]; exact e), List.filterMap_cons_some (by rw [hj]; exact e2)]
        exact cons a b _ _ (hg j a b e e2) ih
theorem stepL_len {α β : Type} {xs : List α} {ys : List β} (hl : xs.length = ys.length) (lo hi : Option Int) (st : Int) : (stepL xs lo hi st).length = (stepL ys lo hi st).length := by
  refine stepL_rel (α := α) (β := β) (R := fun a b => a.length = b.length) (xs := xs) (ys := ys) rfl (fun _ _ _ _ _ h => ?_) hl (fun _ _ _ _ _ => rfl) lo hi st
  exact congrArg (· + 1) h
theorem vals_step {xs : List V} {us : List Value} (r : Vals xs us) (lo hi : Option Int) (st : Int) : Vals (stepL xs lo hi st) (stepL us lo hi st) := by
  refine stepL_rel (R := fun a b => Vals a b) .nil (fun a b xs ys h1 h2 => ?_) r.length (fun i a b e1 e2 => ?_) lo hi st
  · cases h1 with
    | cons h _ => exact .cons h h2
  · obtain ⟨u, h1, h2⟩ := r.get e1
    rw [e2] at h1
    cases h1
    exact .cons h2 .nil
theorem PRels.step {K : PySem.W.Frag} {fa : Nat → Addr} {ρ : List Addr} {H : Hp} {xs : List PV} {vs : List V} (r : PRels K fa ρ H xs vs) (lo hi : Option Int) (st : Int) : PRels K fa ρ H (stepL xs lo hi st) (stepL vs lo hi st) := by
  refine stepL_rel (R := fun a b => PRels K fa ρ H a b) .nil (fun a b xs ys h1 h2 => ?_) r.length (fun i a b e1 e2 => ?_) lo hi st
  · cases h1 with
    | cons h _ => exact .cons h h2
  · obtain ⟨u, h1, h2⟩ := r.get e1
    rw [e2] at h1
    cases h1
    exact .cons h2 .nil
theorem PRels.rev {K : PySem.W.Frag} {fa : Nat → Addr} {ρ : List Addr} {H : Hp} : ∀ {xs : List PV} {vs : List V}, PRels K fa ρ H xs vs → PRels K fa ρ H xs.reverse vs.reverse
  | _, _, .nil => .nil
  | _, _, .cons h r => by
    rw [List.reverse_cons, List.reverse_cons]
    exact (PRels.rev r).append (.cons h .nil)
/-- a part with a step of minus one -/
def tStepT (K : PySem.W.Frag) (te : TE) (tl th : TO) : TE := fun σ H Q => te σ H fun x H1 => tl σ H1 fun l H2 => th σ H2 fun u H3 =>
  (∃ a xs, x = .ref a ∧ SqT K H3 a xs ∧ (stepL xs l u (-1)).length ≤ sizeLine ∧ ∀ p, H3 p = none → Q (.ref p) (upd H3 p (.tup (stepL xs l u (-1)))))
  ∨ (∃ a xs, x = .ref a ∧ l = none ∧ u = none ∧ SqL K H3 a xs ∧ ∀ p, H3 p = none → Q (.ref p) (upd H3 p (.lst xs.reverse)))
  ∨ (∃ z : Str, x = .str z ∧ l = none ∧ u = none ∧ z.length ≤ sizeLine ∧ Q (.str ⟨z.cps.toList.reverse.toArray⟩) H3)
theorem str_rev (z : Str) : ((Builtin.Str.strSliceIndices none none (-1) z.length).filterMap (z.cps[·]?)).toArray = z.cps.toList.reverse.toArray := by
  have e : Builtin.Str.strSliceIndices none none (-1) z.length = sliceRange ((z.cps.size : Int) - 1) (-1) (-1) := rfl
  rw [e, PySem.W.krv_sliceRange, PySem.W.krv_range, List.filterMap_reverse, PySem.W.krv_all]
theorem pe_stepT {X : Cx} {e : Expr} {te : TE} {tl th : TO} {lo hi : Option Expr} {k : Nat} {p1 p2 p3 pos : Pos} (he : PE X e te) (hl : PO X lo tl) (hu : PO X hi th) : PE X (.Subscript e (.Slice lo hi (some (.UnaryOp .USub (.Constant (.int 1) k p1) p2)) p3) pos) (tStepT X.K te tl th) := by
  refine ⟨fun pins s σ H Q I h => ?_⟩
  refine Subscript_ (thn (he.run pins s σ H _ I h) fun v s1 ⟨x, H1, I1, r1, q1⟩ => ?_)
  have hst : PO X (some (.UnaryOp .USub (.Constant (.int 1) k p1) p2)) (tPart (tUn (rU fun i => .int (-i)) (tC (.int 1)))) := po_some (pe_un un_neg pe_int)
  refine wpAny_Slice (thn (hl.run pins s1 σ H1 _ I1 q1) fun vl s2 ⟨l, H2, I2, pl, q2⟩ => ?_)
  refine thn (hu.run pins s2 σ H2 _ I2 q2) fun vu s3 ⟨u, H3, I3, pu, q3⟩ => ?_
  refine thn (hst.run pins s3 σ H3 (fun o H4 => o = some (-1) ∧ H4 = H3) I3 ⟨1, rfl, -1, rfl, rfl, rfl⟩) fun vs s4 ⟨o, H4, I4, ps, eo, e4⟩ => ?_
  subst eo e4
  have I5 : Inv X pins σ H4 { s4 with heap := s4.heap.push { cls := .type "slice", data := .fields #[vl, vu, vs] } } := I4.kept (t' := s4.toks) fun b ob q => Heap.get?_push_of_some _ q
  rcases q3 with q3 | q3 | q3
  · obtain ⟨a, xs, ex, hx, hz, q⟩ := q3
    subst ex
    cases r1
    obtain ⟨its, r, ht, hz2⟩ := I5.tuple hx
    have hlen := r.length
    show wpAny (model X.prog X.w) X.A (subscriptTail e (.Slice lo hi (some (.UnaryOp .USub (.Constant (.int 1) k p1) p2)) p3) (.ref a) (.ref s4.heap.objs.size)) (EP X pins σ Q) X.xe { s4 with heap := s4.heap.push { cls := .type "slice", data := .fields #[vl, vu, vs] } }
    have hr := vals_step r l u (-1)
    have hzz : (stepL its l u (-1)).length ≤ sizeLine := by rw [← stepL_len hlen]; exact hz
    refine tail_any (ops := [.ref a, .ref s4.heap.objs.size]) ht.typeIs (PyProof.Rows.slot_tuple_getitem.lookup) ?_ (by with_unfolding_all rfl)
    refine getItem_step ht (Heap.IsSliceOf.new _ vl vu vs) pl pu ps (by decide) (by decide) hzz ?_
    refine ⟨.ref _, _, I5.laid (t' := s4.toks) (o := .tup (stepL xs l u (-1))) (fun b ob q => Heap.get?_push_of_some _ q) (Nat.le_refl _) ?_, rfl, q _ (I5.hok.fresh (Nat.le_refl _))⟩
    exact ⟨hz, _, hr, IsTup.new _ _⟩
  · obtain ⟨a, xs, ex, el, eu, hx, q⟩ := q3
    subst ex el eu
    cases r1
    obtain ⟨its, r, ht, hz⟩ := I5.list hx
    have hlen := r.length
    show wpAny (model X.prog X.w) X.A (subscriptTail e (.Slice lo hi (some (.UnaryOp .USub (.Constant (.int 1) k p1) p2)) p3) (.ref a) (.ref s4.heap.objs.size)) (EP X pins σ Q) X.xe { s4 with heap := s4.heap.push { cls := .type "slice", data := .fields #[vl, vu, vs] } }
    refine tail_any (ops := [.ref a, .ref s4.heap.objs.size]) ht.isList.typeIs (PySem.slot_list_getitem.lookup) ?_ (by with_unfolding_all rfl)
    refine wpAny_getItem_list_slice ht.isList (Heap.IsSliceOf.new _ vl vu vs) pl pu ps (by decide) ?_ (by rw [List.size_toArray]; omega)
    rw [PySem.W.krv_pick]
    refine ⟨.ref _, _, I5.laid (t' := s4.toks) (o := .lst xs.reverse) (fun b ob q => Heap.get?_push_of_some _ q) (Nat.le_refl _) ?_, rfl, q _ (I5.hok.fresh (Nat.le_refl _))⟩
    exact ⟨by rw [List.length_reverse]; exact hz, _, 0, r.reverse, Heap.get?_push_size _ rfl⟩
  · obtain ⟨z, ez, el, eu, hz, q⟩ := q3
    subst ez el eu
    obtain ⟨t, rfl⟩ := r1
    obtain ⟨l, rfl, el⟩ := IsPart.raw pl
    obtain ⟨u, rfl, eu⟩ := IsPart.raw pu
    obtain ⟨w, rfl, ew⟩ := IsPart.raw ps
    cases l with
    | some _ => cases el
    | none =>
    cases u with
    | some _ => cases eu
    | none =>
    cases w with
    | none => cases ew
    | some w =>
    obtain ⟨w, uw⟩ := w
    cases ew
    show wpAny (model X.prog X.w) X.A (subscriptTail e (.Slice lo hi (some (.UnaryOp .USub (.Constant (.int 1) k p1) p2)) p3) (.str z t) (.ref s4.heap.objs.size)) (EP X pins σ Q) X.xe { s4 with heap := s4.heap.push { cls := .type "slice", data := .fields #[.none, .none, .int (-1) uw] } }
    refine tail_any (ops := [.str z t, .ref s4.heap.objs.size]) (typeIs_str _ _ _) (F.slot_str_getitem.lookup) ?_ (by with_unfolding_all rfl)
    refine wpAny_getItem_str_slice (l := none) (u := none) (st := some (-1, uw)) ⟨_, Heap.get?_push_size _ rfl, rfl, rfl⟩ rfl ?_
    have hl : (⟨z.cps.toList.reverse.toArray⟩ : Str).length ≤ sizeLine := by
      show z.cps.toList.reverse.toArray.size ≤ _
      rw [List.size_toArray, List.length_reverse, Array.length_toList]
      exact hz
    show Made.post (if ((-1 : Int) == 1 && (Builtin.Str.strSliceIndices none none (-1) z.length).length == z.length) = true then Made.val (.str z t)
      else Made.str ⟨((Builtin.Str.strSliceIndices none none (-1) z.length).filterMap (z.cps[·]?)).toArray⟩) (EP X pins σ Q) _
    rw [if_neg (by intro q; rw [Bool.and_eq_true] at q; exact absurd q.1 (by decide)), str_rev]
    exact ⟨hl, .str _, H4, I5.tok _, ⟨_, rfl⟩, q⟩
section
variable {c : Ctx} {p : Par} {k : Nat} {cf : CF} {X : Cx} {B : List Nat}
theorem e_step (g : GoodX c p k cf X) {a l h : E} {x : Expr} {lo hi : Option Expr} {j : Nat} {p1 p2 p3 pos : Pos} (ha : PE X x (simE p cf B a)) (hl : PO X lo (simO p cf B l)) (hh : PO X hi (simO p cf B h)) : PE X (.Subscript x (.Slice lo hi (some (.UnaryOp .USub (.Constant (.int 1) j p1) p2)) p3) pos) (simE p cf B (.step a l h)) := PE.imp (pe_stepT ha hl hh) (by
  rintro σ H Q ⟨ρ, Y, ow, r, s, I, v, s', e, q⟩
  obtain ⟨va, s1, e1, f⟩ := Res.bind_eq_ok (show (ev cf a r s).bind _ = _ from e)
  obtain ⟨vl, s2, e2, f2⟩ := Res.bind_eq_ok f
  obtain ⟨vh, s3, e3, f3⟩ := Res.bind_eq_ok f2
  obtain ⟨e4, rfl⟩ := Res.ofO_eq_ok f3
  cases e5 : partOf l vl with
  | none => rw [e5] at e4; cases e4
  | some ol =>
    cases e6 : partOf h vh with
    | none => rw [e5, e6] at e4; cases e4
    | some oh =>
      rw [e5, e6] at e4
      have e4 : stepV va ol oh = some v := e4
      refine ⟨ρ, Y, ow, r, s, I, _, s1, e1, fun u H1 ρ1 t1 st1 r1 _ => ?_⟩
      have I1 := I.step t1 st1
      refine ⟨ρ1, Y, ow, r, s1, I1, vl, s2, _, e2, e5, fun H2 ρ2 t2 st2 => ?_⟩
      have I2 := I1.step t2 st2
      refine ⟨ρ2, Y, ow, r, s2, I2, vh, s', _, e3, e6, fun H3 ρ3 t3 st3 => ?_⟩
      have I3 := I2.step t3 st3
      have rr := (r1.mono t2.pre (I1.same t2)).mono t3.pre (I2.same t3)
      unfold stepV at e4
      split at e4
      · rename_i xs l0 h0
        split at e4
        · rename_i hz
          cases e4
          cases rr with
          | tup hq rr =>
            rw [g.K]
            refine .inl ⟨_, _, rfl, Same.sqT fz_same hq, ?_, (q.gv ((t1.trans t2).trans t3) st3).tup (fun b h => I3.there h) (rr.step _ _ _)⟩
            rw [← stepL_len rr.length, sz_eq]
            exact hz
        · cases e4
      · cases e4
        cases rr with
        | lst hq rr =>
          rw [g.K]
          exact .inr (.inl ⟨_, _, rfl, rfl, rfl, SqL.of (fz_same _ _ hq), (q.gv ((t1.trans t2).trans t3) st3).lst (fun b h => I3.there h) rr.rev⟩)
      · split at e4
        · rename_i hz
          cases e4
          cases rr with
          | str x hx =>
            refine .inr (.inr ⟨_, rfl, rfl, rfl, ?_, ?_⟩)
            · rw [sz_eq]
              show (List.toArray _).size ≤ SZ
              rw [List.size_toArray]
              exact hz
            · exact (q.gv ((t1.trans t2).trans t3) st3).str (List.all_eq_true.mpr fun c hc => List.all_eq_true.mp hx c (List.mem_reverse.mp hc))
        · cases e4
      · cases e4)
end
end PyI

set_option maxRecDepth 100000
/-! PySetS: sets of keys of any kind, made from a list; sets of texts, sorted. -/
namespace PyI
open PySem PySem.Spec PyProof.Rows L2
section
variable {P : Program} {w : World} {K : Type} [DecidableEq K]
/-- no two of the same key -/
def Apart (knd : KeyKind P w K) (l : List (Int × Value)) : Prop := l.Pairwise fun e f => ∀ k, knd.is k e.2 = true → knd.is k f.2 = true → False
def MemOk (knd : KeyKind P w K) (S : K → Bool) (l : List (Int × Value)) : Prop := ∀ k, S k = true ↔ ∃ e ∈ l, knd.is k e.2 = true
def TabOk (w : World) (t : SetTable) (n : Nat) : Prop := t.fits n = true ∧ Ris t.place.toList ∧ (w.params.followText "set-order" = true ∨ t.led = true)
/-- the set at a: S its members, n their number -/
def SetG (knd : KeyKind P w K) (h : Heap) (a : Addr) (S : K → Bool) (n : Nat) : Prop :=
  ∃ o es ep t, h.get? a = some o ∧ o.ExactSet ∧ o.data = .set es ep t ∧ ElemsOf knd es.toList ∧ Apart knd es.toList ∧ MemOk knd S es.toList ∧ es.size < scanBound ∧ TabOk w t es.size ∧ es.size = n
variable {knd : KeyKind P w K}
theorem Apart.perm {l m : List (Int × Value)} (h : Apart knd l) (p : m.Perm l) : Apart knd m := (List.Perm.pairwise_iff (fun q k h1 h2 => q k h2 h1) p).mpr h
theorem MemOk.perm {S : K → Bool} {l m : List (Int × Value)} (h : MemOk knd S l) (p : m.Perm l) : MemOk knd S m := fun k => (h k).trans ⟨fun ⟨e, he, q⟩ => ⟨e, p.mem_iff.mpr he, q⟩, fun ⟨e, he, q⟩ => ⟨e, p.mem_iff.mp he, q⟩⟩
theorem SetG.at {h h' : Heap} {a : Addr} {S : K → Bool} {n : Nat} (R : SetG knd h a S n) (k : ∀ o, h.get? a = some o → h'.get? a = some o) : SetG knd h' a S n := by
  obtain ⟨o, es, ep, t, ho, r⟩ := R
  exact ⟨o, es, ep, t, k o ho, r⟩
theorem SetG.congr {h : Heap} {a : Addr} {S S' : K → Bool} {n : Nat} (R : SetG knd h a S n) (e : ∀ k, S' k = S k) : SetG knd h a S' n := by
  have q : S' = S := funext e
  rw [q]; exact R
variable {A : Around} {E : Value → Shared → Prop} {s : Shared} {a : Addr} {S : K → Bool} {n : Nat}
theorem store_end {g : Bool → Sem Unit} (hg : ∀ (b : Bool) (s₁ : Shared) (Q' : Unit → Shared → Prop), Q' () s₁ → wpAny (model P w) A (g b) Q' E s₁)
    {o : Obj} {es : Array (Int × Value)} {ep : Nat} {t : SetTable} (ho : s.heap.get? a = some o) (hex : o.ExactSet) (hd : o.data = .set es ep t)
    {es1 : Array (Int × Value)} {t2 : SetTable} {S' : K → Bool} (g1 : ElemsOf knd es1.toList) (nd1 : Apart knd es1.toList) (m1 : MemOk knd S' es1.toList)
    (hb1 : es1.size < scanBound) (ht : TabOk w t2 es1.size) {wasDummy : Bool} {R : Option Bool → Shared → Prop}
    (hR : ∀ h', Heap.SameBut a s.heap h' → SetG knd h' a S' es1.size → R (some true) { s with heap := h' }) :
    wpAny (model P w) A (do
        storeSet a es1 t2
        if (!wasDummy && t2.tooFull) = true then do
            g (relayAll t2 es1 (SetTable.grown es1.size)).2.2
            storeSet a (relayAll t2 es1 (SetTable.grown es1.size)).1 (relayAll t2 es1 (SetTable.grown es1.size)).2.1
            pure (some true)
          else pure (some true)) R E s := by
  refine wpAny_bind (wpAny_storeSet_of ho hd ?_ (fits_of_scanBound hb1))
  have ho1 := store_at (es' := es1) (t' := t2) ho hd
  have sb1 := Heap.SameBut.update s.heap a (Obj.putSet es1 t2)
  split
  · have pm := relayAll_perm t2 es1 (SetTable.grown es1.size)
    have hf3 := relayAll_fits t2 es1 (SetTable.grown es1.size)
    have hr3 := relayAll_ris t2 es1 (SetTable.grown es1.size)
    have hl3 := relayAll_led t2 es1 (SetTable.grown es1.size)
    generalize relayAll t2 es1 (SetTable.grown es1.size) = Z at pm hf3 hr3 hl3 ⊢
    obtain ⟨es2, t3, gave⟩ := Z
    dsimp only at pm hf3 hr3 hl3 ⊢
    have hsz : es2.size = es1.size := by rw [← Array.length_toList, pm.length_eq, Array.length_toList]
    have hb2 : es2.size < scanBound := by rw [hsz]; exact hb1
    refine wpAny_bind (hg _ _ _ ?_)
    refine wpAny_bind (wpAny_storeSet_of ho1 rfl ?_ (fits_of_scanBound hb2))
    have ho2 := store_at (es' := es2) (t' := t3) ho1 rfl
    refine wpAny_pure (hR _ (sb1.trans (Heap.SameBut.update _ a _)) ?_)
    exact ⟨_, es2, _, t3, ho2, hex, rfl, g1.perm pm, nd1.perm pm, m1.perm pm, hb2, ⟨hf3, hr3, ht.2.2.imp id fun z => by rw [hl3]; exact z⟩, hsz⟩
  · exact wpAny_pure (hR _ sb1 ⟨_, es1, _, t2, ho1, hex, rfl, g1, nd1, m1, hb1, ht, rfl⟩)
theorem add_g {k : K} {x : Value} {Q : Bool → Shared → Prop} (hkey : knd.is k x = true) (hsc : x.scannable = true) (R : SetG knd s.heap a S n) (room : n + 1 < scanBound)
    (hQ : ∀ h', Heap.SameBut a s.heap h' → SetG knd h' a (fun j => S j || decide (j = k)) (if S k = true then n else n + 1) → Q (!S k) { s with heap := h' }) :
    wpAny (model P w) A (setAddHashed a x (knd.hash k)) Q E s := by
  obtain ⟨o, es, ep, t, ho, hex, hd, hel, nd, hm, hb, ⟨hf, hr, hl⟩, hn⟩ := R
  unfold setAddHashed setAddHashedIn
  refine wpAny_holding (wpAny_bind (wpAny_setState_of ho hd hf ?_))
  dsimp only
  rw [byScan_of hsc hb hel]
  simp only [↓reduceIte]
  unfold setAddByScan
  refine wpAny_bind ?_
  refine wpAny_bind (wpAny_rule ?_)
  refine wpAny_bind (wpAny_setScan_of hkey ho hd hf hel ?_)
  cases hfi : List.findIdx? (fun e => knd.is k e.2) es.toList with
  | some j =>
    dsimp only
    obtain ⟨hj, pj, _⟩ := List.findIdx?_eq_some_iff_getElem.mp hfi
    have hSk : S k = true := (hm k).2 ⟨es.toList[j], List.getElem_mem hj, pj⟩
    refine wpAny_pure (wpAny_pure ?_)
    have q := hQ s.heap (Heap.SameBut.refl a s.heap) ⟨o, es, ep, t, ho, hex, hd, hel, nd, fun i => by
      rw [Bool.or_eq_true, decide_eq_true_eq, ← hm i]
      exact ⟨fun z => z.elim id (fun e => e ▸ hSk), .inl⟩, hb, ⟨hf, hr, hl⟩, by rw [if_pos hSk]; exact hn⟩
    rw [hSk] at q
    exact q
  | none =>
    dsimp only
    have hno : ∀ e ∈ es.toList, knd.is k e.2 = true → False := fun e he q => by
      have c := List.findIdx?_eq_none_iff.mp hfi e he
      rw [q] at c
      cases c
    have hSk : S k = false := by
      cases q : S k with
      | false => rfl
      | true =>
        obtain ⟨e, he, z⟩ := (hm k).1 q
        exact (hno e he z).elim
    have hgw : ∀ (b : Bool) {s₁ : Shared} {Q' : Unit → Shared → Prop}, Q' () s₁ → wpAny (model P w) A (match b with | true => rule "set.scan.the-table-gave-way" | false => pure ()) Q' E s₁ :=
      fun b s₁ Q' q => by cases b <;> first | exact wpAny_pure q | exact wpAny_rule q
    have pm := layNew_perm t es (knd.hash k) x
    have hf1 := layNew_fits t es (knd.hash k) x
    have hr1 := layNew_ris t es (knd.hash k) x hr
    have hl1 := layNew_led t es (knd.hash k) x
    generalize layNew t es (knd.hash k) x = Z at pm hf1 hr1 hl1 ⊢
    obtain ⟨es1, t1, wasDummy, gave⟩ := Z
    dsimp only at pm hf1 hr1 hl1 ⊢
    rw [Array.toList_push] at pm
    have pc : es1.toList.Perm ((knd.hash k, x) :: es.toList) := pm.trans (List.perm_append_singleton _ _)
    have g1 : ElemsOf knd es1.toList := fun e he => by
      rcases List.mem_cons.mp (pc.mem_iff.mp he) with z | z
      · rw [z]; exact ⟨⟨k, hkey, rfl⟩, hsc⟩
      · exact hel e z
    have nd0 : Apart knd ((knd.hash k, x) :: es.toList) := List.pairwise_cons.mpr ⟨fun f hf i h1 h2 => by
      have : i = k := knd.inj x i k h1 hkey
      rw [this] at h2
      exact hno f hf h2, nd⟩
    have nd1 : Apart knd es1.toList := nd0.perm pc
    have m0 : MemOk knd (fun i => S i || decide (i = k)) ((knd.hash k, x) :: es.toList) := fun i => by
      rw [Bool.or_eq_true, decide_eq_true_eq, hm i]
      constructor
      · rintro (⟨e, he, q⟩ | rfl)
        · exact ⟨e, List.mem_cons_of_mem _ he, q⟩
        · exact ⟨_, List.mem_cons_self, hkey⟩
      · rintro ⟨e, he, q⟩
        rcases List.mem_cons.mp he with z | z
        · rw [z] at q; exact .inr (knd.inj x i k q hkey)
        · exact .inl ⟨e, z, q⟩
    have m1 : MemOk knd (fun i => S i || decide (i = k)) es1.toList := m0.perm pc
    have hsz : es1.size = n + 1 := by rw [← Array.length_toList, pc.length_eq, List.length_cons, Array.length_toList, hn]
    have hb1 : es1.size < scanBound := by rw [hsz]; exact room
    have hled : w.params.followText "set-order" = true ∨ t1.led = true := hl.imp id fun z => by rw [hl1]; exact z
    have fin : ∀ h', Heap.SameBut a s.heap h' → SetG knd h' a (fun j => S j || decide (j = k)) es1.size → Q true { s with heap := h' } := fun h' sb r => by
      have q := hQ h' sb
      rw [hSk] at q
      rw [hsz] at r
      exact q r
    refine wpAny_bind (hgw _ ?_)
    split
    · refine wpAny_bind ?_
      rw [hashByValue_scannable 8 hsc]
      refine wpAny_pure ?_
      refine store_end ?_ ho hex hd g1 nd1 m1 hb1 ⟨?_, ?_, ?_⟩ ?_
      · intro b s₁ Q' q; cases b <;> first | exact wpAny_pure q | exact wpAny_rule q
      · first | (split <;> first | exact hf1 | exact SetTable.fits_plain_off hf1) | exact hf1
      · first | (split <;> exact hr1) | exact hr1
      · first | (split <;> exact hled) | exact hled
      · intro h' sb r; dsimp only; exact wpAny_pure (fin h' sb r)
    · refine wpAny_bind (wpAny_pure ?_)
      simp only [↓reduceIte]
      refine store_end ?_ ho hex hd g1 nd1 m1 hb1 ⟨hf1, hr1, hled⟩ ?_
      · intro b s₁ Q' q; cases b <;> first | exact wpAny_pure q | exact wpAny_rule q
      · intro h' sb r; dsimp only; exact wpAny_pure (fin h' sb r)
theorem upd_g {I : Addr} {fp wr : List Addr} {G : Array GenState → Array GenState → Prop} {n : Nat} {Pv : Nat → Value → Prop} {St : Nat → Shared → Prop} {R : Result → Shared → Prop}
    (W : WalksS P w A.in1 I fp wr G n Pv St) (S : Addr) (hSf : S ∉ fp) (ns : List K) (hn : n = ns.length) (hb : ns.length + 1 < scanBound) (hval : ∀ i v, Pv i v → ∃ k, ns[i]? = some k ∧ knd.is k v = true ∧ v.scannable = true) :
    ∀ (k i : Nat) (s : Shared), n - i = k → i ≤ n → St i s → (∃ c, c ≤ i ∧ SetG knd s.heap S (fun j => decide (j ∈ ns.take i)) c) →
      (∀ s' c, Moved (S :: wr) G s s' → c ≤ n → SetG knd s'.heap S (fun j => decide (j ∈ ns)) c → R (.ok (.ret .none)) s') →
      codeAny (model P w) A (.builtin "set.update.loop" ⟨[.ref S, .ref I], []⟩) R s := by
  have hSw : S ∉ wr := fun h => hSf (W.sub _ h)
  have hsub : ∀ b ∈ wr, b ∈ S :: wr := fun b hb => List.mem_cons_of_mem _ hb
  intro k
  induction k with
  | zero =>
    intro i s hk' hi hst ⟨c, hc, hS⟩ hR
    have hin : i = n := by omega
    subst hin
    refine codeAny_builtin F.entry_set_update_loop ?_
    rw [Around.under_plainId F.plain_set_update_loop _]
    show wpAny _ A.in1 (pyNext (.ref I) >>= _) _ _ s
    refine wpAny_bind (W.done s _ _ hst fun s' hm => ?_)
    show wpAny _ A.in1 (ret Value.none) _ _ s'
    have e : ns.take i = ns := List.take_of_length_le (by omega)
    rw [e] at hS
    exact wpAny_pure (hR s' c (hm.mono hsub) hc (hS.at fun o e => hm.heap S o hSw e))
  | succ k ih =>
    intro i s hk' hi hst ⟨c, hc, hS⟩ hR
    have hlt : i < n := by omega
    refine codeAny_builtin F.entry_set_update_loop ?_
    rw [Around.under_plainId F.plain_set_update_loop _]
    show wpAny _ A.in1 (pyNext (.ref I) >>= _) _ _ s
    refine wpAny_bind (W.item i s _ _ hlt hst fun v s' hP hst' hm => ?_)
    obtain ⟨z, hz, hkey, hsc⟩ := hval i v hP
    have hS' : SetG knd s'.heap S (fun j => decide (j ∈ ns.take i)) c := hS.at fun o e => hm.heap S o hSw e
    show wpAny _ A.in1 (holding [v] (setAdd S v) >>= _) _ _ s'
    refine wpAny_bind (wpAny_holding ?_)
    unfold setAdd
    refine wpAny_holding ?_
    refine wpAny_bind (knd.pyHash hkey ?_)
    refine add_g (s := { s' with toks := s'.toks + 1 }) hkey hsc hS' (by omega) fun h' hsb hS2 => ?_
    have hS3 : SetG knd h' S (fun j => decide (j ∈ ns.take (i + 1))) (if decide (z ∈ ns.take i) = true then c else c + 1) := hS2.congr fun j => by
      rw [List.take_add_one, hz]
      simp [List.mem_append]
    have hc3 : (if decide (z ∈ ns.take i) = true then c else c + 1) ≤ i + 1 := by
      split <;> omega
    refine wpAny_pure ⟨plainId_quiet F.plain_set_update_loop _, ih (i + 1) _ (by omega) hlt (W.frame _ s' _ _ hst' (Nat.le_succ _) fun b hb o e => ?_) ⟨_, hc3, hS3⟩ fun s'' c2 hm'' hc'' hS'' => ?_⟩
    · rw [hsb.2 b (fun h : b = S => hSf (by rw [← h]; exact hb))]; exact e
    · refine hR s'' c2 (Moved.trans W.gtrans ((hm.mono hsub).then_heap (Nat.le_succ _) fun b o hb e => ?_) hm'') hc'' hS''
      rw [hsb.2 b (fun h : b = S => hb (by rw [h]; exact List.mem_cons_self))]; exact e
theorem new_g {h : Heap} {a : Addr} {ns : List K} (ho : h.get? a = some (So w)) : SetG knd h a (fun j => decide (j ∈ ns.take 0)) 0 :=
  ⟨_, #[], 0, _, ho, ⟨rfl, rfl, rfl⟩, rfl, (fun e he => by simp at he), List.Pairwise.nil, (fun k => by simp), (by decide), ⟨by rfl, List.Pairwise.nil, by
    show _ ∨ (!w.params.followText "set-order") = true
    cases w.params.followText "set-order"
    · exact .inr rfl
    · exact .inl rfl⟩, rfl⟩
set_option maxHeartbeats 8000000 in
theorem made_setG {l : Addr} {its : Array Value} (ns : List K) {R : Value → Shared → Prop} (hd : A.handled = none) (isl : s.heap.IsList l its) (size : its.size = ns.length) (val : ∀ (i : Nat) (v : Value), its[i]? = some v → ∃ k, ns[i]? = some k ∧ knd.is k v = true ∧ v.scannable = true) (few : ns.length + 1 < scanBound)
    (go : ∀ (g : Heap) (k m : Nat), SetG knd g s.heap.objs.size (fun j => decide (j ∈ ns)) m → m ≤ ns.length → (∀ b o, s.heap.get? b = some o → g.get? b = some o) → R (.ref s.heap.objs.size) { s with heap := g, toks := k }) :
    wpAny (model P w) A (call (.type "set") [.ref l]) R E s := by
  obtain ⟨mroC, mroT, mro⟩ := F.called_set.mro
  have made := F.called_set.made
  have sub := F.called_set.sub
  refine wpAny_call (codeAny_of_tree ?_)
  show wpAny _ _ (callAny (.type "set") _) _ _ _
  refine wpAny_pure ⟨Code.quiet_builtin _ (by decide +kernel), codeAny_builtin F.entry_type_call ?_⟩
  rw [Around.under_plain (weight_type_call_type "set" [.ref l] []) rfl]
  have f1 := F.called_set.notType
  have f2 := F.called_set.canCreate
  have f3 := F.typeCall_set_1 (.ref l)
  repeat (any_goals (first | assumption | wp_step))
  refine codeAny_mono (code_set_led1 (.ref l) (E := E) (Q₁ := fun v s₁ => v = .ref s.heap.objs.size ∧ s₁ = { s with heap := s.heap.push (So w) }) ⟨rfl, rfl⟩) fun r0 s₁ h0 => ?_
  match r0, h0 with
  | .error e, h0 => exact h0
  | .ok (.ret v0), h0 =>
    obtain ⟨rfl, rfl⟩ := h0
    have atS : (s.heap.push (So w)).get? s.heap.objs.size = some (So w) := Heap.get?_push_size _ rfl
    have isS : Shared.TypeIs { s with heap := s.heap.push (So w) } (.ref s.heap.objs.size) "set" := ⟨_, atS, rfl⟩
    have i1 := F.called_set.init.lookup
    have i2 := F.called_set.init.bind (.ref s.heap.objs.size)
    repeat (any_goals (first | assumption | wp_step))
    refine codeAny_mono (codeAny_call_builtin (R := wants (fun v s₂ => v = .none ∧ ∃ g k m, s₂ = { s with heap := g, toks := k } ∧ SetG knd g s.heap.objs.size (fun j => decide (j ∈ ns)) m ∧ m ≤ ns.length ∧ (∀ b o, s.heap.get? b = some o → g.get? b = some o)) E)
      F.called_set.init.plain F.entry_set_init (check_set_init_1 isS ?_)) fun r1 s₂ h1 => ?_
    · obtain ⟨ob, obAt, obC, obN, obD⟩ := isl
      obtain ⟨c0, c1, c2, c3⟩ := ob
      simp only at obC obD
      subst obC; subst obD
      have at2 : (s.heap.push (So w)).get? l = some { cls := .type "list", dict := c1, data := .seq its obN, slots := c3 } := Heap.get?_push_of_some _ obAt
      have k1 := F.sub_list_set
      have k2 := F.sub_list_frozenset
      have k3 : (Value.type "list" == Value.type "dict") = false := by decide
      have lst2 : (s.heap.push (So w)).IsList l its := ⟨_, at2, rfl, obN, rfl⟩
      unfold Builtin.«set.__init__» noKeywords Builtin.Frozenset.updateFrom
      generalize hPI : pyIter = PI
      wp_walk
      subst hPI
      refine wpAny_pyIter_list lst2 ?_
      refine wpAny_bind (wpAny_runValue ?_)
      have below : l < s.heap.objs.size := Heap.lt_size obAt
      have calm : A.in1.in1.in1.handled = none := by simp [hd]
      have up1 : (s.heap.push (So w)).objs.size = s.heap.objs.size + 1 := Heap.size_push ..
      have ap : l ≠ (s.heap.push (So w)).objs.size := by rw [up1]; exact Nat.ne_of_lt (Nat.lt_succ_of_lt below)
      have ap2 : s.heap.objs.size ∉ [(s.heap.push (So w)).objs.size, l] := by
        intro z
        rcases List.mem_cons.mp z with z | z
        · rw [up1] at z; exact Nat.ne_of_lt (Nat.lt_succ_self _) z
        · exact Nat.ne_of_gt below (List.mem_singleton.mp z)
      refine upd_g (knd := knd) ((Walks.list calm _ l ap its).toS) s.heap.objs.size ap2 ns size few val (its.size - 0) 0 _ (by omega) (Nat.zero_le _) ⟨⟨_, Heap.get?_push_size _ rfl, rfl, rfl⟩, (lst2.push _)⟩ ?start ?stop
      case start => exact ⟨0, Nat.le_refl 0, new_g (Heap.get?_push_of_some _ atS)⟩
      case stop =>
        rintro ⟨g, g2, d2, k, o2⟩ m mv hm hs
        have q1 : g2 = s.gens := mv.gens
        have q2 : d2 = s.drawn := mv.drawn
        have q3 : o2 = s.os := mv.os
        subst q1; subst q2; subst q3
        show wpAny _ _ _ _ _ _
        refine wpAny_pure ?_
        show wpAny _ _ (ret Value.none) _ _ _
        refine wpAny_pure ⟨rfl, g, k, m, rfl, hs, by rw [size] at hm; exact hm, fun b o e => ?_⟩
        have lt := Heap.lt_size e
        refine mv.heap b o (fun z => ?_) (Heap.get?_push_of_some _ (Heap.get?_push_of_some _ e))
        rcases List.mem_cons.mp z with z | z
        · exact Nat.ne_of_lt lt z
        · have z := List.mem_singleton.mp z
          rw [up1] at z
          exact Nat.ne_of_lt (Nat.lt_succ_of_lt lt) z
    · match r1, h1 with
      | .error e, h1 => exact h1
      | .ok (.ret v1), h1 =>
        obtain ⟨rfl, g, k, m, rfl, hs, hm, hk⟩ := h1
        repeat (any_goals (first | assumption | wp_step))
        exact go _ _ _ hs hm hk
      | .ok .next, h1 => exact h1.elim
      | .ok .brk, h1 => exact h1.elim
      | .ok .cont, h1 => exact h1.elim
  | .ok .next, h0 => exact h0.elim
  | .ok .brk, h0 => exact h0.elim
  | .ok .cont, h0 => exact h0.elim
end
/-! ### texts -/
def txtOf : Value → Str
  | .str x _ => x
  | _ => default
theorem strs_txt {P : Program} {w : World} : ∀ (l : List Value), (∀ v ∈ l, ∃ k, (strKind P w).is k v = true) → StrsAre l (l.map txtOf)
  | [], _ => .nil
  | v :: l, h => by
    obtain ⟨k, hk⟩ := h v List.mem_cons_self
    obtain ⟨t, rfl⟩ := Value.isStrOf_shape (show v.isStrOf k = true from hk)
    exact .cons k t (strs_txt (P := P) (w := w) l fun u hu => h u (List.mem_cons_of_mem _ hu))
/-! ### strictly in order -/
theorem lt_irr {x : List Nat} (h : x < x) : False := List.lt_irrefl x h
theorem lt_asy {x y : List Nat} (h : x < y) (h2 : y < x) : False := lt_irr (List.lt_trans h h2)
theorem lt_tot {x y : List Nat} (h : ¬ x < y) (h2 : ¬ y < x) : x = y := List.le_antisymm (List.not_lt.mp h2) (List.not_lt.mp h)
abbrev Le (x y : List Nat) : Prop := ¬ y < x
theorem leS_Le {x y : List Nat} (h : leS x y) : Le x y := by
  unfold leS at h
  rw [strLt_eq] at h
  exact of_decide_eq_false h
theorem dedS_mem : ∀ (l : List (List Nat)) (k : List Nat), k ∈ dedS l ↔ k ∈ l
  | [], k => Iff.rfl
  | x :: r, k => by
    have ih := dedS_mem r k
    unfold dedS
    cases e : dedS r with
    | nil =>
      rw [e] at ih
      show k ∈ [x] ↔ _
      rw [List.mem_cons, List.mem_cons, ih]
    | cons y t =>
      rw [e] at ih
      show k ∈ (if x = y then y :: t else x :: y :: t) ↔ _
      by_cases h : x = y
      · rw [if_pos h, ih, List.mem_cons]
        refine ⟨.inr, fun z => z.elim (fun z => ?_) _root_.id⟩
        rw [← ih, z, h]
        exact List.mem_cons_self
      · rw [if_neg h, List.mem_cons, ih, List.mem_cons]
theorem dedS_lt : ∀ {l : List (List Nat)}, l.Pairwise Le → (dedS l).Pairwise (· < ·)
  | [], _ => .nil
  | x :: r, h => by
    obtain ⟨h1, h2⟩ := List.pairwise_cons.mp h
    have ih := dedS_lt h2
    unfold dedS
    cases e : dedS r with
    | nil => simp
    | cons y t =>
      rw [e] at ih
      by_cases hx : x = y
      · simp only [hx, if_true]; exact ih
      · simp only [hx, if_false]
        have hy : y ∈ r := (dedS_mem r y).mp (by rw [e]; exact List.mem_cons_self)
        have hxy : x < y := Decidable.byContradiction fun q => hx (lt_tot q (h1 y hy))
        refine List.pairwise_cons.mpr ⟨fun z hz => ?_, ih⟩
        rcases List.mem_cons.mp hz with q | q
        · rw [q]; exact hxy
        · exact List.lt_trans hxy ((List.pairwise_cons.mp ih).1 z q)
theorem ltS_one : ∀ {x y : List (List Nat)}, x.Pairwise (· < ·) → y.Pairwise (· < ·) → (∀ k, k ∈ x ↔ k ∈ y) → x = y
  | [], [], _, _, _ => rfl
  | [], b :: y, _, _, h => by have := (h b).mpr List.mem_cons_self; simp at this
  | a :: x, [], _, _, h => by have := (h a).mp List.mem_cons_self; simp at this
  | a :: x, b :: y, hx, hy, h => by
    obtain ⟨x1, x2⟩ := List.pairwise_cons.mp hx
    obtain ⟨y1, y2⟩ := List.pairwise_cons.mp hy
    have e : a = b := by
      rcases List.mem_cons.mp ((h a).mp List.mem_cons_self) with e | e
      · exact e
      · rcases List.mem_cons.mp ((h b).mpr List.mem_cons_self) with e2 | e2
        · exact e2.symm
        · exact (lt_asy (x1 b e2) (y1 a e)).elim
    subst e
    rw [ltS_one x2 y2 fun k => ?_]
    constructor
    · intro hk
      rcases List.mem_cons.mp ((h k).mp (List.mem_cons_of_mem _ hk)) with q | q
      · exact (lt_irr (q ▸ x1 k hk)).elim
      · exact q
    · intro hk
      rcases List.mem_cons.mp ((h k).mpr (List.mem_cons_of_mem _ hk)) with q | q
      · exact (lt_irr (q ▸ y1 k hk)).elim
      · exact q
section
variable {P : Program} {w : World} {A : Around} {E : Value → Shared → Prop} {s : Shared} {a : Addr}
theorem txt_of {v : Value} {k : Str} (h : (strKind P w).is k v = true) : txtOf v = k := by
  obtain ⟨t, rfl⟩ := Value.isStrOf_shape (show v.isStrOf k = true from h)
  rfl
theorem sorted_setS {S : Str → Bool} {n : Nat} {Q : Value → Shared → Prop} (R : SetG (strKind P w) s.heap a S n) (hh : A.handled = none)
    (hQ : ∀ s' p (out : Array Value) (c : Nat) (ys : List Str), (∀ b o, s.heap.get? b = some o → s'.heap.get? b = some o) → s'.gens = s.gens → s'.os = s.os → s.heap.objs.size ≤ p →
      s'.heap.get? p = some (seqObj "list" out c) → StrsAre out.toList ys → sortedS ys = true → ys.Nodup → (∀ k, k ∈ ys ↔ S k = true) → ys.length = n → Q (.ref p) s') :
    wpAny (model P w) A (call (.builtin "sorted") [.ref a]) Q E s := by
  obtain ⟨o, es, ep, t, ho, hex, hd, hel, nd, hm, hb, ⟨hf, hr, hl⟩, hn⟩ := R
  refine Calls.call_function_entry kind_sorted plain_sorted entry_sorted (args_sorted1 _) ?_
  unfold Builtin.«sorted»
  refine wpAny_bind (m := checkCount "sorted" 1 1 _) (wpAny_pure ?_)
  refine wpAny_bind (collect_set (A := A.in1) hh ⟨o, ho, hex.1, hd⟩ hf hb hr hl fun s1 vs k1 hz g1 o1 pm => ?_)
  have hvl : vs.length = n := by rw [pm.length_eq, List.length_map, Array.length_toList]; exact hn
  have hvz : vs.length ≤ sizeLine := by rw [hvl, ← hn]; exact fits_of_scanBound hb
  have hI : StrsAre vs (vs.map txtOf) := strs_txt (P := P) (w := w) vs fun v hv => by
    obtain ⟨e, he, q⟩ := List.mem_map.mp (pm.mem_iff.mp hv)
    obtain ⟨⟨k, hk, _⟩, _⟩ := hel e he
    exact ⟨k, by rw [← q]; exact hk⟩
  have pk : (vs.map txtOf).Perm (es.toList.map fun e => txtOf e.2) := by
    have q := pm.map txtOf
    rw [List.map_map] at q
    exact q
  have ndk : (es.toList.map fun e => txtOf e.2).Nodup := by
    refine List.pairwise_map.mpr (List.Pairwise.imp_of_mem (fun {e f} he hf q z => ?_) nd)
    obtain ⟨⟨k, hk, _⟩, _⟩ := hel e he
    obtain ⟨⟨k', hk', _⟩, _⟩ := hel f hf
    rw [txt_of hk, txt_of hk'] at z
    subst z
    exact q k hk hk'
  have mk : ∀ k, k ∈ (es.toList.map fun e => txtOf e.2) ↔ S k = true := fun k => by
    rw [hm k, List.mem_map]
    constructor
    · rintro ⟨e, he, q⟩
      obtain ⟨⟨k', hk', _⟩, _⟩ := hel e he
      rw [txt_of hk'] at q
      subst q
      exact ⟨e, he, hk'⟩
    · rintro ⟨e, he, q⟩
      exact ⟨e, he, txt_of q⟩
  refine wpAny_bind (wpAny_newList ?_ hvz)
  have hoL : (s1.heap.push (seqObj "list" vs.toArray 0)).get? s1.heap.objs.size = some (seqObj "list" vs.toArray 0) := Heap.get?_push_size _ rfl
  refine wpAny_bind (wpAny_holding (wpAny_call_entry slot_list_sort ⟨_, hoL, rfl⟩ entry_list_sort (list_sort_treeKAny strKind_oneLt hoL hI.keysOf (fun v₁ v₂ rest e => keyKind_strs (by rw [← e]; exact hI)) hvz fun st' hp hs => ?_) (args_list_sort _)))
  obtain ⟨ys, a1, a2, a3⟩ := sorted_out_str hI hp hs
  refine ⟨_, rfl, ?_⟩
  generalize ho' : (arrOf st').map (·.2) = out at a1 ⊢
  obtain ⟨c, hc⟩ := sortedHeap_at (vs := vs) (out := out) hoL
  have pn : ys.Perm (es.toList.map fun e => txtOf e.2) := a2.trans pk
  refine wpAny_pure ⟨_, rfl, hQ _ s1.heap.objs.size out c ys (fun b u e => ?_) g1 o1 hz hc a1 a3 (pn.nodup_iff.mpr ndk) (fun k => by rw [pn.mem_iff]; exact mk k) ?_⟩
  · have q := k1 b u e
    have hlt := Heap.lt_size q
    show (sortedHeap (s1.heap.push (seqObj "list" vs.toArray 0)) s1.heap.objs.size vs out).get? b = some u
    rw [sortedHeap_old (Nat.ne_of_lt hlt) (by rw [size_push']; exact Nat.lt_succ_of_lt hlt)]
    exact Heap.get?_push_of_some _ q
  · rw [pn.length_eq, List.length_map, Array.length_toList]; exact hn
end
section
variable {X : Cx}
/-- the set of texts at a -/
def SetSO (X : Cx) (a : Addr) (S : Str → Bool) (n : Nat) : HO := .ext fun h => SetG (strKind X.prog X.w) h a S n
theorem setSO_new {X : Cx} {P : Program} {H : Hp} {h : Heap} {a : Addr} {S : Str → Bool} {n : Nat} (R : SetG (strKind X.prog X.w) h a S n) : ObjOk P X.w H h a (SetSO X a S n) := by
  have ⟨o, _, _, _, ho, _⟩ := R
  exact ⟨R, ⟨o, ho⟩, fun h1 h2 p k => SetG.at p k⟩
theorem cr_setLS (hc : X.calm = true) : CallR X (.type "set") (fun xs H Q => ∃ (l : Addr) (ns : List Str), xs = [V.ref l] ∧ SqL X.K H l (ns.map V.str) ∧ ns.length + 1 < scanBound ∧ ∀ a m, H a = none → m ≤ ns.length → Q (.ref a) (upd H a (SetSO X a (fun j => decide (j ∈ ns)) m))) := by
  intro pins s σ H xs us Q I r h
  obtain ⟨l, ns, rfl, hs, hb, q⟩ := h
  rw [Vals.ref1 r]
  obtain ⟨its, rv, pl, hz⟩ := I.list hs
  have hlen := rv.length
  rw [List.length_map] at hlen
  refine made_setG (knd := strKind X.prog X.w) ns (I.ok.hd hc) pl.isList (by rw [List.size_toArray]; exact hlen.symm) (fun i v hv => ?_) hb fun g k m hS hm hk => ?_
  · have hi : i < ns.length := by
      have := (Array.getElem?_eq_some_iff.mp hv).1
      rw [List.size_toArray] at this
      omega
    obtain ⟨u, hu, t, rfl⟩ := rv.get (i := i) (x := .str ns[i]) (by simp [hi])
    have e : its[i]? = some v := by simpa using hv
    rw [hu] at e
    cases e
    exact ⟨ns[i], List.getElem?_eq_getElem hi, strKind_is _ _ _ _, rfl⟩
  · have hn := I.hok.fresh (Nat.le_refl s.heap.objs.size)
    exact ⟨.ref _, upd H s.heap.objs.size (SetSO X s.heap.objs.size (fun j => decide (j ∈ ns)) m), I.laid (t' := k) (fun b u e => hk b u e) (Nat.le_refl _) (setSO_new hS), rfl, q _ m hn hm⟩
theorem cr_sortedSetS (hc : X.calm = true) : CallR X (.builtin "sorted") (fun vs H Q => ∃ (a : Addr) (S : Str → Bool) (n : Nat), vs = [V.ref a] ∧ H a = some (SetSO X a S n) ∧ n < scanBound ∧
  ∀ (ys : List Str) (p : Addr), sortedS ys = true → ys.Nodup → (∀ k, k ∈ ys ↔ S k = true) → ys.length = n → H p = none → Q (.ref p) (upd H p (.lst (ys.map V.str)))) := by
  intro pins s σ H vs us Q I r h
  obtain ⟨a, S, n, rfl, ha, hsb, q⟩ := h
  have R : SetG (strKind X.prog X.w) s.heap a S n := (I.hok a _ ha).1
  rw [Vals.ref1 r]
  refine sorted_setS R (I.ok.hd hc) fun s' p out c ys k g o hp hg hi hs hnd hm hl => ?_
  have hlen : (ys.map V.str).length ≤ sizeLine := by rw [List.length_map, hl]; exact fits_of_scanBound hsb
  have hn : H p = none := I.hok.fresh hp
  have J : Inv X pins σ (upd H p (.lst (ys.map V.str))) { s with heap := s'.heap, gens := s'.gens, drawn := s'.drawn, toks := s'.toks } :=
    I.call (ch := []) (Un.laid k hp hn) (I.hok.laid k hp ⟨hlen, out.toList, c, vals_of_strs hi, hg⟩) (by rw [g]; exact I.bare) (fun _ z => nomatch z)
  have e : s' = { s with heap := s'.heap, gens := s'.gens, drawn := s'.drawn, toks := s'.toks } := by
    cases s'
    cases s
    cases o
    rfl
  rw [e]
  exact ⟨.ref p, _, J, rfl, q ys p hs hnd hm hl hn⟩
/-- the list that comes of it -/
theorem sset_one {l : List (List Nat)} {ys : List Str} (hs : sortedS ys = true) (hnd : ys.Nodup) (hm : ∀ k, k ∈ ys ↔ k ∈ l.map mkS) : ys = (dedS (sortS l)).map mkS := by
  have inj : ∀ y : Str, mkS y.cps.toList = y := fun z => by
    show (⟨z.cps.toList.toArray⟩ : PySem.Str) = z
    rw [Array.toArray_toList]
  have e : (ys.map fun y => y.cps.toList) = dedS (sortS l) := by
    refine ltS_one ?_ (dedS_lt ((sortS_le l).imp leS_Le)) fun k => ?_
    · have h1 : (ys.map fun y => y.cps.toList).Pairwise Le := by
        rw [List.pairwise_map]
        cases ys with
        | nil => exact .nil
        | cons y r => exact (rising_le r y hs).imp leS_Le
      have h2 : (ys.map fun y => y.cps.toList).Nodup := by
        refine List.pairwise_map.mpr (hnd.imp fun {a b} q z => q ?_)
        rw [← inj a, ← inj b, z]
      refine List.Pairwise.imp₂ (fun a b (h : Le a b) (h' : a ≠ b) => ?_) h1 h2
      exact Decidable.byContradiction fun q => h' (lt_tot q h)
    · rw [List.mem_map, dedS_mem, (sortS_perm l).mem_iff]
      constructor
      · rintro ⟨y, hy, rfl⟩
        obtain ⟨x, hx, e⟩ := List.mem_map.mp ((hm y).mp hy)
        rw [← e]
        simpa [mkS] using hx
      · intro hk
        exact ⟨mkS k, (hm _).mpr (List.mem_map.mpr ⟨k, hk, rfl⟩), by simp [mkS]⟩
  rw [← e, List.map_map]
  have : (mkS ∘ fun y : PySem.Str => y.cps.toList) = id := by
    funext z
    exact inj z
  rw [this, List.map_id]
end
end PyI

set_option maxRecDepth 100000
/-! PySetT: .. made from a tuple. -/
namespace PyI
open PySem PySem.Spec PyProof.Rows L2
section
variable {P : Program} {w : World} {K : Type} [DecidableEq K] {knd : KeyKind P w K}
variable {A : Around} {E : Value → Shared → Prop} {s : Shared} {a : Addr} {S : K → Bool} {n : Nat}
set_option maxHeartbeats 8000000 in
theorem made_setT {l : Addr} {its : Array Value} (ns : List K) {R : Value → Shared → Prop} (hd : A.handled = none) (isl : s.heap.IsTuple l its) (size : its.size = ns.length) (val : ∀ (i : Nat) (v : Value), its[i]? = some v → ∃ k, ns[i]? = some k ∧ knd.is k v = true ∧ v.scannable = true) (few : ns.length + 1 < scanBound)
    (go : ∀ (g : Heap) (k m : Nat), SetG knd g s.heap.objs.size (fun j => decide (j ∈ ns)) m → m ≤ ns.length → (∀ b o, s.heap.get? b = some o → g.get? b = some o) → R (.ref s.heap.objs.size) { s with heap := g, toks := k }) :
    wpAny (model P w) A (call (.type "set") [.ref l]) R E s := by
  obtain ⟨mroC, mroT, mro⟩ := F.called_set.mro
  have made := F.called_set.made
  have sub := F.called_set.sub
  refine wpAny_call (codeAny_of_tree ?_)
  show wpAny _ _ (callAny (.type "set") _) _ _ _
  refine wpAny_pure ⟨Code.quiet_builtin _ (by decide +kernel), codeAny_builtin F.entry_type_call ?_⟩
  rw [Around.under_plain (weight_type_call_type "set" [.ref l] []) rfl]
  have f1 := F.called_set.notType
  have f2 := F.called_set.canCreate
  have f3 := F.typeCall_set_1 (.ref l)
  repeat (any_goals (first | assumption | wp_step))
  refine codeAny_mono (code_set_led1 (.ref l) (E := E) (Q₁ := fun v s₁ => v = .ref s.heap.objs.size ∧ s₁ = { s with heap := s.heap.push (So w) }) ⟨rfl, rfl⟩) fun r0 s₁ h0 => ?_
  match r0, h0 with
  | .error e, h0 => exact h0
  | .ok (.ret v0), h0 =>
    obtain ⟨rfl, rfl⟩ := h0
    have atS : (s.heap.push (So w)).get? s.heap.objs.size = some (So w) := Heap.get?_push_size _ rfl
    have isS : Shared.TypeIs { s with heap := s.heap.push (So w) } (.ref s.heap.objs.size) "set" := ⟨_, atS, rfl⟩
    have i1 := F.called_set.init.lookup
    have i2 := F.called_set.init.bind (.ref s.heap.objs.size)
    repeat (any_goals (first | assumption | wp_step))
    refine codeAny_mono (codeAny_call_builtin (R := wants (fun v s₂ => v = .none ∧ ∃ g k m, s₂ = { s with heap := g, toks := k } ∧ SetG knd g s.heap.objs.size (fun j => decide (j ∈ ns)) m ∧ m ≤ ns.length ∧ (∀ b o, s.heap.get? b = some o → g.get? b = some o)) E)
      F.called_set.init.plain F.entry_set_init (check_set_init_1 isS ?_)) fun r1 s₂ h1 => ?_
    · obtain ⟨ob, obAt, obC, obN, obD⟩ := isl
      obtain ⟨c0, c1, c2, c3⟩ := ob
      simp only at obC obD
      subst obC; subst obD
      have at2 : (s.heap.push (So w)).get? l = some { cls := .type "tuple", dict := c1, data := .seq its obN, slots := c3 } := Heap.get?_push_of_some _ obAt
      have k1 := F.sub_tuple_set
      have k2 := F.sub_tuple_frozenset
      have k3 : (Value.type "tuple" == Value.type "dict") = false := by decide
      have lst2 : (s.heap.push (So w)).IsTuple l its := ⟨_, at2, rfl, obN, rfl⟩
      unfold Builtin.«set.__init__» noKeywords Builtin.Frozenset.updateFrom
      generalize hPI : pyIter = PI
      wp_walk
      subst hPI
      refine wpAny_pyIter_tuple lst2 ?_
      refine wpAny_bind (wpAny_runValue ?_)
      have below : l < s.heap.objs.size := Heap.lt_size obAt
      have calm : A.in1.in1.in1.handled = none := by simp [hd]
      have up1 : (s.heap.push (So w)).objs.size = s.heap.objs.size + 1 := Heap.size_push ..
      have ap : l ≠ (s.heap.push (So w)).objs.size := by rw [up1]; exact Nat.ne_of_lt (Nat.lt_succ_of_lt below)
      have ap2 : s.heap.objs.size ∉ [(s.heap.push (So w)).objs.size, l] := by
        intro z
        rcases List.mem_cons.mp z with z | z
        · rw [up1] at z; exact Nat.ne_of_lt (Nat.lt_succ_self _) z
        · exact Nat.ne_of_gt below (List.mem_singleton.mp z)
      refine upd_g (knd := knd) ((Walks.tuple calm _ l ap its).toS) s.heap.objs.size ap2 ns size few val (its.size - 0) 0 _ (by omega) (Nat.zero_le _) ⟨⟨_, Heap.get?_push_size _ rfl, rfl, rfl⟩, (lst2.push _)⟩ ?start ?stop
      case start => exact ⟨0, Nat.le_refl 0, new_g (Heap.get?_push_of_some _ atS)⟩
      case stop =>
        rintro ⟨g, g2, d2, k, o2⟩ m mv hm hs
        have q1 : g2 = s.gens := mv.gens
        have q2 : d2 = s.drawn := mv.drawn
        have q3 : o2 = s.os := mv.os
        subst q1; subst q2; subst q3
        show wpAny _ _ _ _ _ _
        refine wpAny_pure ?_
        show wpAny _ _ (ret Value.none) _ _ _
        refine wpAny_pure ⟨rfl, g, k, m, rfl, hs, by rw [size] at hm; exact hm, fun b o e => ?_⟩
        have lt := Heap.lt_size e
        refine mv.heap b o (fun z => ?_) (Heap.get?_push_of_some _ (Heap.get?_push_of_some _ e))
        rcases List.mem_cons.mp z with z | z
        · exact Nat.ne_of_lt lt z
        · have z := List.mem_singleton.mp z
          rw [up1] at z
          exact Nat.ne_of_lt (Nat.lt_succ_of_lt lt) z
    · match r1, h1 with
      | .error e, h1 => exact h1
      | .ok (.ret v1), h1 =>
        obtain ⟨rfl, g, k, m, rfl, hs, hm, hk⟩ := h1
        repeat (any_goals (first | assumption | wp_step))
        exact go _ _ _ hs hm hk
      | .ok .next, h1 => exact h1.elim
      | .ok .brk, h1 => exact h1.elim
      | .ok .cont, h1 => exact h1.elim
  | .ok .next, h0 => exact h0.elim
  | .ok .brk, h0 => exact h0.elim
  | .ok .cont, h0 => exact h0.elim
end
theorem cr_setTS (hc : X.calm = true) : CallR X (.type "set") (fun xs H Q => ∃ (l : Addr) (ns : List Str), xs = [V.ref l] ∧ SqT X.K H l (ns.map V.str) ∧ ns.length + 1 < scanBound ∧ ∀ a m, H a = none → m ≤ ns.length → Q (.ref a) (upd H a (SetSO X a (fun j => decide (j ∈ ns)) m))) := by
  intro pins s σ H xs us Q I r h
  obtain ⟨l, ns, rfl, hs, hb, q⟩ := h
  rw [Vals.ref1 r]
  obtain ⟨its, rv, pl, hz⟩ := I.tuple hs
  have hlen := rv.length
  rw [List.length_map] at hlen
  refine made_setT (knd := strKind X.prog X.w) ns (I.ok.hd hc) pl (by rw [List.size_toArray]; exact hlen.symm) (fun i v hv => ?_) hb fun g k m hS hm hk => ?_
  · have hi : i < ns.length := by
      have := (Array.getElem?_eq_some_iff.mp hv).1
      rw [List.size_toArray] at this
      omega
    obtain ⟨u, hu, t, rfl⟩ := rv.get (i := i) (x := .str ns[i]) (by simp [hi])
    have e : its[i]? = some v := by simpa using hv
    rw [hu] at e
    cases e
    exact ⟨ns[i], List.getElem?_eq_getElem hi, strKind_is _ _ _ _, rfl⟩
  · have hn := I.hok.fresh (Nat.le_refl s.heap.objs.size)
    exact ⟨.ref _, upd H s.heap.objs.size (SetSO X s.heap.objs.size (fun j => decide (j ∈ ns)) m), I.laid (t' := k) (fun b u e => hk b u e) (Nat.le_refl _) (setSO_new hS), rfl, q _ m hn hm⟩
end PyI

set_option maxRecDepth 100000
/-! PyIZ: sorted(set(xs)), list(range(..)), xs.count(k). -/
namespace PyI
open PySem PySem.Spec PyProof.Rows L2

theorem cr_setL {X : Cx} (hc : X.calm = true) : CallR X (.type "set") (fun xs H Q => ∃ (l : Addr) (ns : List Int), xs = [V.ref l] ∧ SqL X.K H l (ns.map V.int) ∧ ns.length + 1 < scanBound ∧ ∀ a m, H a = none → m ≤ ns.length → Q (.ref a) (upd H a (SetO X.w a (fun j => decide (j ∈ ns)) m))) := by
  intro pins s σ H xs us Q I r h
  obtain ⟨l, ns, rfl, hs, hb, q⟩ := h
  rw [Vals.ref1 r]
  obtain ⟨its, rv, pl, hz⟩ := I.list hs
  refine made_set ns (I.ok.hd hc) pl.isList (by rw [List.toList_toArray]; exact rv.ints) hb fun g k m hS hm hk => ?_
  have hn := I.hok.fresh (Nat.le_refl s.heap.objs.size)
  exact ⟨.ref _, upd H s.heap.objs.size (SetO X.w s.heap.objs.size (fun j => decide (j ∈ ns)) m), I.laid (t' := k) (fun b u e => hk b u e) (Nat.le_refl _) (setO_new hS), rfl, q _ m hn hm⟩
theorem dedI_mem : ∀ (l : List Int) (k : Int), k ∈ dedI l ↔ k ∈ l
  | [], k => Iff.rfl
  | x :: r, k => by
    have ih := dedI_mem r k
    unfold dedI
    cases e : dedI r with
    | nil =>
      rw [e] at ih
      show k ∈ [x] ↔ _
      rw [List.mem_cons, List.mem_cons, ih]
    | cons y t =>
      rw [e] at ih
      show k ∈ (if x = y then y :: t else x :: y :: t) ↔ _
      by_cases h : x = y
      · rw [if_pos h, ih, List.mem_cons]
        refine ⟨.inr, fun z => z.elim (fun z => ?_) _root_.id⟩
        rw [← ih, z, h]
        exact List.mem_cons_self
      · rw [if_neg h, List.mem_cons, ih, List.mem_cons]
theorem dedI_lt : ∀ {l : List Int}, l.Pairwise (· ≤ ·) → (dedI l).Pairwise (· < ·)
  | [], _ => .nil
  | x :: r, h => by
    obtain ⟨h1, h2⟩ := List.pairwise_cons.mp h
    have ih := dedI_lt h2
    unfold dedI
    cases e : dedI r with
    | nil => simp
    | cons y t =>
      rw [e] at ih
      by_cases hx : x = y
      · simp only [hx, if_true]; exact ih
      · simp only [hx, if_false]
        have hy : y ∈ r := (dedI_mem r y).mp (by rw [e]; exact List.mem_cons_self)
        have hxy : x < y := by have := h1 y hy; omega
        refine List.pairwise_cons.mpr ⟨fun z hz => ?_, ih⟩
        rcases List.mem_cons.mp hz with q | q
        · rw [q]; exact hxy
        · exact Int.lt_trans hxy ((List.pairwise_cons.mp ih).1 z q)
theorem lt_one : ∀ {x y : List Int}, x.Pairwise (· < ·) → y.Pairwise (· < ·) → (∀ k, k ∈ x ↔ k ∈ y) → x = y
  | [], [], _, _, _ => rfl
  | [], b :: y, _, _, h => by have := (h b).mpr List.mem_cons_self; simp at this
  | a :: x, [], _, _, h => by have := (h a).mp List.mem_cons_self; simp at this
  | a :: x, b :: y, hx, hy, h => by
    obtain ⟨x1, x2⟩ := List.pairwise_cons.mp hx
    obtain ⟨y1, y2⟩ := List.pairwise_cons.mp hy
    have e : a = b := by
      rcases List.mem_cons.mp ((h a).mp List.mem_cons_self) with e | e
      · exact e
      · rcases List.mem_cons.mp ((h b).mpr List.mem_cons_self) with e2 | e2
        · exact e2.symm
        · have := x1 b e2; have := y1 a e; omega
    subst e
    rw [lt_one x2 y2 fun k => ?_]
    constructor
    · intro hk
      rcases List.mem_cons.mp ((h k).mp (List.mem_cons_of_mem _ hk)) with q | q
      · have := x1 k hk; omega
      · exact q
    · intro hk
      rcases List.mem_cons.mp ((h k).mpr (List.mem_cons_of_mem _ hk)) with q | q
      · have := y1 k hk; omega
      · exact q
section
variable {c : Ctx} {p : Par} {k : Nat} {cf : CF} {X : Cx} {B Bl : List Nat}
theorem set_v : bootBuiltins ("set" : Str) = some (.type "set") ∧ bootBuiltins ("sorted" : Str) = some (.builtin "sorted") ∧ bootBuiltins ("list" : Str) = some (.type "list") := by decide +kernel
theorem ints_in {xs : List PV} {l : List Int} {K : PySem.W.Frag} {fa : Nat → Addr} {ρ : List Addr} {H : Hp} {vs : List V} (e : intsOf xs = some l) (r : PRels K fa ρ H xs vs) : vs = l.map V.int := by
  have := intsOf_eq e
  subst this
  exact r.ints
theorem texts_in {xs : List PV} {l : List (List Nat)} {K : PySem.W.Frag} {fa : Nat → Addr} {ρ : List Addr} {H : Hp} {vs : List V} (e : strsOf xs = some l) (r : PRels K fa ρ H xs vs) : vs = (l.map mkS).map V.str := by
  have := strsOf_eq e
  subst this
  rw [List.map_map]
  exact r.strs
theorem PRels.okS {K : PySem.W.Frag} {fa : Nat → Addr} {ρ : List Addr} {H : Hp} : ∀ {l : List (List Nat)} {vs : List V}, PRels K fa ρ H (l.map .str) vs → ∀ x ∈ l, PyI.okS x = true
  | [], _, _, x, hx => by simp at hx
  | y :: l, _, .cons h1 r, x, hx => by
    rcases List.mem_cons.mp hx with e | e
    · subst e
      cases h1 with
      | str _ h => exact h
    · exact PRels.okS r x e
theorem CallR.or {X : Cx} {f : Value} {r1 r2 : List V → Hp → VK → Prop} (h1 : CallR X f r1) (h2 : CallR X f r2) : CallR X f (fun xs H Q => r1 xs H Q ∨ r2 xs H Q) := by
  intro pins s σ H xs us Q I r h
  rcases h with h | h
  · exact h1 pins s σ H xs us Q I r h
  · exact h2 pins s σ H xs us Q I r h
theorem e_sset (g : GoodX c p k cf X) {a : E} {x : Expr} {p1 p2 q1 q2 : Pos} (h1 : ("sorted" : Str) ∈ c.free) (h2 : glC c.sc "sorted" = true) (h3 : ("set" : Str) ∈ c.free) (h4 : glC c.sc "set" = true) (hx : plainE x = true) (ha : PE X x (simE p cf B a)) :
    PE X (.Call (.Name "sorted" p1) [.Call (.Name "set" p2) [x] [] q2] [] q1) (simE p cf B (.sset a)) := by
  have hs := pe_callTy (p := p2) (pos := q2) (CallR.or (cr_setL g.calm) (CallR.or (cr_setLS g.calm) (cr_setTS g.calm))) (glC_ok g h4) (g.free _ h3) set_v.1 (pa_cons ha pa_nil (star_cons hx)) (by decide) (by decide) (star_cons hx) rfl
  refine PE.imp (pe_callB (CallR.or (cr_sortedSet g.calm) (cr_sortedSetS g.calm)) (glC_ok g h2) (g.free _ h1) set_v.2.1 (pa_cons hs pa_nil (star_cons rfl)) (by decide) (by decide) (star_cons rfl) rfl) ?_
  rintro σ H Q ⟨ρ, Y, ow, r, s, I, v, s', e, q⟩
  obtain ⟨va, s1, e1, f⟩ := Res.bind_eq_ok (show (ev cf a r s).bind _ = _ from e)
  obtain ⟨e2, rfl⟩ := Res.ofO_eq_ok f
  cases va with
  | lst xs =>
    have e2 : (match intsOf xs with
      | some l => if l.length < 64 then some (PV.lst ((dedI (sortI l)).map .int)) else none
      | none => (match strsOf xs with
        | some l => if l.length < 1000 then some (PV.lst ((dedS (sortS l)).map .str)) else none
        | none => none)) = some v := e2
    cases e3 : intsOf xs with
    | none =>
      rw [e3] at e2
      cases e4 : strsOf xs with
      | none => rw [e4] at e2; cases e2
      | some l =>
        rw [e4] at e2
        have e2 : (if l.length < 1000 then some (PV.lst ((dedS (sortS l)).map .str)) else none) = some v := e2
        split at e2
        · rename_i h64
          cases e2
          refine ⟨ρ, Y, ow, r, s, I, _, s', e1, fun u H1 ρ1 t1 st1 r1 _ => ?_⟩
          have I1 := I.step t1 st1
          cases r1 with
          | lst h rr =>
            have ev := texts_in e4 rr
            have ok : ∀ x ∈ l, PyI.okS x = true := by
              have := strsOf_eq e4
              subst this
              exact PRels.okS rr
            subst ev
            refine .inr (.inl ⟨_, l.map mkS, rfl, SqL.of (fz_same _ _ h), by rw [List.length_map]; unfold scanBound; omega, fun a m hn hm => ?_⟩)
            rw [List.length_map] at hm
            refine .inr ⟨a, _, m, rfl, upd_same, by unfold scanBound; omega, fun ys z hs hnd hmem hlen hz => ?_⟩
            have e5 := sset_one (l := l) hs hnd fun j => by rw [hmem j]; simp
            rw [e5]
            have t2 : Step ρ1 H1 ρ1 (upd H1 a (SetSO X a (fun j => decide (j ∈ l.map mkS)) m)) := Step.laid hn
            have st2 := st1.same (same_updN (o := SetSO X a (fun j => decide (j ∈ l.map mkS)) m) hn)
            have I2 := I1.step t2 st2
            have q2 := PRels.of_strs (K := p.K) (fa := p.fa) (ρ := ρ1) (H := fz (Mt Y ρ1) (upd H1 a (SetSO X a (fun j => decide (j ∈ l.map mkS)) m))) (dedS (sortS l)) fun x hx => ok x ((sortS_perm l).mem_iff.mp ((dedS_mem _ _).mp hx))
            rw [List.map_map]
            exact (q.gv (t1.trans t2) st2).lst (fun b h => I2.there h) q2 z hz
        · cases e2
    | some l =>
      rw [e3] at e2
      have e2 : (if l.length < 64 then some (PV.lst ((dedI (sortI l)).map .int)) else none) = some v := e2
      split at e2
      · rename_i h64
        cases e2
        refine ⟨ρ, Y, ow, r, s, I, _, s', e1, fun u H1 ρ1 t1 st1 r1 _ => ?_⟩
        have I1 := I.step t1 st1
        cases r1 with
        | lst h rr =>
          have := ints_in e3 rr
          subst this
          refine .inl ⟨_, l, rfl, SqL.of (fz_same _ _ h), by unfold scanBound; omega, fun a m hn hm => ?_⟩
          refine .inl ⟨a, _, m, rfl, upd_same, by omega, fun ns z hlt hmem hlen hz => ?_⟩
          have e4 : ns = dedI (sortI l) := lt_one hlt (dedI_lt (sortI_le l)) fun j => by
            rw [hmem j, dedI_mem, (sortI_perm l).mem_iff]
            simp
          rw [e4]
          have t2 : Step ρ1 H1 ρ1 (upd H1 a (SetO X.w a (fun j => decide (j ∈ l)) m)) := Step.laid hn
          have st2 := st1.same (same_updN (o := SetO X.w a (fun j => decide (j ∈ l)) m) hn)
          have I2 := I1.step t2 st2
          exact (q.gv (t1.trans t2) st2).lst (fun b h => I2.there h) (PRels.of_ints _) z hz
      · cases e2
  | tup xs =>
    have e2 : (match strsOf xs with
      | some l => if l.length < 1000 then some (PV.lst ((dedS (sortS l)).map .str)) else none
      | none => none) = some v := e2
    cases e4 : strsOf xs with
    | none => rw [e4] at e2; cases e2
    | some l =>
      rw [e4] at e2
      have e2 : (if l.length < 1000 then some (PV.lst ((dedS (sortS l)).map .str)) else none) = some v := e2
      split at e2
      · rename_i h64
        cases e2
        refine ⟨ρ, Y, ow, r, s, I, _, s', e1, fun u H1 ρ1 t1 st1 r1 _ => ?_⟩
        have I1 := I.step t1 st1
        cases r1 with
        | tup h rr =>
          have ev := texts_in e4 rr
          have ok : ∀ x ∈ l, PyI.okS x = true := by
            have := strsOf_eq e4
            subst this
            exact PRels.okS rr
          subst ev
          refine .inr (.inr ⟨_, l.map mkS, rfl, by rw [g.K]; exact Same.sqT fz_same h, by rw [List.length_map]; unfold scanBound; omega, fun a m hn hm => ?_⟩)
          rw [List.length_map] at hm
          refine .inr ⟨a, _, m, rfl, upd_same, by unfold scanBound; omega, fun ys z hs hnd hmem hlen hz => ?_⟩
          have e5 := sset_one (l := l) hs hnd fun j => by rw [hmem j]; simp
          rw [e5]
          have t2 : Step ρ1 H1 ρ1 (upd H1 a (SetSO X a (fun j => decide (j ∈ l.map mkS)) m)) := Step.laid hn
          have st2 := st1.same (same_updN (o := SetSO X a (fun j => decide (j ∈ l.map mkS)) m) hn)
          have I2 := I1.step t2 st2
          have q2 := PRels.of_strs (K := p.K) (fa := p.fa) (ρ := ρ1) (H := fz (Mt Y ρ1) (upd H1 a (SetSO X a (fun j => decide (j ∈ l.map mkS)) m))) (dedS (sortS l)) fun x hx => ok x ((sortS_perm l).mem_iff.mp ((dedS_mem _ _).mp hx))
          rw [List.map_map]
          exact (q.gv (t1.trans t2) st2).lst (fun b h => I2.there h) q2 z hz
      · cases e2
  | _ => cases e2
theorem rangeL_map : ∀ (n : Nat) (i : Int), rangeL i n = ((List.range n).map fun m => i + (m : Nat)).map PV.int
  | 0, _ => rfl
  | n + 1, i => by
    show PV.int i :: rangeL (i + 1) n = _
    rw [rangeL_map n (i + 1), List.range_succ_eq_map, List.map_cons, List.map_cons]
    congr 1
    · simp
    · rw [List.map_map, List.map_map, List.map_map]
      apply List.map_congr_left
      intro m _
      show PV.int (i + 1 + (m : Nat)) = PV.int (i + ((m + 1 : Nat) : Int))
      congr 1
      omega
theorem rg_rels {K : PySem.W.Frag} {fa : Nat → Addr} {ρ : List Addr} {H : Hp} (i j : Int) : PRels K fa ρ H (rangeL i (j - i).toNat) (rgV i j) := by
  rw [rangeL_map]
  have := PRels.of_ints (K := K) (fa := fa) (ρ := ρ) (H := H) ((List.range (j - i).toNat).map fun m => i + (m : Nat))
  rw [List.map_map (f := fun m : Nat => i + (m : Nat)) (g := V.int)] at this
  exact this
theorem lrng_ok {v1 v2 v : PV} (h : lrngV v1 v2 = some v) : ∃ i j, v1 = .int i ∧ v2 = .int j ∧ RgOk i j ∧ v = .lst (rangeL i (j - i).toNat) := by
  unfold lrngV at h
  split at h
  · rename_i i j
    split at h
    · rename_i hc
      cases h
      simp only [Bool.and_eq_true, decide_eq_true_eq, lim62] at hc
      obtain ⟨⟨⟨c1, c2⟩, c3, c4⟩, c5⟩ := hc
      exact ⟨i, j, rfl, rfl, ⟨c1, c2, c3, c4, c5⟩, rfl⟩
    · cases h
  · cases h
theorem e_lrng1 (g : GoodX c p k cf X) {a : E} {x : Expr} {p1 p2 q1 q2 : Pos} (h1 : ("list" : Str) ∈ c.free) (h2 : glC c.sc "list" = true) (h3 : ("range" : Str) ∈ c.free) (h4 : glC c.sc "range" = true) (hx : plainE x = true) (ha : PE X x (simE p cf B a)) :
    PE X (.Call (.Name "list" p1) [.Call (.Name "range" p2) [x] [] q2] [] q1) (simE p cf B (.lrng1 a)) := by
  refine PE.imp (pe_listRg g.calm (glC_ok g h2) (g.free _ h1) (prg_1 (glC_ok g h4) (g.free _ h3) ha (star_cons hx)) (star_cons rfl)) ?_
  rintro σ H Q ⟨ρ, Y, ow, r, s, I, v, s', e, q⟩
  obtain ⟨va, s1, e1, f⟩ := Res.bind_eq_ok (show (ev cf a r s).bind _ = _ from e)
  obtain ⟨e2, rfl⟩ := Res.ofO_eq_ok f
  obtain ⟨i, j, ei, rfl, ok, rfl⟩ := lrng_ok e2
  cases ei
  refine ⟨ρ, Y, ow, r, s, I, _, s', e1, fun u H1 ρ1 t1 st1 r1 _ => ?_⟩
  have I1 := I.step t1 st1
  cases r1
  exact ⟨j, rfl, ok, (q.gv t1 st1).lst (fun b h => I1.there h) (rg_rels 0 j)⟩
theorem e_lrng2 (g : GoodX c p k cf X) {a b : E} {x y : Expr} {p1 p2 q1 q2 : Pos} (h1 : ("list" : Str) ∈ c.free) (h2 : glC c.sc "list" = true) (h3 : ("range" : Str) ∈ c.free) (h4 : glC c.sc "range" = true) (hx : plainE x = true) (hy : plainE y = true) (ha : PE X x (simE p cf B a)) (hb : PE X y (simE p cf B b)) :
    PE X (.Call (.Name "list" p1) [.Call (.Name "range" p2) [x, y] [] q2] [] q1) (simE p cf B (.lrng2 a b)) := by
  refine PE.imp (pe_listRg g.calm (glC_ok g h2) (g.free _ h1) (prg_2 (glC_ok g h4) (g.free _ h3) ha hb (star_cons hx) (star_cons hy) (star_any (by simp [hy]))) (star_cons rfl)) ?_
  rintro σ H Q ⟨ρ, Y, ow, r, s, I, v, s', e, q⟩
  obtain ⟨va, s1, e1, f⟩ := Res.bind_eq_ok (show (ev cf a r s).bind _ = _ from e)
  obtain ⟨vb, s2, e2, f2⟩ := Res.bind_eq_ok f
  obtain ⟨e3, rfl⟩ := Res.ofO_eq_ok f2
  obtain ⟨i, j, rfl, rfl, ok, rfl⟩ := lrng_ok e3
  refine ⟨ρ, Y, ow, r, s, I, _, s1, e1, fun u H1 ρ1 t1 st1 r1 _ => ?_⟩
  have I1 := I.step t1 st1
  refine ⟨ρ1, Y, ow, r, s1, I1, _, s', e2, fun u2 H2 ρ2 t2 st2 r2 _ => ?_⟩
  have I2 := I1.step t2 st2
  cases r1
  cases r2
  exact ⟨i, j, rfl, rfl, ok, (q.gv (t1.trans t2) st2).lst (fun b h => I2.there h) (rg_rels i j)⟩
theorem e_lcnt (g : GoodX c p k cf X) {a b : E} {o x : Expr} {apos pos : Pos} (hb : attributeBase o "count" X.env (eval o X.env) = eval o X.env) (hx : plainE x = true) (hl : (apos.endLine == pos.line) = true) (ho : PE X o (simE p cf B a)) (hs : PE X x (simE p cf B b)) :
    PE X (.Call (.Attribute o "count" apos) [x] [] pos) (simE p cf B (.lcnt a b)) := by
  have hx1 : [x].all plainE = true := by simp [hx]
  refine PE.imp (pe_bm F.plainAttrs_list F.slot_list_count F.type_list_count mt_lcount ho (pa_cons hs pa_nil (star_cons hx)) hb (few_ok hx1 (Nat.lt_of_sub_pos (by decide : 0 < 30 - 1))) hl (star_cons hx) rfl) ?_
  rintro σ H Q ⟨ρ, Y, ow, r, s, I, v, s', e, q⟩
  obtain ⟨va, s1, e1, f⟩ := Res.bind_eq_ok (show (ev cf a r s).bind _ = _ from e)
  obtain ⟨vb, s2, e2, f2⟩ := Res.bind_eq_ok f
  obtain ⟨e3, rfl⟩ := Res.ofO_eq_ok f2
  unfold lcntV at e3
  split at e3
  · rename_i xs kk
    cases e4 : intsOf xs with
    | none => rw [e4] at e3; cases e3
    | some l =>
      rw [e4] at e3
      cases e3
      refine ⟨ρ, Y, ow, r, s, I, _, s1, e1, fun u H1 ρ1 t1 st1 r1 _ => ?_⟩
      have I1 := I.step t1 st1
      cases r1 with
      | lst h rr =>
        have := ints_in e4 rr
        subst this
        refine ⟨.inl ⟨rfl, _, SqL.of (fz_same _ _ h)⟩, ρ1, Y, ow, r, s1, I1, _, s', e2, fun u2 H2 ρ2 t2 st2 r2 _ => ?_⟩
        cases r2
        have h2 := (fz_same _ _ ((I1.same t2) _ _ h))
        exact ⟨_, l, kk, rfl, rfl, SqL.of h2, (q.gv (t1.trans t2) st2).int⟩
  · cases e3
end
end PyI

set_option maxRecDepth 100000
/-! PyIM: len(set(xs)), xs.index(k). -/
namespace PyI
open PySem PySem.Spec PyProof.Rows L2
theorem call_lenSet {X : Cx} : CallR X (.builtin "len") (fun xs H Q => ∃ (a : Addr) (S : Int → Bool) (n : Nat), xs = [V.ref a] ∧ H a = some (SetO X.w a S n) ∧ ∀ ks : List Int, ks.Nodup → (∀ k, S k = true ↔ k ∈ ks) → ks.length = n → Q (.int (n : Nat)) H) := by
  intro pins s σ H xs us Q I r h
  obtain ⟨a, S, n, rfl, ha, q⟩ := h
  have R := setO_get I ha
  rw [Vals.ref1 r]
  obtain ⟨o, es, ep, t, ho, hex, hd, _, hnd, hS, hb, hf, hn, _⟩ := R
  refine call_len_set ho hex hd hf (by unfold scanBound at hb; omega) ⟨.int es.size, H, I.tok _, ⟨_, rfl⟩, ?_⟩
  have := q (es.toList.map keyOf) hnd hS (by rw [List.length_map, Array.length_toList]; exact hn)
  rw [← hn] at this
  exact this
section
variable {c : Ctx} {p : Par} {k : Nat} {cf : CF} {X : Cx} {B Bl : List Nat}
theorem len_v : bootBuiltins ("len" : Str) = some (.builtin "len") := by decide +kernel
theorem lt_nodup : ∀ {l : List Int}, l.Pairwise (· < ·) → l.Nodup := fun h => h.imp fun h => by omega
theorem nodup_len : ∀ {x y : List Int}, x.Nodup → y.Nodup → (∀ k, k ∈ x ↔ k ∈ y) → x.length = y.length := by
  have le : ∀ {x y : List Int}, x.Nodup → (∀ k, k ∈ x → k ∈ y) → x.length ≤ y.length := by
    intro x
    induction x with
    | nil => intro y _ _; exact Nat.zero_le _
    | cons a x ih =>
      intro y h hs
      rw [List.nodup_cons] at h
      have ha := hs a List.mem_cons_self
      have := ih (y := y.erase a) h.2 fun k hk => (List.mem_erase_of_ne (fun e => h.1 (by rw [← e]; exact hk))).mpr (hs k (List.mem_cons_of_mem _ hk))
      rw [List.length_erase_of_mem ha] at this
      have hp := List.length_pos_of_mem ha
      rw [List.length_cons]
      omega
  intro x y hx hy h
  exact Nat.le_antisymm (le hx fun k hk => (h k).mp hk) (le hy fun k hk => (h k).mpr hk)
theorem e_lenset (g : GoodX c p k cf X) {a : E} {x : Expr} {p1 p2 q1 q2 : Pos} (h1 : ("len" : Str) ∈ c.free) (h2 : glC c.sc "len" = true) (h3 : ("set" : Str) ∈ c.free) (h4 : glC c.sc "set" = true) (hx : plainE x = true) (ha : PE X x (simE p cf B a)) :
    PE X (.Call (.Name "len" p1) [.Call (.Name "set" p2) [x] [] q2] [] q1) (simE p cf B (.lenset a)) := by
  have hs := pe_callTy (p := p2) (pos := q2) (cr_setL g.calm) (glC_ok g h4) (g.free _ h3) set_v.1 (pa_cons ha pa_nil (star_cons hx)) (by decide) (by decide) (star_cons hx) rfl
  refine PE.imp (pe_callB call_lenSet (glC_ok g h2) (g.free _ h1) len_v (pa_cons hs pa_nil (star_cons rfl)) (by decide) (by decide) (star_cons rfl) rfl) ?_
  rintro σ H Q ⟨ρ, Y, ow, r, s, I, v, s', e, q⟩
  obtain ⟨va, s1, e1, f⟩ := Res.bind_eq_ok (show (ev cf a r s).bind _ = _ from e)
  obtain ⟨e2, rfl⟩ := Res.ofO_eq_ok f
  cases va with
  | lst xs =>
    have e2 : ((intsOf xs).bind fun l => if l.length < 1000 then some (PV.int ((dedI (sortI l)).length : Nat)) else none) = some v := e2
    cases e3 : intsOf xs with
    | none => rw [e3] at e2; cases e2
    | some l =>
      rw [e3] at e2
      have e2 : (if l.length < 1000 then some (PV.int ((dedI (sortI l)).length : Nat)) else none) = some v := e2
      split at e2
      · rename_i h64
        cases e2
        refine ⟨ρ, Y, ow, r, s, I, _, s', e1, fun u H1 ρ1 t1 st1 r1 _ => ?_⟩
        have I1 := I.step t1 st1
        cases r1 with
        | lst h rr =>
          have := ints_in e3 rr
          subst this
          refine ⟨_, l, rfl, SqL.of (fz_same _ _ h), by unfold scanBound; omega, fun a m hn hm => ?_⟩
          refine ⟨a, _, m, rfl, upd_same, fun ks hnd hS hl => ?_⟩
          have e4 : ks.length = (dedI (sortI l)).length := nodup_len hnd (lt_nodup (dedI_lt (sortI_le l))) fun j => by
            rw [← hS j, dedI_mem, (sortI_perm l).mem_iff]
            simp
          have e5 : m = (dedI (sortI l)).length := hl.symm.trans e4
          have t2 : Step ρ1 H1 ρ1 (upd H1 a (SetO X.w a (fun j => decide (j ∈ l)) m)) := Step.laid hn
          have st2 := st1.same (same_updN (o := SetO X.w a (fun j => decide (j ∈ l)) m) hn)
          have fin := (q.gv (t1.trans t2) st2).int
          rw [← e5] at fin
          exact fin
      · cases e2
  | _ => cases e2
/-! ### index -/
theorem flat_of {K : PySem.W.Frag} {fa : Nat → Addr} {ρ : List Addr} {H : Hp} {x : PV} {v : V} (h : isScal x = true) (r : PRel K fa ρ H x v) : flatV v = true := by
  cases r <;> first | rfl | cases h
theorem flats_of {K : PySem.W.Frag} {fa : Nat → Addr} {ρ : List Addr} {H : Hp} : ∀ {xs : List PV} {vs : List V}, xs.all isScal = true → PRels K fa ρ H xs vs → vs.all flatV = true
  | _, _, _, .nil => rfl
  | _, _, h, .cons r rr => by
    rw [List.all_cons, Bool.and_eq_true] at h ⊢
    exact ⟨flat_of h.1 r, flats_of h.2 rr⟩
theorem str_eqV (x y : List Nat) : ((⟨x.toArray⟩ : Str) == (⟨y.toArray⟩ : Str)) = (x == y) := by
  rw [Bool.eq_iff_iff, beq_iff_eq, beq_iff_eq]
  constructor
  · intro h
    have := congrArg (fun z : Str => z.cps.toList) h
    exact this
  · rintro rfl
    rfl
theorem eqV_of {K : PySem.W.Frag} {fa : Nat → Addr} {ρ ρ' : List Addr} {H H' : Hp} {x y : PV} {v u : V} (hx : isScal x = true) (hy : isScal y = true) (r : PRel K fa ρ H x v) (r2 : PRel K fa ρ' H' y u) : eqV v u = eqv x y := by
  cases r <;> cases r2 <;> first | rfl | (exact str_eqV _ _) | cases hx | cases hy
theorem idx_of {K : PySem.W.Frag} {fa : Nat → Addr} {ρ ρ' : List Addr} {H H' : Hp} {y : PV} {u : V} (hy : isScal y = true) (r2 : PRel K fa ρ' H' y u) : ∀ {xs : List PV} {vs : List V} {j : Nat}, xs.all isScal = true → PRels K fa ρ H xs vs → idxL y xs = some j →
    ∃ z, vs[j]? = some z ∧ eqV z u = true ∧ ∀ (m : Nat) (z' : V), m < j → vs[m]? = some z' → eqV z' u = false
  | _, _, j, _, .nil, e => by cases e
  | x :: xs, v :: vs, j, h, .cons r rr, e => by
    rw [List.all_cons, Bool.and_eq_true] at h
    have q := eqV_of h.1 hy r r2
    unfold idxL at e
    split at e
    · rename_i hq
      cases e
      exact ⟨v, rfl, by rw [q]; exact hq, fun m z' hm => absurd hm (Nat.not_lt_zero _)⟩
    · rename_i hq
      cases e2 : idxL y xs with
      | none => rw [e2] at e; cases e
      | some i =>
        rw [e2] at e
        cases e
        obtain ⟨z, h1, h2, h3⟩ := idx_of hy r2 h.2 rr e2
        refine ⟨z, h1, h2, fun m z' hm hz => ?_⟩
        cases m with
        | zero =>
          cases hz
          rw [q]
          simpa using hq
        | succ m => exact h3 m z' (Nat.lt_of_succ_lt_succ hm) hz
theorem e_lidx (g : GoodX c p k cf X) {a b : E} {o x : Expr} {apos pos : Pos} (hb : attributeBase o "index" X.env (eval o X.env) = eval o X.env) (hx : plainE x = true) (hl : (apos.endLine == pos.line) = true) (ho : PE X o (simE p cf B a)) (hs : PE X x (simE p cf B b)) :
    PE X (.Call (.Attribute o "index" apos) [x] [] pos) (simE p cf B (.lidx a b)) := by
  have hx1 : [x].all plainE = true := by simp [hx]
  refine PE.imp (pe_bm F.plainAttrs_list F.slot_list_index F.type_list_index mt_index ho (pa_cons hs pa_nil (star_cons hx)) hb (few_ok hx1 (Nat.lt_of_sub_pos (by decide : 0 < 30 - 1))) hl (star_cons hx) rfl) ?_
  rintro σ H Q ⟨ρ, Y, ow, r, s, I, v, s', e, q⟩
  obtain ⟨va, s1, e1, f⟩ := Res.bind_eq_ok (show (ev cf a r s).bind _ = _ from e)
  obtain ⟨vb, s2, e2, f2⟩ := Res.bind_eq_ok f
  obtain ⟨e3, rfl⟩ := Res.ofO_eq_ok f2
  unfold lidxV at e3
  split at e3
  · rename_i xs
    split at e3
    · rename_i hk
      rw [Bool.and_eq_true] at hk
      cases e4 : idxL vb xs with
      | none => rw [e4] at e3; cases e3
      | some j =>
        rw [e4] at e3
        cases e3
        refine ⟨ρ, Y, ow, r, s, I, _, s1, e1, fun u H1 ρ1 t1 st1 r1 _ => ?_⟩
        have I1 := I.step t1 st1
        cases r1 with
        | lst h rr =>
          refine ⟨.inl ⟨rfl, _, SqL.of (fz_same _ _ h)⟩, ρ1, Y, ow, r, s1, I1, _, s', e2, fun u2 H2 ρ2 t2 st2 r2 _ => ?_⟩
          have h2 := (fz_same _ _ ((I1.same t2) _ _ h))
          obtain ⟨z, z1, z2, z3⟩ := idx_of hk.2 r2 hk.1 rr e4
          exact ⟨_, _, _, j, z, rfl, rfl, SqL.of h2, flat_of hk.2 r2, flats_of hk.1 rr, z1, z2, z3, (q.gv (t1.trans t2) st2).int⟩
    · cases e3
  · cases e3
end
end PyI

set_option maxRecDepth 100000
/-! PyID: dict(xs) of a list of pairs, their keys texts. -/
namespace PyI
open PySem PySem.Spec PyProof.Rows L2
theorem dict_v : bootBuiltins ("dict" : Str) = some (.type "dict") := by decide +kernel
section
variable {X : Cx}
/-- the pairs, as they lie -/
theorem pairs_raw {pins : List (Addr × Obj)} {σ : L2.St} {H : Hp} {s : Shared} (I : L2.Inv X pins σ H s) : ∀ {kvs : List (L2.Key × V)} {as : List V} {its : List Value}, L2.Vals as its → as.length = kvs.length → (∀ (j : Nat) k v, kvs[j]? = some (k, v) → ∃ b, as[j]? = some (V.ref b) ∧ SqT X.K H b [L2.kV k, v]) →
    ∃ (vs : List (L2.Key × Value)) (ps : List (Value × Value)) (Ts : Nat → Addr), L2.KV kvs vs ∧ ps.length = its.length ∧ vs.length = its.length ∧ ∀ (j : Nat) u w, ps[j]? = some (u, w) → its[j]? = some (.ref (Ts j)) ∧ PairAt s.heap (Ts j) u w ∧ ∃ k, vs[j]? = some (k, w) ∧ (mixKind X.prog X.w).is k u = true
  | [], [], [], .nil, _, _ => ⟨[], [], fun _ => 0, .nil, rfl, rfl, fun j u w h => by simp at h⟩
  | (k, v) :: kvs, a :: as, u0 :: its, .cons ra rs, l, h => by
    obtain ⟨vs, ps, Ts, h1, h2, h3, h4⟩ := pairs_raw I rs (by simpa using l) (fun j k v e => by
      have := h (j + 1) k v (by simpa using e)
      simpa using this)
    obtain ⟨b, hb, hq⟩ := h 0 k v rfl
    have hb : a = .ref b := by simpa using hb
    subst hb
    obtain rfl : u0 = Value.ref b := ra
    obtain ⟨ts, rt, pl, _⟩ := I.tuple hq
    obtain ⟨u, w, rfl, ru, rw⟩ := L2.vals2 rt
    refine ⟨(k, w) :: vs, (u, w) :: ps, fun j => match j with | 0 => b | j + 1 => Ts j, .cons ⟨rfl, rw⟩ h1, by simp [h2], by simp [h3], fun j u' w' e => ?_⟩
    cases j with
    | zero =>
      have e : (u, w) = (u', w') := by simpa using e
      cases e
      exact ⟨rfl, .inl pl, k, rfl, L2.kV_is ru⟩
    | succ j =>
      obtain ⟨q1, q2, q3⟩ := h4 j u' w' (by simpa using e)
      exact ⟨by simpa using q1, q2, by simpa using q3⟩
theorem KV_keys : ∀ {kvs : List (L2.Key × V)} {vs : List (L2.Key × Value)}, L2.KV kvs vs → kvs.map (·.1) = vs.map (·.1)
  | [], [], .nil => rfl
  | _ :: _, _ :: _, .cons h r => by
    rw [List.map_cons, List.map_cons, h.1, KV_keys r]
/-- dict(xs), the keys once each -/
theorem cr_dict (hc : X.calm = true) : CallR X (.type "dict") (fun xs H Q => ∃ (l : Addr) (as : List V) (kvs : List (L2.Key × V)), xs = [V.ref l] ∧ SqL X.K H l as ∧ as.length = kvs.length ∧ kvs.length ≤ 1000 ∧ (kvs.map (·.1)).Nodup ∧
    (∀ (j : Nat) k v, kvs[j]? = some (k, v) → ∃ b, as[j]? = some (V.ref b) ∧ SqT X.K H b [L2.kV k, v]) ∧ ∀ p, H p = none → Q (.ref p) (upd H p (.dK kvs))) := by
  intro pins s σ H xs us Q I r h
  obtain ⟨l, as, kvs, rfl, hs, hl, hz, hnd, hp, q⟩ := h
  rw [Vals.ref1 r]
  have hh : X.A.handled = none := I.ok.hd hc
  have fin : ∀ (its : List Value), L2.Vals as its → ∀ T : String, (∀ (Ts : Nat → Addr) (ps : List (Value × Value)), ∃ (fp : List Addr) (OK : Heap → Prop), PairArg X.prog X.w T l fp [] ps.length (PairRel ps) OK ∧ (PairItems s.heap its.toArray Ts ps → OK s.heap)) →
      wpAny (model X.prog X.w) X.A (call (.type "dict") [.ref l]) (EP X pins σ Q) X.xe s := fun its rv T pa => by
    obtain ⟨vs, ps, Ts, h1, h2, h3, h4⟩ := pairs_raw I rv hl hp
    obtain ⟨fp, OK, P, ok⟩ := pa Ts ps
    have il : its.length = kvs.length := by rw [← rv.length, hl]
    have hn2 : (vs.map (·.1)).Nodup := by rw [← KV_keys h1]; exact hnd
    refine call_dict_pairs (knd := mixKind X.prog X.w) (kvs := vs) P hh (ok ⟨by rw [List.size_toArray, h2], fun j u w e => ?_⟩) ⟨by rw [h3, h2], fun j u w e => ?_⟩ (by rw [h2, il, sizeLine_eq]; omega) fun h' tk hd hk => ?_
    · obtain ⟨q1, q2, _⟩ := h4 j u w e
      exact ⟨by simpa using q1, q2⟩
    · exact (h4 j u w e).2.2
    · rw [merged_nil_of_nodup vs hn2] at hd
      have hf := I.hok.fresh (Nat.le_refl s.heap.objs.size)
      exact ⟨.ref _, upd H s.heap.objs.size (.dK kvs), I.laid (t' := tk) (fun b u e => hk b u (fun z => nomatch z) e) (Nat.le_refl _) (L2.dk_new (by rw [sizeLine_eq]; omega) (beq_eq_false_iff_ne.mpr (Ne.symm (Nat.ne_of_lt I.big))) h1 hd), rfl, q _ hf⟩
  obtain ⟨its, rv, pl, _⟩ := I.list hs
  refine fin its rv "list" fun Ts ps => ⟨_, _, PairArg.list l its.toArray Ts ps, fun pi => ⟨?_, pi⟩⟩
  obtain ⟨o, n, e, h1, h2, h3⟩ := pl
  exact ⟨o, n, e, h1, h2, h3⟩
end
/-! ### the pairs of a tree -/
theorem keyed_cons (k : Ky) (ks : List Ky) (v : V) (vs : List V) : keyed (k :: ks) (v :: vs) = (kyK k, v) :: keyed ks vs := rfl
theorem keyed_len : ∀ {ks : List Ky} {vs : List V}, ks.length = vs.length → (keyed ks vs).length = ks.length
  | [], [], _ => rfl
  | [], _ :: _, l => by cases l
  | _ :: _, [], l => by cases l
  | k :: ks, v :: vs, l => by
    rw [keyed_cons, List.length_cons, List.length_cons, keyed_len (by simpa using l)]
theorem keyed_keys : ∀ {ks : List Ky} {vs : List V}, ks.length = vs.length → (keyed ks vs).map (·.1) = ks.map kyK
  | [], [], _ => rfl
  | [], _ :: _, l => by cases l
  | _ :: _, [], l => by cases l
  | k :: ks, v :: vs, l => by
    rw [keyed_cons, List.map_cons, List.map_cons, keyed_keys (by simpa using l)]
theorem once_nodup : ∀ {ks : List Ky}, onceB ks = true → (ks.map kyK).Nodup
  | [], _ => List.nodup_nil
  | k :: ks, h => by
    have h : (!decide (k ∈ ks) && onceB ks) = true := h
    rw [Bool.and_eq_true, Bool.not_eq_true', decide_eq_false_iff_not] at h
    refine List.nodup_cons.mpr ⟨fun m => ?_, once_nodup h.2⟩
    obtain ⟨j, hj, e⟩ := List.mem_map.mp m
    have := key_inj.mp e
    subst this
    exact h.1 hj
theorem pairs_rel {K : PySem.W.Frag} {fa : Nat → Addr} {ρ : List Addr} {G : Hp} : ∀ {xs : List PV} {l : List (Ky × PV)} {vs : List V}, pairsL xs = some l → PRels K fa ρ G xs vs →
    ∃ us, PRels K fa ρ G (l.map (·.2)) us ∧ vs.length = l.length ∧ (l.map (·.1)).all okK = true ∧ ∀ (j : Nat) k v, (keyed (l.map (·.1)) us)[j]? = some (k, v) → ∃ b, vs[j]? = some (V.ref b) ∧ SqT K G b [L2.kV k, v]
  | [], l, _, e, .nil => by
    cases e
    exact ⟨[], .nil, rfl, rfl, fun j k v h => by simp [keyed] at h⟩
  | x :: xs, l, _, e, .cons (v := v0) (vs := vs) h r => by
    match x, e, h with
    | .tup [kx, y], e, h =>
      have e : ((kyP kx).bind fun k => (pairsL xs).map fun l => (k, y) :: l) = some l := e
      cases ek : kyP kx with
      | none => rw [ek] at e; cases e
      | some k =>
      rw [ek] at e
      have e : (pairsL xs).map (fun l => (k, y) :: l) = some l := e
      cases e0 : pairsL xs with
      | none => rw [e0] at e; cases e
      | some l0 =>
        rw [e0] at e
        cases e
        obtain ⟨us, q1, q2, q4, q3⟩ := pairs_rel e0 r
        cases h with
        | tup ht rt =>
          cases rt with
          | cons hk r2 =>
          cases r2 with
          | cons hy r3 =>
          cases r3
          rename_i kv u
          obtain ⟨hkv, hok⟩ := key_rel ek hk
          refine ⟨u :: us, .cons hy q1, by simp [q2], by rw [List.map_cons, List.all_cons, hok, q4]; rfl, fun j k' v' hj => ?_⟩
          rw [List.map_cons, keyed_cons] at hj
          cases j with
          | zero =>
            have hj : (kyK k, u) = (k', v') := by simpa using hj
            cases hj
            rw [← hkv]
            exact ⟨_, rfl, ht⟩
          | succ j =>
            obtain ⟨b, z1, z2⟩ := q3 j k' v' (by simpa using hj)
            exact ⟨b, by simpa using z1, z2⟩
section
variable {c : Ctx} {p : Par} {k : Nat} {cf : CF} {X : Cx} {B : List Nat}
theorem e_dict (g : GoodX c p k cf X) {a : E} {x : Expr} {p1 q1 : Pos} (h1 : ("dict" : Str) ∈ c.free) (h2 : glC c.sc "dict" = true) (hx : plainE x = true) (ha : PE X x (simE p cf B a)) :
    PE X (.Call (.Name "dict" p1) [x] [] q1) (simE p cf B (.dict a)) := by
  refine PE.imp (pe_callTy (cr_dict g.calm) (glC_ok g h2) (g.free _ h1) dict_v (pa_cons ha pa_nil (star_cons hx)) (by decide) (by decide) (star_cons hx) rfl) ?_
  rintro σ H Q ⟨ρ, Y, ow, r, s, I, v, s', e, q⟩
  obtain ⟨va, s1, e1, f⟩ := Res.bind_eq_ok (show (ev cf a r s).bind _ = _ from e)
  obtain ⟨e2, rfl⟩ := Res.ofO_eq_ok f
  cases va with
  | lst xs =>
    have e2 : ((pairsL xs).bind fun l => if (onceB (l.map (·.1)) && decide (l.length ≤ 1000)) = true then some (PV.dct (l.map (·.1)) (l.map (·.2))) else none) = some v := e2
    cases e3 : pairsL xs with
    | none => rw [e3] at e2; cases e2
    | some l =>
      rw [e3] at e2
      have e2 : (if (onceB (l.map (·.1)) && decide (l.length ≤ 1000)) = true then some (PV.dct (l.map (·.1)) (l.map (·.2))) else none) = some v := e2
      split at e2
      · rename_i hz
        rw [Bool.and_eq_true, decide_eq_true_eq] at hz
        cases e2
        refine ⟨ρ, Y, ow, r, s, I, _, s', e1, fun u H1 ρ1 t1 st1 r1 _ => ?_⟩
        have I1 := I.step t1 st1
        cases r1 with
        | lst h rr =>
          obtain ⟨us, k1, k2, k4, k3⟩ := pairs_rel e3 rr
          have kl : (l.map (·.1)).length = us.length := by rw [← k1.length, List.length_map, List.length_map]
          have kz := keyed_len kl
          rw [List.length_map] at kz
          refine ⟨_, _, keyed (l.map (·.1)) us, rfl, by rw [g.K]; exact SqL.of (fz_same _ _ h), by rw [k2, kz], by rw [kz]; exact hz.2, by rw [keyed_keys kl]; exact once_nodup hz.1, fun j k v hj => ?_, fun pa hp => ?_⟩
          · obtain ⟨b, z1, z2⟩ := k3 j k v hj
            exact ⟨b, z1, by rw [g.K]; exact Same.sqT fz_same z2⟩
          · have nM : ¬ Mt Y ρ1 pa := fun z => I1.there z hp
            have sm : Same (fz (Mt Y ρ1) H1) (fz (Mt Y ρ1) (upd H1 pa (.dK (keyed (l.map (·.1)) us)))) := fz_mono fun b o hn e => ⟨hn, same_updN hp b o e⟩
            refine (q.gv t1 st1) _ _ (same_updN hp) (.dct ?_ kl k4 (k1.mono List.prefix_rfl sm)) fun ys e => by cases e
            rw [fz_eq nM]
            exact upd_same
      · cases e2
  | _ => cases e2
end
end PyI

set_option maxRecDepth 100000
/-! PyI15: the checker: which tree an expression of the text is. -/
namespace PyI
open PySem PySem.Spec PyProof.Rows L2

def strOf (x : List Nat) : Str := ⟨x.toArray⟩
mutual
def sameV : PV → PV → Bool
  | .non, .non => true
  | .bl a, .bl b => a == b
  | .int i, .int j => i == j
  | .str x, .str y => x == y
  | .tup x, .tup y => sameVs x y
  | .lst x, .lst y => sameVs x y
  | _, _ => false
def sameVs : List PV → List PV → Bool
  | [], [] => true
  | x :: xs, y :: ys => sameV x y && sameVs xs ys
  | _, _ => false
end
mutual
theorem sameV_ok : ∀ {x y : PV}, sameV x y = true → x = y
  | .non, y, h => by cases y <;> first | rfl | (simp [sameV] at h)
  | .bl a, y, h => by cases y <;> simp [sameV] at h <;> simp [h]
  | .int a, y, h => by cases y <;> simp [sameV] at h <;> simp [h]
  | .str a, y, h => by cases y <;> simp [sameV] at h <;> simp [h]
  | .tup a, y, h => by
    cases y with
    | tup b => exact congrArg PV.tup (sameVs_ok (by simpa [sameV] using h))
    | _ => simp [sameV] at h
  | .lst a, y, h => by
    cases y with
    | lst b => exact congrArg PV.lst (sameVs_ok (by simpa [sameV] using h))
    | _ => simp [sameV] at h
  | .fn _, y, h => by simp [sameV] at h
  | .loc _, y, h => by simp [sameV] at h
  | .scr _, y, h => by simp [sameV] at h
  | .dct _ _, y, h => by simp [sameV] at h
theorem sameVs_ok : ∀ {x y : List PV}, sameVs x y = true → x = y
  | [], [], _ => rfl
  | [], _ :: _, h => by simp [sameVs] at h
  | _ :: _, [], h => by simp [sameVs] at h
  | x :: xs, y :: ys, h => by
    have h' : sameV x y = true ∧ sameVs xs ys = true := by simpa [sameVs] using h
    rw [sameV_ok h'.1, sameVs_ok h'.2]
end
/-- constants -/
def chkCon (c : Ctx) (v : PV) (x : Expr) : Bool := match x with
  | .Constant k _ _ => (match v, k with
    | .non, .none => true
    | .bl b, .bool d => b == d
    | .int i, .int j => i == j
    | .str s, .str z => decide (strOf s = z) && okS s
    | _, _ => false)
  | .Name y _ => glC c.sc y && plainN y && (match v with
    | .fn i => decide (c.fns.lookup y = some i)
    | v => (match c.cons.lookup y with
      | some w => sameV v w
      | none => false))
  | _ => false
def isNonE (e : E) : Bool := match e with
  | .con .non => true
  | _ => false
theorem isNonE_ok {e : E} (h : isNonE e = true) : e = .con .non := by
  unfold isNonE at h
  split at h
  · rfl
  · cases h
def isNop (o : CmpO) : Bool := match o with
  | .isN | .isNotN => true
  | _ => false
/-- not a set's display -/
def noSet (x : Expr) : Bool := match x with
  | .Set _ _ _ => false
  | _ => true
theorem noSet_ok {x : Expr} (h : noSet x = true) (v : Value) (env : PySem.Env) : foldedSetIterable x env v = pure v := by
  cases x <;> first | rfl | cases h
/-- its test asks its value -/
def valF (x : Expr) : Bool := match x with
  | .UnaryOp .Not _ _ => false
  | .BoolOp _ _ _ => false
  | .IfExp _ _ _ _ => false
  | .Compare _ _ _ _ => false
  | _ => true
theorem valF_ok {x : Expr} {env : PySem.Env} (h : valF x = true) (whole : Sem Value) : isTrue x env whole = (do let v ← whole; standAt x.pos; holding [v] (truthy v)) := by
  cases x with
  | UnaryOp op y pos => cases op <;> first | rfl | cases h
  | BoolOp _ _ _ => cases h
  | IfExp _ _ _ _ => cases h
  | Compare _ _ _ _ => cases h
  | _ => rfl
/-- the base of a method -/
def plainB (x : Expr) : Bool := match x with
  | .Call _ [] _ _ => false
  | _ => true
theorem plainB_ok {x : Expr} {n : Str} {env : PySem.Env} {w : Sem Value} (h : plainB x = true) : attributeBase x n env w = w := by
  cases x with
  | Call f args kws pos =>
    cases args with
    | nil => cases h
    | cons a as => cases f <;> rfl
  | _ => rfl
def ownL (N : List Str) (vs : List Nat) : List (Str × Nat) := vs.map fun i => ((N[i]?).getD ⟨#[]⟩, i)
theorem ownL_snd (N : List Str) : ∀ vs : List Nat, (ownL N vs).map (·.2) = vs
  | [] => rfl
  | v :: vs => congrArg (v :: ·) (ownL_snd N vs)

mutual
def chkE : E → Ctx → List Nat → Expr → Bool
  | .con v, c, _, x => chkCon c v x
  | .var i, c, B, x => (match x with
    | .Name y _ => decide (c.N[i]? = some y) && visC c.sc y && plainN y && !B.contains i
    | _ => false)
  | .bin o a b, c, B, x => (match x with
    | .BinOp x op y _ => decide (op = binOp o) && chkE a c B x && chkE b c B y
    | _ => false)
  | .un o a, c, B, x => (match x with
    | .UnaryOp op x _ => decide (op = unOp o) && chkE a c B x
    | _ => false)
  | .cmp o a b, c, B, x => (match x with
    | .Compare x [op] [y] _ => decide (op = cmpOp o) && !behindInMarks (cmpOp o) y && (!isNop o || isNonE b) && chkE a c B x && chkE b c B y
    | _ => false)
  | .chain o o2 a b d, c, B, x => (match x with
    | .Compare x [op, op2] [y, z] _ => decide (op = cmpOp o) && decide (op2 = cmpOp o2) && !lastMarks [cmpOp o, cmpOp o2] [y, z] && !isNop o && !isNop o2 && chkE a c B x && chkE b c B y && chkE d c B z
    | _ => false)
  | .and a b, c, B, x => (match x with
    | .BoolOp op (x :: y :: rest) pos => decide (op = .And) && chkE a c B x && (match rest with
      | [] => chkE b c B y
      | z :: r => chkE b c B (.BoolOp .And (y :: z :: r) pos))
    | _ => false)
  | .or a b, c, B, x => (match x with
    | .BoolOp op (x :: y :: rest) pos => decide (op = .Or) && chkE a c B x && (match rest with
      | [] => chkE b c B y
      | z :: r => chkE b c B (.BoolOp .Or (y :: z :: r) pos))
    | _ => false)
  | .not a, c, B, x => (match x with
    | .UnaryOp op x _ => decide (op = .Not) && chkE a c B x
    | _ => false)
  | .ite d a b, c, B, x => (match x with
    | .IfExp z x y _ => chkE d c B z && chkE a c B x && chkE b c B y
    | _ => false)
  | .tup es, c, B, x => (match x with
    | .Tuple xs _ _ => chkEs es c B xs
    | _ => false)
  | .lst es, c, B, x => (match x with
    | .List xs _ => chkEs es c B xs
    | _ => false)
  | .newP es, c, B, x => (match x with
    | .List xs _ => chkEs es c B xs
    | _ => false)
  | .sub a i, c, B, x => (match x with
    | .Subscript x y _ => plainI y && chkE a c B x && chkE i c B y
    | _ => false)
  | .slice a lo hi, c, B, x => (match x with
    | .Subscript x (.Slice l h st _) _ => (match st with | none => true | _ => false) && chkE a c B x && (match l with
      | none => isNonE lo
      | some y => !isNonE lo && chkE lo c B y) && (match h with
      | none => isNonE hi
      | some y => !isNonE hi && chkE hi c B y)
    | _ => false)
  | .call f es, c, B, x => (match x with
    | .Call (.Name y _) xs [] _ => decide (c.fns.lookup y = some f) && glC c.sc y && plainN y && xs.all plainE && chkEs es c B xs
    | _ => false)
  | .blt b es, c, B, x => (match x with
    | .Call (.Name y _) (x :: xs) [] _ => decide (y = bltN b) && c.free.contains y && glC c.sc y && (x :: xs).all plainE && chkEs es c B (x :: xs)
    | _ => false)
  | .isin a t, c, B, x => (match x with
    | .Call (.Name y _) [x, .Name z _] [] _ => decide (y = "isinstance") && decide (z = tyS t) && c.free.contains y && glC c.sc y && c.free.contains z && glC c.sc z && plainE x && chkE a c B x
    | _ => false)
  | .meth m a es, c, B, x => (match x with
    | .Call (.Attribute o n apos) (x :: xs) [] pos => decide (n = methN m) && plainB o && (x :: xs).all plainE && decide ((x :: xs).length < 30) && (apos.endLine == pos.line) && chkE a c B o && chkEs es c B (x :: xs)
    | _ => false)
  | .step a lo hi, c, B, x => (match x with
    | .Subscript x (.Slice l h (some (.UnaryOp op (.Constant (.int one) _ _) _)) _) _ => decide (op = .USub) && decide (one = 1) && chkE a c B x && (match l with
      | none => isNonE lo
      | some y => !isNonE lo && chkE lo c B y) && (match h with
      | none => isNonE hi
      | some y => !isNonE hi && chkE hi c B y)
    | _ => false)
  | .sset a, c, B, x => (match x with
    | .Call (.Name y _) [.Call (.Name z _) [x] [] _] [] _ => decide (y = "sorted") && decide (z = "set") && c.free.contains y && glC c.sc y && c.free.contains z && glC c.sc z && plainE x && chkE a c B x
    | _ => false)
  | .lrng1 a, c, B, x => (match x with
    | .Call (.Name y _) [.Call (.Name z _) [x] [] _] [] _ => decide (y = "list") && decide (z = "range") && c.free.contains y && glC c.sc y && c.free.contains z && glC c.sc z && plainE x && chkE a c B x
    | _ => false)
  | .lrng2 a b, c, B, x => (match x with
    | .Call (.Name y _) [.Call (.Name z _) [x, w] [] _] [] _ => decide (y = "list") && decide (z = "range") && c.free.contains y && glC c.sc y && c.free.contains z && glC c.sc z && plainE x && plainE w && chkE a c B x && chkE b c B w
    | _ => false)
  | .lenset a, c, B, x => (match x with
    | .Call (.Name y _) [.Call (.Name z _) [x] [] _] [] _ => decide (y = "len") && decide (z = "set") && c.free.contains y && glC c.sc y && c.free.contains z && glC c.sc z && plainE x && chkE a c B x
    | _ => false)
  | .tzip a b, c, B, x => (match x with
    | .Call (.Name y _) [.Call (.Name z _) [x, w] [] _] [] _ => decide (y = "tuple") && decide (z = "zip") && c.free.contains y && glC c.sc y && c.free.contains z && glC c.sc z && plainE x && plainE w && chkE a c B x && chkE b c B w
    | _ => false)
  | .dict a, c, B, x => (match x with
    | .Call (.Name y _) [x] [] _ => decide (y = "dict") && c.free.contains y && glC c.sc y && plainE x && chkE a c B x
    | _ => false)
  | .lidx a b, c, B, x => (match x with
    | .Call (.Attribute o n apos) [x] [] pos => decide (n = "index") && plainB o && plainE x && (apos.endLine == pos.line) && chkE a c B o && chkE b c B x
    | _ => false)
  | .lcnt a b, c, B, x => (match x with
    | .Call (.Attribute o n apos) [x] [] pos => decide (n = "count") && plainB o && plainE x && (apos.endLine == pos.line) && chkE a c B o && chkE b c B x
    | _ => false)
  | .lend is e, c, B, x => chkE e c (B.filter fun i => !is.contains i) x
  | .comp vs t it cd e, c, B, x => (match x with
    | .ListComp elt [⟨tg, iter, ifs, az⟩] scope _ => decide (az = 0) && chkI it c B tg iter && blkC c.N c.sc scope (ownL c.N vs) && vs.all (fun i => !B.contains i) && (slots t).all (fun i => vs.contains i) && chkTg (blkCtx c scope) t tg && noSet iter &&
        (match ifs with | [] => (match cd with | .con (.bl true) => true | _ => false) | [z] => chkE cd (blkCtx c scope) B z | _ => false) && chkE e (blkCtx c scope) B elt
    | _ => false)
  | .comp2 vs vs1 t it cd t1 it1 cd1 e, c, B, x => (match x with
    | .ListComp elt [⟨tg, iter, ifs, az⟩, ⟨tg1, iter1, ifs1, az1⟩] scope _ => decide (az = 0) && decide (az1 = 0) && chkI it c B tg iter && blkC c.N c.sc scope (ownL c.N vs) && vs.all (fun i => !B.contains i) && (slots t).all (fun i => vs.contains i) && chkTg (blkCtx c scope) t tg && noSet iter &&
        vs1.all (fun i => vs.contains i) && (slots t1).all (fun i => vs1.contains i) && chkTg (blkCtx c scope) t1 tg1 && noSet iter1 &&
        (match ifs with | [] => (match cd with | .con (.bl true) => true | _ => false) | [z] => chkE cd (blkCtx c scope) B z | _ => false) &&
        (match ifs1 with | [] => (match cd1 with | .con (.bl true) => true | _ => false) | [z] => chkE cd1 (blkCtx c scope) B z | _ => false) && chkI it1 (blkCtx c scope) B tg1 iter1 && chkE e (blkCtx c scope) B elt
    | _ => false)
def chkEs : Es → Ctx → List Nat → List Expr → Bool
  | .nil, _, _, xs => xs.isEmpty
  | .cons e es, c, B, xs => (match xs with
    | x :: xs => plainE x && chkE e c B x && chkEs es c B xs
    | [] => false)
def chkI : It → Ctx → List Nat → Expr → Expr → Bool
  | .seq e, c, B, _, x => chkE e c B x
  | .range1 a, c, B, _, x => (match x with
    | .Call (.Name y _) [x] [] _ => decide (y = "range") && c.free.contains y && glC c.sc y && plainE x && chkE a c B x
    | _ => false)
  | .range2 a b, c, B, _, x => (match x with
    | .Call (.Name y _) [x, z] [] _ => decide (y = "range") && c.free.contains y && glC c.sc y && plainE x && plainE z && chkE a c B x && chkE b c B z
    | _ => false)
  | .range3 a b d, c, B, _, x => (match x with
    | .Call (.Name y _) [x, z, w] [] _ => decide (y = "range") && c.free.contains y && glC c.sc y && plainE x && plainE z && plainE w && chkE a c B x && chkE b c B z && chkE d c B w
    | _ => false)
  | .enum e, c, B, tg, x => (match tg, x with
    | .Tuple _ _ _, .Call (.Name y _) [x] [] _ => decide (y = "enumerate") && c.free.contains y && glC c.sc y && plainE x && chkE e c B x
    | _, _ => false)
  | .enum2 e i, c, B, tg, x => (match tg, x with
    | .Tuple _ _ _, .Call (.Name y _) [x, z] [] _ => decide (y = "enumerate") && c.free.contains y && glC c.sc y && plainE x && plainE z && chkE e c B x && chkE i c B z
    | _, _ => false)
  | .zip a b, c, B, tg, x => (match tg, x with
    | .Tuple _ _ _, .Call (.Name y _) [x, z] [] _ => decide (y = "zip") && c.free.contains y && glC c.sc y && plainE x && plainE z && chkE a c B x && chkE b c B z
    | .Name _ _, .Call (.Name y _) [x, z] [] _ => decide (y = "zip") && c.free.contains y && glC c.sc y && plainE x && plainE z && chkE a c B x && chkE b c B z
    | _, _ => false)
end
theorem chkE_con {v} (c : Ctx) (B : List Nat) (x : Expr) : chkE (.con v) c B x = chkCon c v x := rfl
theorem chkE_var {i} (c : Ctx) (B : List Nat) (x : Expr) : chkE (.var i) c B x = (match x with
    | .Name y _ => decide (c.N[i]? = some y) && visC c.sc y && plainN y && !B.contains i
    | _ => false) := rfl
theorem chkE_bin {o a b} (c : Ctx) (B : List Nat) (x : Expr) : chkE (.bin o a b) c B x = (match x with
    | .BinOp x op y _ => decide (op = binOp o) && chkE a c B x && chkE b c B y
    | _ => false) := rfl
theorem chkE_un {o a} (c : Ctx) (B : List Nat) (x : Expr) : chkE (.un o a) c B x = (match x with
    | .UnaryOp op x _ => decide (op = unOp o) && chkE a c B x
    | _ => false) := rfl
theorem chkE_cmp {o a b} (c : Ctx) (B : List Nat) (x : Expr) : chkE (.cmp o a b) c B x = (match x with
    | .Compare x [op] [y] _ => decide (op = cmpOp o) && !behindInMarks (cmpOp o) y && (!isNop o || isNonE b) && chkE a c B x && chkE b c B y
    | _ => false) := rfl
theorem chkE_chain {o o2 a b d} (c : Ctx) (B : List Nat) (x : Expr) : chkE (.chain o o2 a b d) c B x = (match x with
    | .Compare x [op, op2] [y, z] _ => decide (op = cmpOp o) && decide (op2 = cmpOp o2) && !lastMarks [cmpOp o, cmpOp o2] [y, z] && !isNop o && !isNop o2 && chkE a c B x && chkE b c B y && chkE d c B z
    | _ => false) := rfl
theorem chkE_and {a b} (c : Ctx) (B : List Nat) (x : Expr) : chkE (.and a b) c B x = (match x with
    | .BoolOp op (x :: y :: rest) pos => decide (op = .And) && chkE a c B x && (match rest with
      | [] => chkE b c B y
      | z :: r => chkE b c B (.BoolOp .And (y :: z :: r) pos))
    | _ => false) := rfl
theorem chkE_or {a b} (c : Ctx) (B : List Nat) (x : Expr) : chkE (.or a b) c B x = (match x with
    | .BoolOp op (x :: y :: rest) pos => decide (op = .Or) && chkE a c B x && (match rest with
      | [] => chkE b c B y
      | z :: r => chkE b c B (.BoolOp .Or (y :: z :: r) pos))
    | _ => false) := rfl
theorem chkE_not {a} (c : Ctx) (B : List Nat) (x : Expr) : chkE (.not a) c B x = (match x with
    | .UnaryOp op x _ => decide (op = .Not) && chkE a c B x
    | _ => false) := rfl
theorem chkE_ite {d a b} (c : Ctx) (B : List Nat) (x : Expr) : chkE (.ite d a b) c B x = (match x with
    | .IfExp z x y _ => chkE d c B z && chkE a c B x && chkE b c B y
    | _ => false) := rfl
theorem chkE_tup {es} (c : Ctx) (B : List Nat) (x : Expr) : chkE (.tup es) c B x = (match x with
    | .Tuple xs _ _ => chkEs es c B xs
    | _ => false) := rfl
theorem chkE_lst {es} (c : Ctx) (B : List Nat) (x : Expr) : chkE (.lst es) c B x = (match x with
    | .List xs _ => chkEs es c B xs
    | _ => false) := rfl
theorem chkE_newP {es} (c : Ctx) (B : List Nat) (x : Expr) : chkE (.newP es) c B x = (match x with
    | .List xs _ => chkEs es c B xs
    | _ => false) := rfl
theorem chkE_sub {a i} (c : Ctx) (B : List Nat) (x : Expr) : chkE (.sub a i) c B x = (match x with
    | .Subscript x y _ => plainI y && chkE a c B x && chkE i c B y
    | _ => false) := rfl
theorem chkE_slice {a lo hi} (c : Ctx) (B : List Nat) (x : Expr) : chkE (.slice a lo hi) c B x = (match x with
    | .Subscript x (.Slice l h st _) _ => (match st with | none => true | _ => false) && chkE a c B x && (match l with
      | none => isNonE lo
      | some y => !isNonE lo && chkE lo c B y) && (match h with
      | none => isNonE hi
      | some y => !isNonE hi && chkE hi c B y)
    | _ => false) := rfl
theorem chkE_call {f es} (c : Ctx) (B : List Nat) (x : Expr) : chkE (.call f es) c B x = (match x with
    | .Call (.Name y _) xs [] _ => decide (c.fns.lookup y = some f) && glC c.sc y && plainN y && xs.all plainE && chkEs es c B xs
    | _ => false) := rfl
theorem chkE_blt {b es} (c : Ctx) (B : List Nat) (x : Expr) : chkE (.blt b es) c B x = (match x with
    | .Call (.Name y _) (x :: xs) [] _ => decide (y = bltN b) && c.free.contains y && glC c.sc y && (x :: xs).all plainE && chkEs es c B (x :: xs)
    | _ => false) := rfl
theorem chkE_isin {a t} (c : Ctx) (B : List Nat) (x : Expr) : chkE (.isin a t) c B x = (match x with
    | .Call (.Name y _) [x, .Name z _] [] _ => decide (y = "isinstance") && decide (z = tyS t) && c.free.contains y && glC c.sc y && c.free.contains z && glC c.sc z && plainE x && chkE a c B x
    | _ => false) := rfl
theorem chkE_meth {m a es} (c : Ctx) (B : List Nat) (x : Expr) : chkE (.meth m a es) c B x = (match x with
    | .Call (.Attribute o n apos) (x :: xs) [] pos => decide (n = methN m) && plainB o && (x :: xs).all plainE && decide ((x :: xs).length < 30) && (apos.endLine == pos.line) && chkE a c B o && chkEs es c B (x :: xs)
    | _ => false) := rfl
theorem chkE_step {a lo hi} (c : Ctx) (B : List Nat) (x : Expr) : chkE (.step a lo hi) c B x = (match x with
    | .Subscript x (.Slice l h (some (.UnaryOp op (.Constant (.int one) _ _) _)) _) _ => decide (op = .USub) && decide (one = 1) && chkE a c B x && (match l with
      | none => isNonE lo
      | some y => !isNonE lo && chkE lo c B y) && (match h with
      | none => isNonE hi
      | some y => !isNonE hi && chkE hi c B y)
    | _ => false) := rfl
theorem chkE_sset {a} (c : Ctx) (B : List Nat) (x : Expr) : chkE (.sset a) c B x = (match x with
    | .Call (.Name y _) [.Call (.Name z _) [x] [] _] [] _ => decide (y = "sorted") && decide (z = "set") && c.free.contains y && glC c.sc y && c.free.contains z && glC c.sc z && plainE x && chkE a c B x
    | _ => false) := rfl
theorem chkE_lrng1 {a} (c : Ctx) (B : List Nat) (x : Expr) : chkE (.lrng1 a) c B x = (match x with
    | .Call (.Name y _) [.Call (.Name z _) [x] [] _] [] _ => decide (y = "list") && decide (z = "range") && c.free.contains y && glC c.sc y && c.free.contains z && glC c.sc z && plainE x && chkE a c B x
    | _ => false) := rfl
theorem chkE_lrng2 {a b} (c : Ctx) (B : List Nat) (x : Expr) : chkE (.lrng2 a b) c B x = (match x with
    | .Call (.Name y _) [.Call (.Name z _) [x, w] [] _] [] _ => decide (y = "list") && decide (z = "range") && c.free.contains y && glC c.sc y && c.free.contains z && glC c.sc z && plainE x && plainE w && chkE a c B x && chkE b c B w
    | _ => false) := rfl
theorem chkE_lenset {a} (c : Ctx) (B : List Nat) (x : Expr) : chkE (.lenset a) c B x = (match x with
    | .Call (.Name y _) [.Call (.Name z _) [x] [] _] [] _ => decide (y = "len") && decide (z = "set") && c.free.contains y && glC c.sc y && c.free.contains z && glC c.sc z && plainE x && chkE a c B x
    | _ => false) := rfl
theorem chkE_tzip {a b} (c : Ctx) (B : List Nat) (x : Expr) : chkE (.tzip a b) c B x = (match x with
    | .Call (.Name y _) [.Call (.Name z _) [x, w] [] _] [] _ => decide (y = "tuple") && decide (z = "zip") && c.free.contains y && glC c.sc y && c.free.contains z && glC c.sc z && plainE x && plainE w && chkE a c B x && chkE b c B w
    | _ => false) := rfl
theorem chkE_dict {a} (c : Ctx) (B : List Nat) (x : Expr) : chkE (.dict a) c B x = (match x with
    | .Call (.Name y _) [x] [] _ => decide (y = "dict") && c.free.contains y && glC c.sc y && plainE x && chkE a c B x
    | _ => false) := rfl
theorem chkE_lidx {a b} (c : Ctx) (B : List Nat) (x : Expr) : chkE (.lidx a b) c B x = (match x with
    | .Call (.Attribute o n apos) [x] [] pos => decide (n = "index") && plainB o && plainE x && (apos.endLine == pos.line) && chkE a c B o && chkE b c B x
    | _ => false) := rfl
theorem chkE_lcnt {a b} (c : Ctx) (B : List Nat) (x : Expr) : chkE (.lcnt a b) c B x = (match x with
    | .Call (.Attribute o n apos) [x] [] pos => decide (n = "count") && plainB o && plainE x && (apos.endLine == pos.line) && chkE a c B o && chkE b c B x
    | _ => false) := rfl
theorem chkE_lend {is e} (c : Ctx) (B : List Nat) (x : Expr) : chkE (.lend is e) c B x = chkE e c (B.filter fun i => !is.contains i) x := rfl
theorem chkE_comp {vs t it cd e} (c : Ctx) (B : List Nat) (x : Expr) : chkE (.comp vs t it cd e) c B x = (match x with
    | .ListComp elt [⟨tg, iter, ifs, az⟩] scope _ => decide (az = 0) && chkI it c B tg iter && blkC c.N c.sc scope (ownL c.N vs) && vs.all (fun i => !B.contains i) && (slots t).all (fun i => vs.contains i) && chkTg (blkCtx c scope) t tg && noSet iter &&
        (match ifs with | [] => (match cd with | .con (.bl true) => true | _ => false) | [z] => chkE cd (blkCtx c scope) B z | _ => false) && chkE e (blkCtx c scope) B elt
    | _ => false) := rfl
theorem chkE_comp2 {vs vs1 t it cd t1 it1 cd1 e} (c : Ctx) (B : List Nat) (x : Expr) : chkE (.comp2 vs vs1 t it cd t1 it1 cd1 e) c B x = (match x with
    | .ListComp elt [⟨tg, iter, ifs, az⟩, ⟨tg1, iter1, ifs1, az1⟩] scope _ => decide (az = 0) && decide (az1 = 0) && chkI it c B tg iter && blkC c.N c.sc scope (ownL c.N vs) && vs.all (fun i => !B.contains i) && (slots t).all (fun i => vs.contains i) && chkTg (blkCtx c scope) t tg && noSet iter &&
        vs1.all (fun i => vs.contains i) && (slots t1).all (fun i => vs1.contains i) && chkTg (blkCtx c scope) t1 tg1 && noSet iter1 &&
        (match ifs with | [] => (match cd with | .con (.bl true) => true | _ => false) | [z] => chkE cd (blkCtx c scope) B z | _ => false) &&
        (match ifs1 with | [] => (match cd1 with | .con (.bl true) => true | _ => false) | [z] => chkE cd1 (blkCtx c scope) B z | _ => false) && chkI it1 (blkCtx c scope) B tg1 iter1 && chkE e (blkCtx c scope) B elt
    | _ => false) := rfl
theorem chkEs_nil (c : Ctx) (B : List Nat) (xs : List Expr) : chkEs (.nil ) c B xs = xs.isEmpty := rfl
theorem chkEs_cons {e es} (c : Ctx) (B : List Nat) (xs : List Expr) : chkEs (.cons e es) c B xs = (match xs with
    | x :: xs => plainE x && chkE e c B x && chkEs es c B xs
    | [] => false) := rfl
theorem chkI_seq {e} (c : Ctx) (B : List Nat) (tg : Expr) (x : Expr) : chkI (.seq e) c B tg x = chkE e c B x := rfl
theorem chkI_range1 {a} (c : Ctx) (B : List Nat) (tg : Expr) (x : Expr) : chkI (.range1 a) c B tg x = (match x with
    | .Call (.Name y _) [x] [] _ => decide (y = "range") && c.free.contains y && glC c.sc y && plainE x && chkE a c B x
    | _ => false) := rfl
theorem chkI_range2 {a b} (c : Ctx) (B : List Nat) (tg : Expr) (x : Expr) : chkI (.range2 a b) c B tg x = (match x with
    | .Call (.Name y _) [x, z] [] _ => decide (y = "range") && c.free.contains y && glC c.sc y && plainE x && plainE z && chkE a c B x && chkE b c B z
    | _ => false) := rfl
theorem chkI_range3 {a b d} (c : Ctx) (B : List Nat) (tg : Expr) (x : Expr) : chkI (.range3 a b d) c B tg x = (match x with
    | .Call (.Name y _) [x, z, w] [] _ => decide (y = "range") && c.free.contains y && glC c.sc y && plainE x && plainE z && plainE w && chkE a c B x && chkE b c B z && chkE d c B w
    | _ => false) := rfl
theorem chkI_enum {e} (c : Ctx) (B : List Nat) (tg : Expr) (x : Expr) : chkI (.enum e) c B tg x = (match tg, x with
    | .Tuple _ _ _, .Call (.Name y _) [x] [] _ => decide (y = "enumerate") && c.free.contains y && glC c.sc y && plainE x && chkE e c B x
    | _, _ => false) := rfl
theorem chkI_enum2 {e i} (c : Ctx) (B : List Nat) (tg : Expr) (x : Expr) : chkI (.enum2 e i) c B tg x = (match tg, x with
    | .Tuple _ _ _, .Call (.Name y _) [x, z] [] _ => decide (y = "enumerate") && c.free.contains y && glC c.sc y && plainE x && plainE z && chkE e c B x && chkE i c B z
    | _, _ => false) := rfl
theorem chkI_zip {a b} (c : Ctx) (B : List Nat) (tg : Expr) (x : Expr) : chkI (.zip a b) c B tg x = (match tg, x with
    | .Tuple _ _ _, .Call (.Name y _) [x, z] [] _ => decide (y = "zip") && c.free.contains y && glC c.sc y && plainE x && plainE z && chkE a c B x && chkE b c B z
    | .Name _ _, .Call (.Name y _) [x, z] [] _ => decide (y = "zip") && c.free.contains y && glC c.sc y && plainE x && plainE z && chkE a c B x && chkE b c B z
    | _, _ => false) := rfl
end PyI

set_option maxRecDepth 100000
set_option maxHeartbeats 10000000
/-! PyI16: the checker's word is true. -/
namespace PyI
open PySem PySem.Spec PyProof.Rows L2

structure SndE (X : Cx) (p : Par) (cf : CF) (B : List Nat) (e : E) (x : Expr) : Prop where
  pe : PE X x (simE p cf B e)
  pt : PT X x (simT p cf B e)
  pw : ∀ op vs pos, x = .BoolOp op vs pos → PW X x (simT p cf B e)
section
variable {c : Ctx} {p : Par} {k : Nat} {cf : CF} {X : Cx} {B : List Nat}
def noBool (x : Expr) : Bool := match x with
  | .BoolOp _ _ _ => false
  | _ => true
theorem SndE.nb {e : E} {x : Expr} (h : PE X x (simE p cf B e)) (t : PT X x (simT p cf B e)) (hb : noBool x = true) : SndE X p cf B e x := ⟨h, t, fun op vs pos z => by subst z; cases hb⟩
theorem SndE.val {e : E} {x : Expr} (h : PE X x (simE p cf B e)) (hv : valF x = true) : SndE X p cf B e x :=
  SndE.nb h (t_val h (valF_ok hv)) (by cases x <;> first | rfl | cases hv)
theorem SndE.imp {e e' : E} {B' : List Nat} {x : Expr} (h : SndE X p cf B' e' x) (i : ∀ σ H Q, simE p cf B e σ H Q → simE p cf B' e' σ H Q) (j : ∀ σ H Q, simT p cf B e σ H Q → simT p cf B' e' σ H Q) : SndE X p cf B e x :=
  ⟨PE.imp h.pe i, PT.imp h.pt j, fun op vs pos z => PW.imp (h.pw op vs pos z) j⟩
theorem con_ok (g : GoodX c p k cf X) {v : PV} {x : Expr} (h : chkCon c v x = true) : SndE X p cf B (.con v) x := by
  unfold chkCon at h
  split at h
  · rename_i kk j pos
    refine SndE.val ?_ rfl
    split at h
    · exact e_con pe_non .non
    · have := eq_of_beq h
      subst this
      exact e_con pe_bl (.bl _)
    · have := eq_of_beq h
      subst this
      exact e_con pe_int (.int _)
    · simp only [Bool.and_eq_true, decide_eq_true_eq] at h
      obtain ⟨h1, h2⟩ := h
      subst h1
      exact e_con pe_str (.str _ h2)
    · cases h
  · rename_i y pos
    simp only [Bool.and_eq_true] at h
    obtain ⟨⟨h1, h2⟩, h3⟩ := h
    refine SndE.val ?_ rfl
    split at h3
    · rename_i i
      simp only [decide_eq_true_eq] at h3
      obtain ⟨m, _⟩ := g.fns y i h3
      exact e_con (pe_glob (v := V.ref (p.fa i)) (glC_ok g h1) m rfl (plainN_ok h2).1) (.fn i)
    · split at h3
      · rename_i w hw
        have := sameV_ok h3
        subst this
        obtain ⟨w, u, m, r, rr⟩ := g.cons y _ hw
        exact e_con (pe_glob (glC_ok g h1) m r (plainN_ok h2).1) rr
      · cases h3
  · cases h
/-- the test of a comprehension -/
theorem test_ok {ifs : List Expr} {cd : E} {c' : Ctx} {X' : Cx} (h : (match ifs with | [] => (match cd with | .con (.bl true) => true | _ => false) | [z] => chkE cd c' B z | _ => false) = true) (ih : ∀ z, chkE cd c' B z = true → SndE X' p cf B cd z) : PTs X' ifs (simT p cf B cd) := by
  split at h
  · split at h
    · exact ts_none
    · cases h
  · exact pts_one (ih _ h).pt
  · cases h
theorem notB {vs : List Nat} (h : vs.all (fun i => !B.contains i) = true) : ∀ i ∈ vs, i ∉ B := by simpa using h
theorem allIn {us vs : List Nat} (h : us.all (fun i => vs.contains i) = true) : ∀ i ∈ us, i ∈ vs := by simpa using h
theorem memC {l : List Str} {x : Str} (h : l.contains x = true) : x ∈ l := by simpa using h
theorem lend_read (is : List Nat) {e : E} {σ : L2.St} {H : Hp} {Q : Bool → Hp → Prop} (h : simT p cf B (.lend is e) σ H Q) : simT p cf (B.filter fun i => !is.contains i) e σ H Q := by
  obtain ⟨ρ, Y, ow, r, s, I, kk, s', e0, q⟩ := h
  obtain ⟨v, s1, e1, f⟩ := Res.bind_eq_ok e0
  obtain ⟨va, s2, e2, f2⟩ := Res.bind_eq_ok (show (ev cf e r s).bind _ = _ from e1)
  split at f2
  · cases f2
    exact ⟨ρ, _, _, r, s, I.lent is, kk, s', by rw [e2]; exact f, q⟩
  · cases f2
mutual
theorem chkE_ok : ∀ (e : E) {c : Ctx} {X : Cx} {B : List Nat} {x : Expr}, GoodX c p k cf X → chkE e c B x = true → SndE X p cf B e x
  | .con v, c, X, B, x, g, h => con_ok g h
  | .var i, c, X, B, x, g, h => by
    cases x with
    | Name y pos =>
      simp only [chkE_var, Bool.and_eq_true, decide_eq_true_eq, Bool.not_eq_true'] at h
      obtain ⟨⟨⟨h1, h2⟩, h3⟩, h4⟩ := h
      exact SndE.val (e_var g h1 h2 h3 (by simpa using h4)) rfl
    | _ => simp [chkE_var] at h
  | .bin o a b, c, X, B, x, g, h => by
    cases x with
    | BinOp x op y pos =>
      simp only [chkE_bin, Bool.and_eq_true, decide_eq_true_eq] at h
      obtain ⟨⟨h1, h2⟩, h3⟩ := h
      subst h1
      exact SndE.val (e_bin g (chkE_ok a g h2).pe (chkE_ok b g h3).pe) rfl
    | _ => simp [chkE_bin] at h
  | .un o a, c, X, B, x, g, h => by
    cases x with
    | UnaryOp op y pos =>
      simp only [chkE_un, Bool.and_eq_true, decide_eq_true_eq] at h
      obtain ⟨h1, h2⟩ := h
      subst h1
      exact SndE.val (e_un g (chkE_ok a g h2).pe) (by cases o; rfl)
    | _ => simp [chkE_un] at h
  | .cmp o a b, c, X, B, x, g, h => by
    cases x with
    | Compare x ops ys pos =>
      match ops, ys, h with
      | [op], [y], h =>
        simp only [chkE_cmp, Bool.and_eq_true, decide_eq_true_eq, Bool.not_eq_true', Bool.or_eq_true] at h
        obtain ⟨⟨⟨⟨h1, h2⟩, h3⟩, h4⟩, h5⟩ := h
        subst h1
        obtain ⟨q1, q2⟩ := e_cmp (pos := pos) g h2 (fun z => isNonE_ok (h3.resolve_left fun w => by rcases z with z | z <;> (subst z; cases w))) (chkE_ok a g h4).pe (chkE_ok b g h5).pe
        exact SndE.nb q1 q2 rfl
      | [], _, h => simp [chkE_cmp] at h
      | [_], [], h => simp [chkE_cmp] at h
      | [_], _ :: _ :: _, h => simp [chkE_cmp] at h
      | _ :: _ :: _, _, h => simp [chkE_cmp] at h
    | _ => simp [chkE_cmp] at h
  | .chain o o2 a b d, c, X, B, x, g, h => by
    cases x with
    | Compare x ops ys pos =>
      match ops, ys, h with
      | [op, op2], [y, z], h =>
        simp only [chkE_chain, Bool.and_eq_true, decide_eq_true_eq, Bool.not_eq_true'] at h
        obtain ⟨⟨⟨⟨⟨⟨⟨h1, h2⟩, h3⟩, h4⟩, h5⟩, h6⟩, h7⟩, h8⟩ := h
        subst h1
        subst h2
        obtain ⟨q1, q2⟩ := e_chain (pos := pos) g h3 ⟨fun z => by rcases z with z | z <;> (subst z; cases h4), fun z => by rcases z with z | z <;> (subst z; cases h5)⟩ (chkE_ok a g h6).pe (chkE_ok b g h7).pe (chkE_ok d g h8).pe
        exact SndE.nb q1 q2 rfl
      | [], _, h => simp [chkE_chain] at h
      | [_], _, h => simp [chkE_chain] at h
      | [_, _], [], h => simp [chkE_chain] at h
      | [_, _], [_], h => simp [chkE_chain] at h
      | [_, _], _ :: _ :: _ :: _, h => simp [chkE_chain] at h
      | _ :: _ :: _ :: _, _, h => simp [chkE_chain] at h
    | _ => simp [chkE_chain] at h
  | .and a b, c, X, B, x, g, h => by
    cases x with
    | BoolOp op xs pos =>
      match xs, h with
      | x :: y :: rest, h =>
        simp only [chkE_and, Bool.and_eq_true, decide_eq_true_eq] at h
        obtain ⟨⟨h1, h2⟩, h3⟩ := h
        subst h1
        have sa := chkE_ok a g h2
        have sb : PE X (.BoolOp .And (y :: rest) pos) (simE p cf B b) ∧ PW X (.BoolOp .And (y :: rest) pos) (simT p cf B b) := by
          cases rest with
          | nil => exact ⟨pe_one (chkE_ok b g h3).pe, pw_and1 (chkE_ok b g h3).pt⟩
          | cons z r => exact ⟨(chkE_ok b g h3).pe, (chkE_ok b g h3).pw _ _ _ rfl⟩
        obtain ⟨q1, q2⟩ := e_and1 sa.pe sa.pt sb.1 sb.2
        exact ⟨q1, q2.pt, fun _ _ _ _ => q2⟩
      | [], h => simp [chkE_and] at h
      | [_], h => simp [chkE_and] at h
    | _ => simp [chkE_and] at h
  | .or a b, c, X, B, x, g, h => by
    cases x with
    | BoolOp op xs pos =>
      match xs, h with
      | x :: y :: rest, h =>
        simp only [chkE_or, Bool.and_eq_true, decide_eq_true_eq] at h
        obtain ⟨⟨h1, h2⟩, h3⟩ := h
        subst h1
        have sa := chkE_ok a g h2
        have sb : PE X (.BoolOp .Or (y :: rest) pos) (simE p cf B b) ∧ PW X (.BoolOp .Or (y :: rest) pos) (simT p cf B b) := by
          cases rest with
          | nil => exact ⟨pe_one (chkE_ok b g h3).pe, pw_or1 (chkE_ok b g h3).pt⟩
          | cons z r => exact ⟨(chkE_ok b g h3).pe, (chkE_ok b g h3).pw _ _ _ rfl⟩
        obtain ⟨q1, q2⟩ := e_or1 sa.pe sa.pt sb.1 sb.2
        exact ⟨q1, q2.pt, fun _ _ _ _ => q2⟩
      | [], h => simp [chkE_or] at h
      | [_], h => simp [chkE_or] at h
    | _ => simp [chkE_or] at h
  | .not a, c, X, B, x, g, h => by
    cases x with
    | UnaryOp op y pos =>
      simp only [chkE_not, Bool.and_eq_true, decide_eq_true_eq] at h
      obtain ⟨h1, h2⟩ := h
      subst h1
      have sa := chkE_ok a g h2
      obtain ⟨q1, q2⟩ := e_not (pos := pos) sa.pt sa.pe
      exact SndE.nb q1 q2 rfl
    | _ => simp [chkE_not] at h
  | .ite d a b, c, X, B, x, g, h => by
    cases x with
    | IfExp z x y pos =>
      simp only [chkE_ite, Bool.and_eq_true] at h
      obtain ⟨⟨h1, h2⟩, h3⟩ := h
      have sa := chkE_ok a g h2
      have sb := chkE_ok b g h3
      obtain ⟨q1, q2⟩ := e_ite (pos := pos) (chkE_ok d g h1).pt sa.pe sb.pe sa.pt sb.pt
      exact SndE.nb q1 q2 rfl
    | _ => simp [chkE_ite] at h
  | .tup es, c, X, B, x, g, h => by
    cases x with
    | Tuple xs kk pos => exact SndE.val (e_tup (chkEs_ok es g (by simpa only [chkE_tup] using h))) rfl
    | _ => simp [chkE_tup] at h
  | .lst es, c, X, B, x, g, h => by
    cases x with
    | List xs pos => exact SndE.val (e_lst (chkEs_ok es g (by simpa only [chkE_lst] using h))) rfl
    | _ => simp [chkE_lst] at h
  | .newP es, c, X, B, x, g, h => by
    cases x with
    | List xs pos => exact SndE.val (e_newP (chkEs_ok es g (by simpa only [chkE_newP] using h))) rfl
    | _ => simp [chkE_newP] at h
  | .sub a i, c, X, B, x, g, h => by
    cases x with
    | Subscript x y pos =>
      simp only [chkE_sub, Bool.and_eq_true] at h
      obtain ⟨⟨h1, h2⟩, h3⟩ := h
      exact SndE.val (e_sub g h1 (chkE_ok a g h2).pe (chkE_ok i g h3).pe) rfl
    | _ => simp [chkE_sub] at h
  | .slice a lo hi, c, X, B, x, g, h => by
    cases x with
    | Subscript x y pos =>
      cases y with
      | Slice l u st p2 =>
        simp only [chkE_slice, Bool.and_eq_true] at h
        obtain ⟨⟨⟨h1, h2⟩, h3⟩, h4⟩ := h
        cases st with
        | some _ => cases h1
        | none =>
          have po : ∀ (o : Option Expr) (e : E), (match o with | none => isNonE e | some y => !isNonE e && chkE e c B y) = true → (∀ y, chkE e c B y = true → PE X y (simE p cf B e)) → PO X o (simO p cf B e) := by
            intro o e ho ih
            cases o with
            | none =>
              have := isNonE_ok ho
              subst this
              exact o_none
            | some y =>
              have ho' : isNonE e = false ∧ chkE e c B y = true := by simpa using ho
              exact o_some (fun z => by subst z; cases ho'.1) (ih y ho'.2)
          exact SndE.val (e_slice g (chkE_ok a g h2).pe (po l lo h3 fun y hy => (chkE_ok lo g hy).pe) (po u hi h4 fun y hy => (chkE_ok hi g hy).pe)) rfl
      | _ => simp [chkE_slice] at h
    | _ => simp [chkE_slice] at h
  | .call f es, c, X, B, x, g, h => by
    cases x with
    | Call fx xs kw pos =>
      cases fx with
      | Name y pf =>
        cases kw with
        | nil =>
          simp only [chkE_call, Bool.and_eq_true, decide_eq_true_eq] at h
          obtain ⟨⟨⟨⟨h1, h2⟩, h3⟩, h4⟩, h5⟩ := h
          refine SndE.val ?_ rfl
          cases xs with
          | nil =>
            cases es with
            | nil => exact e_call0 g h1 h2 h3
            | cons _ _ => simp [chkEs_cons] at h5
          | cons x xs => exact e_call g h1 h2 h3 h4 (chkEs_ok es g h5)
        | cons _ _ => simp [chkE_call] at h
      | _ => simp [chkE_call] at h
    | _ => simp [chkE_call] at h
  | .blt b es, c, X, B, x, g, h => by
    cases x with
    | Call fx xs kw pos =>
      cases fx with
      | Name y pf =>
        cases kw with
        | nil =>
          cases xs with
          | nil => simp [chkE_blt] at h
          | cons x xs =>
            simp only [chkE_blt, Bool.and_eq_true, decide_eq_true_eq] at h
            obtain ⟨⟨⟨⟨h1, h2⟩, h3⟩, h4⟩, h5⟩ := h
            subst h1
            exact SndE.val (e_blt g (memC h2) h3 h4 (chkEs_ok es g h5)) rfl
        | cons _ _ => simp [chkE_blt] at h
      | _ => simp [chkE_blt] at h
    | _ => simp [chkE_blt] at h
  | .isin a t, c, X, B, x, g, h => by
    cases x with
    | Call fx xs kw pos =>
      cases fx with
      | Name y pf =>
        match xs, kw, h with
        | [x, z], [], h =>
          cases z with
          | Name z pz =>
            simp only [chkE_isin, Bool.and_eq_true, decide_eq_true_eq] at h
            obtain ⟨⟨⟨⟨⟨⟨⟨h1, h2⟩, h3⟩, h4⟩, h5⟩, h6⟩, h7⟩, h8⟩ := h
            subst h1
            subst h2
            exact SndE.val (e_isin g (memC h3) h4 (memC h5) h6 h7 (chkE_ok a g h8).pe) rfl
          | _ => simp [chkE_isin] at h
        | [], _, h => simp [chkE_isin] at h
        | [_], _, h => simp [chkE_isin] at h
        | _ :: _ :: _ :: _, _, h => simp [chkE_isin] at h
        | [x, z], _ :: _, h => cases z <;> simp [chkE_isin] at h
      | _ => simp [chkE_isin] at h
    | _ => simp [chkE_isin] at h
  | .meth m a es, c, X, B, x, g, h => by
    cases x with
    | Call fx xs kw pos =>
      cases fx with
      | Attribute o n apos =>
        cases kw with
        | nil =>
          cases xs with
          | nil => simp [chkE_meth] at h
          | cons x xs =>
            simp only [chkE_meth, Bool.and_eq_true, decide_eq_true_eq] at h
            obtain ⟨⟨⟨⟨⟨⟨h1, h2⟩, h3⟩, h4⟩, h5⟩, h6⟩, h7⟩ := h
            subst h1
            exact SndE.val (e_meth g (plainB_ok h2) h3 h4 h5 (chkE_ok a g h6).pe (chkEs_ok es g h7)) rfl
        | cons _ _ => simp [chkE_meth] at h
      | _ => simp [chkE_meth] at h
    | _ => simp [chkE_meth] at h
  | .step a lo hi, c, X, B, x, g, h => by
    rw [chkE_step] at h
    split at h
    · simp only [Bool.and_eq_true, decide_eq_true_eq] at h
      obtain ⟨⟨⟨⟨h1, h2⟩, h3⟩, h4⟩, h5⟩ := h
      subst h1
      subst h2
      have po : ∀ (o : Option Expr) (e : E), (match o with | none => isNonE e | some y => !isNonE e && chkE e c B y) = true → (∀ y, chkE e c B y = true → PE X y (simE p cf B e)) → PO X o (simO p cf B e) := by
        intro o e ho ih
        cases o with
        | none =>
          have := isNonE_ok ho
          subst this
          exact o_none
        | some y =>
          have ho' : isNonE e = false ∧ chkE e c B y = true := by simpa using ho
          exact o_some (fun z => by subst z; cases ho'.1) (ih y ho'.2)
      exact SndE.val (e_step g (chkE_ok a g h3).pe (po _ lo h4 fun y hy => (chkE_ok lo g hy).pe) (po _ hi h5 fun y hy => (chkE_ok hi g hy).pe)) rfl
    · cases h
  | .sset a, c, X, B, x, g, h => by
    rw [chkE_sset] at h
    split at h
    · simp only [Bool.and_eq_true, decide_eq_true_eq] at h
      obtain ⟨⟨⟨⟨⟨⟨⟨h1, h2⟩, h3⟩, h4⟩, h5⟩, h6⟩, h7⟩, h8⟩ := h
      subst h1
      subst h2
      exact SndE.val (e_sset g (memC h3) h4 (memC h5) h6 h7 (chkE_ok a g h8).pe) rfl
    · cases h
  | .lrng1 a, c, X, B, x, g, h => by
    rw [chkE_lrng1] at h
    split at h
    · simp only [Bool.and_eq_true, decide_eq_true_eq] at h
      obtain ⟨⟨⟨⟨⟨⟨⟨h1, h2⟩, h3⟩, h4⟩, h5⟩, h6⟩, h7⟩, h8⟩ := h
      subst h1
      subst h2
      exact SndE.val (e_lrng1 g (memC h3) h4 (memC h5) h6 h7 (chkE_ok a g h8).pe) rfl
    · cases h
  | .lrng2 a b, c, X, B, x, g, h => by
    rw [chkE_lrng2] at h
    split at h
    · simp only [Bool.and_eq_true, decide_eq_true_eq] at h
      obtain ⟨⟨⟨⟨⟨⟨⟨⟨⟨h1, h2⟩, h3⟩, h4⟩, h5⟩, h6⟩, h7⟩, h8⟩, h9⟩, h10⟩ := h
      subst h1
      subst h2
      exact SndE.val (e_lrng2 g (memC h3) h4 (memC h5) h6 h7 h8 (chkE_ok a g h9).pe (chkE_ok b g h10).pe) rfl
    · cases h
  | .lenset a, c, X, B, x, g, h => by
    rw [chkE_lenset] at h
    split at h
    · simp only [Bool.and_eq_true, decide_eq_true_eq] at h
      obtain ⟨⟨⟨⟨⟨⟨⟨h1, h2⟩, h3⟩, h4⟩, h5⟩, h6⟩, h7⟩, h8⟩ := h
      subst h1
      subst h2
      exact SndE.val (e_lenset g (memC h3) h4 (memC h5) h6 h7 (chkE_ok a g h8).pe) rfl
    · cases h
  | .tzip a b, c, X, B, x, g, h => by
    rw [chkE_tzip] at h
    split at h
    · simp only [Bool.and_eq_true, decide_eq_true_eq] at h
      obtain ⟨⟨⟨⟨⟨⟨⟨⟨⟨h1, h2⟩, h3⟩, h4⟩, h5⟩, h6⟩, h7⟩, h8⟩, h9⟩, h10⟩ := h
      subst h1
      subst h2
      exact SndE.val (e_tzip g (memC h3) h4 (memC h5) h6 h7 h8 (chkE_ok a g h9).pe (chkE_ok b g h10).pe) rfl
    · cases h
  | .dict a, c, X, B, x, g, h => by
    rw [chkE_dict] at h
    split at h
    · simp only [Bool.and_eq_true, decide_eq_true_eq] at h
      obtain ⟨⟨⟨⟨h1, h2⟩, h3⟩, h4⟩, h5⟩ := h
      subst h1
      exact SndE.val (e_dict g (memC h2) h3 h4 (chkE_ok a g h5).pe) rfl
    · cases h
  | .lidx a b, c, X, B, x, g, h => by
    rw [chkE_lidx] at h
    split at h
    · simp only [Bool.and_eq_true, decide_eq_true_eq] at h
      obtain ⟨⟨⟨⟨⟨h1, h2⟩, h3⟩, h4⟩, h5⟩, h6⟩ := h
      subst h1
      exact SndE.val (e_lidx g (plainB_ok h2) h3 h4 (chkE_ok a g h5).pe (chkE_ok b g h6).pe) rfl
    · cases h
  | .lcnt a b, c, X, B, x, g, h => by
    rw [chkE_lcnt] at h
    split at h
    · simp only [Bool.and_eq_true, decide_eq_true_eq] at h
      obtain ⟨⟨⟨⟨⟨h1, h2⟩, h3⟩, h4⟩, h5⟩, h6⟩ := h
      subst h1
      exact SndE.val (e_lcnt g (plainB_ok h2) h3 h4 (chkE_ok a g h5).pe (chkE_ok b g h6).pe) rfl
    · cases h
  | .lend is e, c, X, B, x, g, h => by
    have s := chkE_ok e (B := B.filter fun i => !is.contains i) g (by simpa only [chkE_lend] using h)
    exact ⟨e_lend is s.pe, PT.imp s.pt fun σ H Q => lend_read is, fun op vs pos z => PW.imp (s.pw op vs pos z) fun σ H Q => lend_read is⟩
  | .comp vs t it cd e, c, X, B, x, g, h => by
    cases x with
    | ListComp elt gens scope pos =>
      match gens, h with
      | [⟨tg, iter, ifs, az⟩], h =>
        simp only [chkE_comp, Bool.and_eq_true, decide_eq_true_eq] at h
        obtain ⟨⟨⟨⟨⟨⟨⟨⟨rfl, h1⟩, h2⟩, h3⟩, h4⟩, h5⟩, h6⟩, h7⟩, h8⟩ := h
        have q := e_comp (pos := pos) (own := ownL c.N vs) g (chkI_ok it g h1) h2 (by rw [ownL_snd]; exact notB h3) (by rw [ownL_snd]; exact allIn h4) (fun X' g' => g_tg g' t h5) (fun X' g' => test_ok (B := B) h7 fun z hz => chkE_ok cd g' hz) (fun X' g' => (chkE_ok e g' h8).pe) (noSet_ok h6)
        rw [ownL_snd] at q
        exact SndE.val q rfl
      | [], h => simp [chkE_comp] at h
      | _ :: _ :: _, h => simp [chkE_comp] at h
    | _ => simp [chkE_comp] at h
  | .comp2 vs vs1 t it cd t1 it1 cd1 e, c, X, B, x, g, h => by
    cases x with
    | ListComp elt gens scope pos =>
      match gens, h with
      | [⟨tg, iter, ifs, az⟩, ⟨tg1, iter1, ifs1, az1⟩], h =>
        simp only [chkE_comp2, Bool.and_eq_true, decide_eq_true_eq] at h
        obtain ⟨⟨⟨⟨⟨⟨⟨⟨⟨⟨⟨⟨⟨⟨⟨rfl, rfl⟩, h1⟩, h2⟩, h3⟩, h4⟩, h5⟩, h6⟩, k1⟩, k2⟩, k3⟩, k4⟩, h7⟩, h8⟩, h9⟩, h10⟩ := h
        have q := e_comp2 (pos := pos) (own := ownL c.N vs) (vs1 := vs1) g (chkI_ok it g h1) h2 (by rw [ownL_snd]; exact notB h3) (by rw [ownL_snd]; exact allIn h4) (by rw [ownL_snd]; exact allIn k1) (allIn k2) (fun X' g' => g_tg g' t h5) (fun X' g' => test_ok (B := B) h7 fun z hz => chkE_ok cd g' hz)
          (fun X' g' => chkI_ok it1 g' h9) (fun X' g' => g_tg g' t1 k3) (fun X' g' => test_ok (B := B) h8 fun z hz => chkE_ok cd1 g' hz) (fun X' g' => (chkE_ok e g' h10).pe) (noSet_ok h6) (noSet_ok k4)
        rw [ownL_snd] at q
        exact SndE.val q rfl
      | [], h => simp [chkE_comp2] at h
      | [_], h => simp [chkE_comp2] at h
      | _ :: _ :: _ :: _, h => simp [chkE_comp2] at h
    | _ => simp [chkE_comp2] at h
theorem chkEs_ok : ∀ (es : Es) {c : Ctx} {X : Cx} {B : List Nat} {xs : List Expr}, GoodX c p k cf X → chkEs es c B xs = true → PA X xs (simEs p cf B es)
  | .nil, c, X, B, xs, g, h => by
    cases xs with
    | nil => exact es_nil
    | cons _ _ => simp [chkEs_nil] at h
  | .cons e es, c, X, B, xs, g, h => by
    cases xs with
    | nil => simp [chkEs_cons] at h
    | cons x xs =>
      simp only [chkEs_cons, Bool.and_eq_true] at h
      exact es_cons h.1.1 (chkE_ok e g h.1.2).pe (chkEs_ok es g h.2)
theorem chkI_ok : ∀ (it : It) {c : Ctx} {X : Cx} {B : List Nat} {tg x : Expr}, GoodX c p k cf X → chkI it c B tg x = true → PI X tg x (simI p cf B it)
  | .seq e, c, X, B, tg, x, g, h => i_seq g (chkE_ok e g (by simpa only [chkI_seq] using h)).pe
  | .range1 a, c, X, B, tg, x, g, h => by
    cases x with
    | Call fx xs kw pos =>
      cases fx with
      | Name y pf =>
        match xs, kw, h with
        | [x], [], h =>
          simp only [chkI_range1, Bool.and_eq_true, decide_eq_true_eq] at h
          obtain ⟨⟨⟨⟨h1, h2⟩, h3⟩, h4⟩, h5⟩ := h
          subst h1
          exact i_range1 g (memC h2) h3 h4 (chkE_ok a g h5).pe
        | [], _, h => simp [chkI_range1] at h
        | _ :: _ :: _, _, h => simp [chkI_range1] at h
        | [_], _ :: _, h => simp [chkI_range1] at h
      | _ => simp [chkI_range1] at h
    | _ => simp [chkI_range1] at h
  | .range2 a b, c, X, B, tg, x, g, h => by
    cases x with
    | Call fx xs kw pos =>
      cases fx with
      | Name y pf =>
        match xs, kw, h with
        | [x, z], [], h =>
          simp only [chkI_range2, Bool.and_eq_true, decide_eq_true_eq] at h
          obtain ⟨⟨⟨⟨⟨⟨h1, h2⟩, h3⟩, h4⟩, h5⟩, h6⟩, h7⟩ := h
          subst h1
          exact i_range2 g (memC h2) h3 h4 h5 (chkE_ok a g h6).pe (chkE_ok b g h7).pe
        | [], _, h => simp [chkI_range2] at h
        | [_], _, h => simp [chkI_range2] at h
        | _ :: _ :: _ :: _, _, h => simp [chkI_range2] at h
        | [_, _], _ :: _, h => simp [chkI_range2] at h
      | _ => simp [chkI_range2] at h
    | _ => simp [chkI_range2] at h
  | .range3 a b d, c, X, B, tg, x, g, h => by
    cases x with
    | Call fx xs kw pos =>
      cases fx with
      | Name y pf =>
        match xs, kw, h with
        | [x, z, w], [], h =>
          simp only [chkI_range3, Bool.and_eq_true, decide_eq_true_eq] at h
          obtain ⟨⟨⟨⟨⟨⟨⟨⟨h1, h2⟩, h3⟩, h4⟩, h5⟩, h6⟩, h7⟩, h8⟩, h9⟩ := h
          subst h1
          exact i_range3 g (memC h2) h3 h4 h5 h6 (chkE_ok a g h7).pe (chkE_ok b g h8).pe (chkE_ok d g h9).pe
        | [], _, h => simp [chkI_range3] at h
        | [_], _, h => simp [chkI_range3] at h
        | [_, _], _, h => simp [chkI_range3] at h
        | _ :: _ :: _ :: _ :: _, _, h => simp [chkI_range3] at h
        | [_, _, _], _ :: _, h => simp [chkI_range3] at h
      | _ => simp [chkI_range3] at h
    | _ => simp [chkI_range3] at h
  | .enum e, c, X, B, tg, x, g, h => by
    cases tg with
    | Tuple elts kk tpos =>
      cases x with
      | Call fx xs kw pos =>
        cases fx with
        | Name y pf =>
          match xs, kw, h with
          | [x], [], h =>
            simp only [chkI_enum, Bool.and_eq_true, decide_eq_true_eq] at h
            obtain ⟨⟨⟨⟨h1, h2⟩, h3⟩, h4⟩, h5⟩ := h
            subst h1
            exact i_enum g (memC h2) h3 h4 (chkE_ok e g h5).pe
          | [], _, h => simp [chkI_enum] at h
          | _ :: _ :: _, _, h => simp [chkI_enum] at h
          | [_], _ :: _, h => simp [chkI_enum] at h
        | _ => simp [chkI_enum] at h
      | _ => simp [chkI_enum] at h
    | _ => simp [chkI_enum] at h
  | .enum2 e i, c, X, B, tg, x, g, h => by
    cases tg with
    | Tuple elts kk tpos =>
      cases x with
      | Call fx xs kw pos =>
        cases fx with
        | Name y pf =>
          match xs, kw, h with
          | [x, z], [], h =>
            simp only [chkI_enum2, Bool.and_eq_true, decide_eq_true_eq] at h
            obtain ⟨⟨⟨⟨⟨⟨h1, h2⟩, h3⟩, h4⟩, h5⟩, h6⟩, h7⟩ := h
            subst h1
            exact i_enum2 g (memC h2) h3 h4 h5 (chkE_ok e g h6).pe (chkE_ok i g h7).pe
          | [], _, h => simp [chkI_enum2] at h
          | [_], _, h => simp [chkI_enum2] at h
          | _ :: _ :: _ :: _, _, h => simp [chkI_enum2] at h
          | [_, _], _ :: _, h => simp [chkI_enum2] at h
        | _ => simp [chkI_enum2] at h
      | _ => simp [chkI_enum2] at h
    | _ => simp [chkI_enum2] at h
  | .zip a b, c, X, B, tg, x, g, h => by
    cases tg with
    | Tuple elts kk tpos =>
      cases x with
      | Call fx xs kw pos =>
        cases fx with
        | Name y pf =>
          match xs, kw, h with
          | [x, z], [], h =>
            simp only [chkI_zip, Bool.and_eq_true, decide_eq_true_eq] at h
            obtain ⟨⟨⟨⟨⟨⟨h1, h2⟩, h3⟩, h4⟩, h5⟩, h6⟩, h7⟩ := h
            subst h1
            exact i_zip g (memC h2) h3 h4 h5 (chkE_ok a g h6).pe (chkE_ok b g h7).pe
          | [], _, h => simp [chkI_zip] at h
          | [_], _, h => simp [chkI_zip] at h
          | _ :: _ :: _ :: _, _, h => simp [chkI_zip] at h
          | [_, _], _ :: _, h => simp [chkI_zip] at h
        | _ => simp [chkI_zip] at h
      | _ => simp [chkI_zip] at h
    | Name nx tpos =>
      cases x with
      | Call fx xs kw pos =>
        cases fx with
        | Name y pf =>
          match xs, kw, h with
          | [x, z], [], h =>
            simp only [chkI_zip, Bool.and_eq_true, decide_eq_true_eq] at h
            obtain ⟨⟨⟨⟨⟨⟨h1, h2⟩, h3⟩, h4⟩, h5⟩, h6⟩, h7⟩ := h
            subst h1
            exact i_zipN g (memC h2) h3 h4 h5 (chkE_ok a g h6).pe (chkE_ok b g h7).pe
          | [], _, h => simp [chkI_zip] at h
          | [_], _, h => simp [chkI_zip] at h
          | _ :: _ :: _ :: _, _, h => simp [chkI_zip] at h
          | [_, _], _ :: _, h => simp [chkI_zip] at h
        | _ => simp [chkI_zip] at h
      | _ => simp [chkI_zip] at h
    | _ => simp [chkI_zip] at h
end
end
end PyI

set_option maxRecDepth 100000
set_option maxHeartbeats 10000000
/-! PyI17: the checker of statements. -/
namespace PyI
open PySem PySem.Spec PyProof.Rows L2

/-- name = [..]: the tree of the comprehension -/
def chkC (c : Ctx) (y : Str) (py : Pos) (x : Expr) : Bool := match x with
  | .ListComp _ _ scope pos => isLc c.sc y && (py.line == pos.line) && !(scope.names.any fun (n, k) => n == y && (k == .local || k == .cell))
  | _ => false
def isComp (e : E) : Bool := match e with
  | .comp .. => true
  | .comp2 .. => true
  | .lend _ (.comp ..) => true
  | .lend _ (.comp2 ..) => true
  | _ => false
def isFree (s : S) : Option Nat := match s with
  | .free i => some i
  | _ => none
def notIn (B : List Nat) (is : List Nat) : Bool := is.all fun i => !B.contains i
/-- the value of name = .. -/
def chkV (e : E) (c : Ctx) (B : List Nat) (y : Str) (py : Pos) (x : Expr) : Bool := (noComp x || (chkC c y py x && isComp e) || !isLc c.sc y) && chkE e c B x
theorem sw_off {x : Expr} {y : Str} {py : Pos} {l : Nat} {env : PySem.Env} (h : isLc env.scope y = false) : swapsWith x (some (.Name y py)) l env = pure false := by
  have q : (env.kindOf y == some NameKind.local) = false := by
    cases q : (env.kindOf y == some NameKind.local) with
    | false => rfl
    | true =>
      have e : env.scope.names.lookup y = some .local := eq_of_beq q
      unfold isLc at h
      rw [e] at h
      cases h
  unfold swapsWith
  cases x <;> first | rfl | simp [q]
def joinB (a b : Option (List Nat)) : Option (Option (List Nat)) := match a, b with
  | none, b => some b
  | a, none => some a
  | some a, some b => if a = b then some (some a) else none
def backB (B : List Nat) (o : Option (Option (List Nat))) : Bool := match o with
  | some none => true
  | some (some b) => decide (b = B)
  | none => false
def yesB (b : Bool) (o : Option (List Nat)) : Option (Option (List Nat)) := if b then some o else none

/-- .. the o-th is the list without items -/
def chkEsO : Es → Nat → Ctx → List Nat → List Expr → Bool
  | .nil, _, _, _, _ => false
  | .cons e es, o, c, B, xs => (match xs, o with
    | x :: xs, 0 => plainE x && fresh e && chkE e c B x && chkEs es c B xs
    | x :: xs, n + 1 => plainE x && chkE e c B x && chkEsO es n c B xs
    | [], _ => false)
mutual
def chkS : S → Ctx → List Nat → List Nat → Stmt → Option (Option (List Nat))
  | .pass, c, B, Bl, st => (match st with
    | .Pass _ => some (some B)
    | .Expr (.Constant (.str _) _ _) _ => some (some B)
    | _ => none)
  | .drop e, c, B, Bl, st => (match st with
    | .Expr x _ => yesB (noComp x && chkE e c B x) (some B)
    | _ => none)
  | .asg t e, c, B, Bl, st => (match st with
    | .Assign [tg] x _ => yesB (chkTg c t tg && notIn B (slots t) && (match tg with
      | .Name y py => chkV e c B y py x
      | .Tuple ts _ _ => noComp x && (noPar tg x || (match x with | .Tuple vs _ _ => (!(ts.length == 2 || ts.length == 3) || vs.all (foldedForSure 8)) || ts.any (oddT c) | _ => false)) && chkE e c B x
      | _ => false)) (some B)
    | _ => none)
  | .par is es, c, B, Bl, st => (match is, st with
    | [i, j], .Assign [.Tuple [.Name x px, .Name y py] _ _] (.Tuple [a, b] _ _) _ => yesB (decide (c.N[i]? = some x) && decide (c.N[j]? = some y) && decide (i ≠ j) && isLc c.sc x && isLc c.sc y && (py.line == px.line) && ([x, y].eraseDups.length == 2) && noStar a && noStar b && !([a, b].all (foldedForSure 8)) && !([a, b].all (constantsAlone 8)) && notIn B [i, j] && chkEs es c B [a, b]) (some B)
    | [i, j, l], .Assign [.Tuple [.Name x px, .Name y py, .Name z pz] _ _] (.Tuple [a, b, d] _ _) _ => yesB (decide (c.N[i]? = some x) && decide (c.N[j]? = some y) && decide (c.N[l]? = some z) && decide (i ≠ j) && decide (i ≠ l) && decide (j ≠ l) && isLc c.sc x && isLc c.sc y && isLc c.sc z && (py.line == px.line) && (pz.line == px.line) && ([x, y, z].eraseDups.length == 3) && noStar a && noStar b && noStar d && !([a, b, d].all (foldedForSure 8)) && !([a, b, d].all (constantsAlone 8)) && notIn B [i, j, l] && chkEs es c B [a, b, d]) (some B)
    | _, _ => none)
  | .parO is o es, c, B, Bl, st => (match is, st with
    | [i, j], .Assign [.Tuple [.Name x px, .Name y py] _ _] (.Tuple [a, b] _ _) _ => yesB (decide (c.N[i]? = some x) && decide (c.N[j]? = some y) && decide (i ≠ j) && isLc c.sc x && isLc c.sc y && (py.line == px.line) && ([x, y].eraseDups.length == 2) && noStar a && noStar b && !([a, b].all (foldedForSure 8)) && !([a, b].all (constantsAlone 8)) && notIn B [i, j] && decide (([i, j][o]?).isSome = true) && chkEsO es o c B [a, b]) (some (([i, j][o]?).getD 0 :: B))
    | [i, j, l], .Assign [.Tuple [.Name x px, .Name y py, .Name z pz] _ _] (.Tuple [a, b, d] _ _) _ => yesB (decide (c.N[i]? = some x) && decide (c.N[j]? = some y) && decide (c.N[l]? = some z) && decide (i ≠ j) && decide (i ≠ l) && decide (j ≠ l) && isLc c.sc x && isLc c.sc y && isLc c.sc z && (py.line == px.line) && (pz.line == px.line) && ([x, y, z].eraseDups.length == 3) && noStar a && noStar b && noStar d && !([a, b, d].all (foldedForSure 8)) && !([a, b, d].all (constantsAlone 8)) && notIn B [i, j, l] && decide (([i, j, l][o]?).isSome = true) && chkEsO es o c B [a, b, d]) (some (([i, j, l][o]?).getD 0 :: B))
    | _, _ => none)
  | .own i e, c, B, Bl, st => (match st with
    | .Assign [.Name y py] x _ => yesB (decide (c.N[i]? = some y) && stoC c y && notIn B [i] && fresh e && chkV e c B y py x) (some (i :: B))
    | _ => none)
  | .ownD i, c, B, Bl, st => (match st with
    | .Assign [.Name y py] (.Dict [] [] _) _ => yesB (decide (c.N[i]? = some y) && stoC c y && notIn B [i]) (some (i :: B))
    | _ => none)
  | .ownDD i j, c, B, Bl, st => (match st with
    | .Assign [.Tuple [.Name x px, .Name y py] kt pt] (.Tuple [.Dict [] [] da, .Dict [] [] db] _ _) _ => yesB (decide (i ≠ j) && notIn B [i, j] && ((decide (c.N[i]? = some x) && decide (c.N[j]? = some y) && isLc c.sc x && isLc c.sc y && (py.line == px.line) && ([x, y].eraseDups.length == 2) && !([Expr.Dict [] [] da, Expr.Dict [] [] db].all (foldedForSure 8)) && !([Expr.Dict [] [] da, Expr.Dict [] [] db].all (constantsAlone 8))) || (chkTg c (.tup (.cons (.name i) (.cons (.name j) .nil))) (.Tuple [.Name x px, .Name y py] kt pt) && [Expr.Name x px, Expr.Name y py].any (oddT c)))) (some (j :: i :: B))
    | _ => none)
  | .popL j i e, c, B, Bl, st => (match st with
    | .Assign [.Name y py] (.Call (.Attribute (.Name z pz) m apos) [x] [] cpos) _ => yesB (decide (m = "pop") && decide (c.N[j]? = some y) && stoC c y && decide (c.N[i]? = some z) && visC c.sc z && plainN z && plainE x && (apos.endLine == cpos.line) && B.contains i && notIn B [j] && chkE e c B x) (some B)
    | _ => none)
  | .free i, c, B, Bl, st => none
  | .app i e, c, B, Bl, st => (match st with
    | .Expr (.Call (.Attribute (.Name y py) m apos) [x] [] cpos) _ => yesB (decide (m = "append") && decide (c.N[i]? = some y) && visC c.sc y && plainN y && plainE x && (apos.endLine == cpos.line) && B.contains i && chkE e c B x) (some B)
    | _ => none)
  | .setL i k e, c, B, Bl, st => (match st with
    | .Assign [.Subscript (.Name y py) kx _] x _ => yesB (decide (c.N[i]? = some y) && visC c.sc y && plainN y && B.contains i && noComp x && plainI kx && chkE k c B kx && chkE e c B x) (some B)
    | _ => none)
  | .setP i k e, c, B, Bl, st => (match st with
    | .Assign [.Subscript (.Name y py) kx _] x _ => yesB (decide (c.N[i]? = some y) && visC c.sc y && plainN y && notIn B [i] && noComp x && plainI kx && chkE k c B kx && chkE e c B x) (some B)
    | _ => none)
  | .ret e, c, B, Bl, st => (match st with
    | .Return (some x) _ => yesB (chkE e c B x) none
    | _ => none)
  | .retN, c, B, Bl, st => (match st with
    | .Return none _ => some none
    | _ => none)
  | .ite d a b, c, B, Bl, st => (match st with
    | .If x as bs _ => if chkE d c B x then (chkSs a c B Bl as).bind fun o1 => (chkSs b c B Bl bs).bind fun o2 => joinB o1 o2 else none
    | _ => none)
  | .for_ t it b, c, B, Bl, st => (match st with
    | .For tg iter body [] _ => yesB (chkI it c B tg iter && chkTg c t tg && notIn B (slots t) && noSet iter && backB B (chkSs b c B B body)) (some B)
    | _ => none)
  | .while_ d b, c, B, Bl, st => (match st with
    | .While x body [] _ => yesB (chkE d c B x && backB B (chkSs b c B B body)) (some B)
    | _ => none)
  | .brk, c, B, Bl, st => (match st with
    | .Break _ => yesB (decide (Bl = B)) none
    | _ => none)
  | .cont, c, B, Bl, st => (match st with
    | .Continue _ => yesB (decide (Bl = B)) none
    | _ => none)
  | .raise i, c, B, Bl, st => some none
def chkSs : Ss → Ctx → List Nat → List Nat → List Stmt → Option (Option (List Nat))
  | .nil, c, B, Bl, xs => yesB xs.isEmpty (some B)
  | .cons s ss, c, B, Bl, xs => (match isFree s with
    | some i => chkSs ss c (B.filter fun j => ![i].contains j) Bl xs
    | none => (match xs with
      | [] => none
      | st :: sts => (match chkS s c B Bl st with
        | none => none
        | some none => chkSs ss c B Bl sts
        | some (some B1) => chkSs ss c B1 Bl sts)))
end
theorem chkS_pass (c : Ctx) (B : List Nat) (Bl : List Nat) (st : Stmt) : chkS (.pass ) c B Bl st = (match st with
    | .Pass _ => some (some B)
    | .Expr (.Constant (.str _) _ _) _ => some (some B)
    | _ => none) := rfl
theorem chkS_drop {e} (c : Ctx) (B : List Nat) (Bl : List Nat) (st : Stmt) : chkS (.drop e) c B Bl st = (match st with
    | .Expr x _ => yesB (noComp x && chkE e c B x) (some B)
    | _ => none) := rfl
theorem chkS_asg {t e} (c : Ctx) (B : List Nat) (Bl : List Nat) (st : Stmt) : chkS (.asg t e) c B Bl st = (match st with
    | .Assign [tg] x _ => yesB (chkTg c t tg && notIn B (slots t) && (match tg with
      | .Name y py => chkV e c B y py x
      | .Tuple ts _ _ => noComp x && (noPar tg x || (match x with | .Tuple vs _ _ => (!(ts.length == 2 || ts.length == 3) || vs.all (foldedForSure 8)) || ts.any (oddT c) | _ => false)) && chkE e c B x
      | _ => false)) (some B)
    | _ => none) := rfl
theorem chkS_par {is es} (c : Ctx) (B : List Nat) (Bl : List Nat) (st : Stmt) : chkS (.par is es) c B Bl st = (match is, st with
    | [i, j], .Assign [.Tuple [.Name x px, .Name y py] _ _] (.Tuple [a, b] _ _) _ => yesB (decide (c.N[i]? = some x) && decide (c.N[j]? = some y) && decide (i ≠ j) && isLc c.sc x && isLc c.sc y && (py.line == px.line) && ([x, y].eraseDups.length == 2) && noStar a && noStar b && !([a, b].all (foldedForSure 8)) && !([a, b].all (constantsAlone 8)) && notIn B [i, j] && chkEs es c B [a, b]) (some B)
    | [i, j, l], .Assign [.Tuple [.Name x px, .Name y py, .Name z pz] _ _] (.Tuple [a, b, d] _ _) _ => yesB (decide (c.N[i]? = some x) && decide (c.N[j]? = some y) && decide (c.N[l]? = some z) && decide (i ≠ j) && decide (i ≠ l) && decide (j ≠ l) && isLc c.sc x && isLc c.sc y && isLc c.sc z && (py.line == px.line) && (pz.line == px.line) && ([x, y, z].eraseDups.length == 3) && noStar a && noStar b && noStar d && !([a, b, d].all (foldedForSure 8)) && !([a, b, d].all (constantsAlone 8)) && notIn B [i, j, l] && chkEs es c B [a, b, d]) (some B)
    | _, _ => none) := rfl
theorem chkS_parO {is o es} (c : Ctx) (B : List Nat) (Bl : List Nat) (st : Stmt) : chkS (.parO is o es) c B Bl st = (match is, st with
    | [i, j], .Assign [.Tuple [.Name x px, .Name y py] _ _] (.Tuple [a, b] _ _) _ => yesB (decide (c.N[i]? = some x) && decide (c.N[j]? = some y) && decide (i ≠ j) && isLc c.sc x && isLc c.sc y && (py.line == px.line) && ([x, y].eraseDups.length == 2) && noStar a && noStar b && !([a, b].all (foldedForSure 8)) && !([a, b].all (constantsAlone 8)) && notIn B [i, j] && decide (([i, j][o]?).isSome = true) && chkEsO es o c B [a, b]) (some (([i, j][o]?).getD 0 :: B))
    | [i, j, l], .Assign [.Tuple [.Name x px, .Name y py, .Name z pz] _ _] (.Tuple [a, b, d] _ _) _ => yesB (decide (c.N[i]? = some x) && decide (c.N[j]? = some y) && decide (c.N[l]? = some z) && decide (i ≠ j) && decide (i ≠ l) && decide (j ≠ l) && isLc c.sc x && isLc c.sc y && isLc c.sc z && (py.line == px.line) && (pz.line == px.line) && ([x, y, z].eraseDups.length == 3) && noStar a && noStar b && noStar d && !([a, b, d].all (foldedForSure 8)) && !([a, b, d].all (constantsAlone 8)) && notIn B [i, j, l] && decide (([i, j, l][o]?).isSome = true) && chkEsO es o c B [a, b, d]) (some (([i, j, l][o]?).getD 0 :: B))
    | _, _ => none) := rfl
theorem chkS_own {i e} (c : Ctx) (B : List Nat) (Bl : List Nat) (st : Stmt) : chkS (.own i e) c B Bl st = (match st with
    | .Assign [.Name y py] x _ => yesB (decide (c.N[i]? = some y) && stoC c y && notIn B [i] && fresh e && chkV e c B y py x) (some (i :: B))
    | _ => none) := rfl
theorem chkS_ownD {i} (c : Ctx) (B : List Nat) (Bl : List Nat) (st : Stmt) : chkS (.ownD i) c B Bl st = (match st with
    | .Assign [.Name y py] (.Dict [] [] _) _ => yesB (decide (c.N[i]? = some y) && stoC c y && notIn B [i]) (some (i :: B))
    | _ => none) := rfl
theorem chkS_ownDD {i j} (c : Ctx) (B : List Nat) (Bl : List Nat) (st : Stmt) : chkS (.ownDD i j) c B Bl st = (match st with
    | .Assign [.Tuple [.Name x px, .Name y py] kt pt] (.Tuple [.Dict [] [] da, .Dict [] [] db] _ _) _ => yesB (decide (i ≠ j) && notIn B [i, j] && ((decide (c.N[i]? = some x) && decide (c.N[j]? = some y) && isLc c.sc x && isLc c.sc y && (py.line == px.line) && ([x, y].eraseDups.length == 2) && !([Expr.Dict [] [] da, Expr.Dict [] [] db].all (foldedForSure 8)) && !([Expr.Dict [] [] da, Expr.Dict [] [] db].all (constantsAlone 8))) || (chkTg c (.tup (.cons (.name i) (.cons (.name j) .nil))) (.Tuple [.Name x px, .Name y py] kt pt) && [Expr.Name x px, Expr.Name y py].any (oddT c)))) (some (j :: i :: B))
    | _ => none) := rfl
theorem chkS_popL {j i e} (c : Ctx) (B : List Nat) (Bl : List Nat) (st : Stmt) : chkS (.popL j i e) c B Bl st = (match st with
    | .Assign [.Name y py] (.Call (.Attribute (.Name z pz) m apos) [x] [] cpos) _ => yesB (decide (m = "pop") && decide (c.N[j]? = some y) && stoC c y && decide (c.N[i]? = some z) && visC c.sc z && plainN z && plainE x && (apos.endLine == cpos.line) && B.contains i && notIn B [j] && chkE e c B x) (some B)
    | _ => none) := rfl
theorem chkS_free {i} (c : Ctx) (B : List Nat) (Bl : List Nat) (st : Stmt) : chkS (.free i) c B Bl st = none := rfl
theorem chkS_app {i e} (c : Ctx) (B : List Nat) (Bl : List Nat) (st : Stmt) : chkS (.app i e) c B Bl st = (match st with
    | .Expr (.Call (.Attribute (.Name y py) m apos) [x] [] cpos) _ => yesB (decide (m = "append") && decide (c.N[i]? = some y) && visC c.sc y && plainN y && plainE x && (apos.endLine == cpos.line) && B.contains i && chkE e c B x) (some B)
    | _ => none) := rfl
theorem chkS_setL {i k e} (c : Ctx) (B : List Nat) (Bl : List Nat) (st : Stmt) : chkS (.setL i k e) c B Bl st = (match st with
    | .Assign [.Subscript (.Name y py) kx _] x _ => yesB (decide (c.N[i]? = some y) && visC c.sc y && plainN y && B.contains i && noComp x && plainI kx && chkE k c B kx && chkE e c B x) (some B)
    | _ => none) := rfl
theorem chkS_setP {i k e} (c : Ctx) (B : List Nat) (Bl : List Nat) (st : Stmt) : chkS (.setP i k e) c B Bl st = (match st with
    | .Assign [.Subscript (.Name y py) kx _] x _ => yesB (decide (c.N[i]? = some y) && visC c.sc y && plainN y && notIn B [i] && noComp x && plainI kx && chkE k c B kx && chkE e c B x) (some B)
    | _ => none) := rfl
theorem chkS_ret {e} (c : Ctx) (B : List Nat) (Bl : List Nat) (st : Stmt) : chkS (.ret e) c B Bl st = (match st with
    | .Return (some x) _ => yesB (chkE e c B x) none
    | _ => none) := rfl
theorem chkS_retN (c : Ctx) (B : List Nat) (Bl : List Nat) (st : Stmt) : chkS (.retN ) c B Bl st = (match st with
    | .Return none _ => some none
    | _ => none) := rfl
theorem chkS_ite {d a b} (c : Ctx) (B : List Nat) (Bl : List Nat) (st : Stmt) : chkS (.ite d a b) c B Bl st = (match st with
    | .If x as bs _ => if chkE d c B x then (chkSs a c B Bl as).bind fun o1 => (chkSs b c B Bl bs).bind fun o2 => joinB o1 o2 else none
    | _ => none) := rfl
theorem chkS_for_ {t it b} (c : Ctx) (B : List Nat) (Bl : List Nat) (st : Stmt) : chkS (.for_ t it b) c B Bl st = (match st with
    | .For tg iter body [] _ => yesB (chkI it c B tg iter && chkTg c t tg && notIn B (slots t) && noSet iter && backB B (chkSs b c B B body)) (some B)
    | _ => none) := rfl
theorem chkS_while_ {d b} (c : Ctx) (B : List Nat) (Bl : List Nat) (st : Stmt) : chkS (.while_ d b) c B Bl st = (match st with
    | .While x body [] _ => yesB (chkE d c B x && backB B (chkSs b c B B body)) (some B)
    | _ => none) := rfl
theorem chkS_brk (c : Ctx) (B : List Nat) (Bl : List Nat) (st : Stmt) : chkS (.brk ) c B Bl st = (match st with
    | .Break _ => yesB (decide (Bl = B)) none
    | _ => none) := rfl
theorem chkS_cont (c : Ctx) (B : List Nat) (Bl : List Nat) (st : Stmt) : chkS (.cont ) c B Bl st = (match st with
    | .Continue _ => yesB (decide (Bl = B)) none
    | _ => none) := rfl
theorem chkS_raise {i} (c : Ctx) (B : List Nat) (Bl : List Nat) (st : Stmt) : chkS (.raise i) c B Bl st = some none := rfl
theorem chkSs_nil (c : Ctx) (B : List Nat) (Bl : List Nat) (xs : List Stmt) : chkSs (.nil ) c B Bl xs = yesB xs.isEmpty (some B) := rfl
theorem chkSs_cons {s ss} (c : Ctx) (B : List Nat) (Bl : List Nat) (xs : List Stmt) : chkSs (.cons s ss) c B Bl xs = (match isFree s with
    | some i => chkSs ss c (B.filter fun j => ![i].contains j) Bl xs
    | none => (match xs with
      | [] => none
      | st :: sts => (match chkS s c B Bl st with
        | none => none
        | some none => chkSs ss c B Bl sts
        | some (some B1) => chkSs ss c B1 Bl sts))) := rfl
end PyI

set_option maxRecDepth 100000
set_option maxHeartbeats 10000000
/-! PyI18: the checker of statements: its word is true. -/
namespace PyI
open PySem PySem.Spec PyProof.Rows L2
section
variable {c : Ctx} {p : Par} {k : Nat} {cf : CF} {X : Cx} {B B' Bl : List Nat}
theorem yesB_ok {b : Bool} {o : Option (List Nat)} {r : Option (List Nat)} (h : yesB b o = some r) : b = true ∧ o = r := by
  unfold yesB at h
  split at h
  · cases h; exact ⟨by assumption, rfl⟩
  · cases h
theorem notIn_ok {is : List Nat} (h : notIn B is = true) : ∀ i ∈ is, i ∉ B := by simpa [notIn] using h
theorem chkC_ok (g : GoodX c p k cf X) {y : Str} {py : Pos} {x : Expr} (h : chkC c y py x = true) : ∃ elt gens scope pos, x = .ListComp elt gens scope pos ∧ isLc c.sc y = true ∧ (py.line == pos.line) = true ∧ (scope.names.any fun (n, k) => n == y && (k == .local || k == .cell)) = false := by
  cases x with
  | ListComp elt gens scope pos =>
    have h' : (isLc c.sc y = true ∧ (py.line == pos.line) = true) ∧ (scope.names.any fun (n, k) => n == y && (k == .local || k == .cell)) = false := by
      have h : (isLc c.sc y && (py.line == pos.line) && !(scope.names.any fun (n, k) => n == y && (k == .local || k == .cell))) = true := h
      rw [Bool.and_eq_true, Bool.and_eq_true, Bool.not_eq_true'] at h
      exact h
    exact ⟨elt, gens, scope, pos, rfl, h'.1.1, h'.1.2, h'.2⟩
  | _ => cases h
/-- a comprehension in a row of its own -/
theorem set_comp (g : GoodX c p k cf X) {i : Nat} {e : E} {y : Str} {py spos : Pos} {x : Expr} (hN : c.N[i]? = some y) (hc : chkC c y py x = true) (he : (match e with | .comp .. => true | .comp2 .. => true | _ => false) = true) (h : chkE e c B x = true) : PS X (.Assign [.Name y py] x spos) (tAsg (simE p cf B e) (gName i)) := by
  obtain ⟨elt, gens, scope, pos, rfl, q1, q2, q3⟩ := chkC_ok g hc
  cases e with
  | comp vs t it cd e =>
    match gens, h with
    | [⟨tg, iter, ifs, az⟩], h =>
      simp only [chkE_comp, Bool.and_eq_true, decide_eq_true_eq] at h
      obtain ⟨⟨⟨⟨⟨⟨⟨⟨rfl, h1⟩, h2⟩, h3⟩, h4⟩, h5⟩, h6⟩, h7⟩, h8⟩ := h
      have q := s_setC (spos := spos) (pos := pos) (own := ownL c.N vs) g hN q1 q2 q3 (chkI_ok it g h1) h2 (by rw [ownL_snd]; exact notB h3) (by rw [ownL_snd]; exact allIn h4) (fun X' g' => g_tg g' t h5) (fun X' g' => test_ok (B := B) h7 fun z hz => chkE_ok cd g' hz) (fun X' g' => (chkE_ok e g' h8).pe) (noSet_ok h6)
      rw [ownL_snd] at q
      exact q
    | [], h => simp [chkE_comp] at h
    | _ :: _ :: _, h => simp [chkE_comp] at h
  | comp2 vs vs1 t it cd t1 it1 cd1 e =>
    match gens, h with
    | [⟨tg, iter, ifs, az⟩, ⟨tg1, iter1, ifs1, az1⟩], h =>
      simp only [chkE_comp2, Bool.and_eq_true, decide_eq_true_eq] at h
      obtain ⟨⟨⟨⟨⟨⟨⟨⟨⟨⟨⟨⟨⟨⟨⟨rfl, rfl⟩, h1⟩, h2⟩, h3⟩, h4⟩, h5⟩, h6⟩, k1⟩, k2⟩, k3⟩, k4⟩, h7⟩, h8⟩, h9⟩, h10⟩ := h
      have q := s_setC2 (spos := spos) (pos := pos) (own := ownL c.N vs) (vs1 := vs1) g hN q1 q2 q3 (chkI_ok it g h1) h2 (by rw [ownL_snd]; exact notB h3) (by rw [ownL_snd]; exact allIn h4) (by rw [ownL_snd]; exact allIn k1) (allIn k2) (fun X' g' => g_tg g' t h5) (fun X' g' => test_ok (B := B) h7 fun z hz => chkE_ok cd g' hz)
        (fun X' g' => chkI_ok it1 g' h9) (fun X' g' => g_tg g' t1 k3) (fun X' g' => test_ok (B := B) h8 fun z hz => chkE_ok cd1 g' hz) (fun X' g' => (chkE_ok e g' h10).pe) (noSet_ok h6) (noSet_ok k4)
      rw [ownL_snd] at q
      exact q
    | [], h => simp [chkE_comp2] at h
    | [_], h => simp [chkE_comp2] at h
    | _ :: _ :: _ :: _, h => simp [chkE_comp2] at h
  | _ => cases he
theorem chkV_ok (g : GoodX c p k cf X) {i : Nat} {e : E} {y : Str} {py spos : Pos} {x : Expr} (hN : c.N[i]? = some y) (hs : stoC c y = true) (h : chkV e c B y py x = true) : PS X (.Assign [.Name y py] x spos) (tAsg (simE p cf B e) (gName i)) := by
  unfold chkV at h
  rw [Bool.and_eq_true, Bool.or_eq_true, Bool.or_eq_true, Bool.and_eq_true, Bool.not_eq_true'] at h
  obtain ⟨h1, h2⟩ := h
  rcases h1 with (h1 | ⟨h1, h3⟩) | h1
  · obtain ⟨hl, hs⟩ := stoC_ok g hs
    exact ps_set (by rw [g.N]; exact g.nd) (by rw [g.N]; exact hN) hl (chkE_ok e g h2).pe (sw_false h1) hs
  rotate_left
  · obtain ⟨hl, hs⟩ := stoC_ok g hs
    exact ps_set (by rw [g.N]; exact g.nd) (by rw [g.N]; exact hN) hl (chkE_ok e g h2).pe (sw_off (by rw [g.sc]; exact h1)) hs
  · unfold isComp at h3
    split at h3
    · exact set_comp g hN h1 rfl h2
    · exact set_comp g hN h1 rfl h2
    · rename_i is vs t it cd e
      exact PS.imp (set_comp (B := B.filter fun i => !is.contains i) g hN h1 rfl (by rw [chkE_lend] at h2; exact h2)) fun D σ H z => lendE_read is z
    · rename_i is vs vs1 t it cd t1 it1 cd1 e
      exact PS.imp (set_comp (B := B.filter fun i => !is.contains i) g hN h1 rfl (by rw [chkE_lend] at h2; exact h2)) fun D σ H z => lendE_read is z
    · cases h3
/-- what the checker's word means -/
def SayS (X : Cx) (p : Par) (cf : CF) (B Bl : List Nat) (a : S) (st : Stmt) (o : Option (List Nat)) : Prop := ∀ B', (o = none ∨ o = some B') → PS X st (simS p cf B B' Bl a)
def SaySs (X : Cx) (p : Par) (cf : CF) (B Bl : List Nat) (a : Ss) (st : List Stmt) (o : Option (List Nat)) : Prop := ∀ B', (o = none ∨ o = some B') → PSs X st (simSs p cf B B' Bl a)
theorem SayS.one {a : S} {st : Stmt} (h : PS X st (simS p cf B B' Bl a)) : SayS X p cf B Bl a st (some B') := fun B2 e => by
  rcases e with e | e
  · cases e
  · cases e; exact h
theorem back_ok {a : Ss} {st : List Stmt} {o : Option (Option (List Nat))} (h : backB B o = true) (ih : ∀ r, o = some r → SaySs X p cf B B a st r) : PSs X st (simSs p cf B B B a) := by
  unfold backB at h
  split at h
  · exact ih _ rfl B (.inl rfl)
  · rename_i b
    have : b = B := by simpa using h
    subst this
    exact ih _ rfl _ (.inr rfl)
  · cases h
theorem free_of {s : S} {i : Nat} (h : isFree s = some i) : s = .free i := by
  cases s <;> cases h
  rfl
theorem esO_ok (g : GoodX c p k cf X) : ∀ (es : Es) {o : Nat} {xs : List Expr}, chkEsO es o c B xs = true → PA X xs (simEsO p cf B es o)
  | .nil, o, xs, h => by cases h
  | .cons e es, o, xs, h => by
    match xs, o, h with
    | [], o, h => cases o <;> cases h
    | x :: xs, 0, h =>
      have h : (plainE x && fresh e && chkE e c B x && chkEs es c B xs) = true := h
      rw [Bool.and_eq_true, Bool.and_eq_true, Bool.and_eq_true] at h
      exact esO_here h.1.1.1 h.1.1.2 (chkE_ok e g h.1.2).pe (chkEs_ok es g h.2)
    | x :: xs, n + 1, h =>
      have h : (plainE x && chkE e c B x && chkEsO es n c B xs) = true := h
      rw [Bool.and_eq_true, Bool.and_eq_true] at h
      exact esO_there h.1.1 (chkE_ok e g h.1.2).pe (esO_ok g es h.2)
mutual
theorem chkS_ok : ∀ (a : S) {B Bl : List Nat} {st : Stmt} {o : Option (List Nat)}, GoodX c p k cf X → chkS a c B Bl st = some o → SayS X p cf B Bl a st o
  | .pass, B, Bl, st, o, g, h => by
    rw [chkS_pass] at h
    split at h
    · cases h; exact SayS.one s_pass
    · cases h; exact SayS.one s_doc
    · cases h
  | .drop e, B, Bl, st, o, g, h => by
    rw [chkS_drop] at h
    split at h
    · obtain ⟨h1, rfl⟩ := yesB_ok h
      rw [Bool.and_eq_true] at h1
      exact SayS.one (s_drop h1.1 (chkE_ok e g h1.2).pe)
    · cases h
  | .asg t e, B, Bl, st, o, g, h => by
    rw [chkS_asg] at h
    split at h
    · rename_i tg x pos
      obtain ⟨h1, rfl⟩ := yesB_ok h
      simp only [Bool.and_eq_true] at h1
      obtain ⟨⟨h1, h2⟩, h3⟩ := h1
      refine SayS.one ?_
      cases tg with
      | Name y py =>
        cases t with
        | name i =>
          have h1' : c.N[i]? = some y ∧ stoC c y = true := by simpa [chkTg] using h1
          exact s_asgC (notIn_ok h2 i (by simp [slots])) (chkV_ok g h1'.1 h1'.2 h3)
        | tup ts => cases h1
      | Tuple ts k1 pt =>
        simp only [Bool.and_eq_true, Bool.or_eq_true] at h3
        obtain ⟨⟨h3, h4⟩, h5⟩ := h3
        rcases h4 with h4 | h4
        · exact s_asg g h1 h3 h4 (notIn_ok h2) (chkE_ok e g h5).pe
        · cases x with
          | Tuple vs k2 pt2 =>
            rw [Bool.or_eq_true] at h4
            rcases h4 with h4 | h4
            · exact s_asgT g h1 h4 (notIn_ok h2) (chkE_ok e g h5).pe
            · exact s_asgN g h1 h4 (notIn_ok h2) (chkE_ok e g h5).pe
          | _ => cases h4
      | _ => cases h3
    · cases h
  | .par is es, B, Bl, st, o, g, h => by
    rw [chkS_par] at h
    split at h
    · obtain ⟨h1, rfl⟩ := yesB_ok h
      simp only [Bool.and_eq_true, decide_eq_true_eq, Bool.not_eq_true'] at h1
      obtain ⟨⟨⟨⟨⟨⟨⟨⟨⟨⟨⟨⟨h1, h2⟩, h3⟩, h4⟩, h5⟩, h6⟩, h7⟩, h8⟩, h9⟩, h10⟩, h11⟩, h12⟩, h13⟩ := h1
      have nb := notIn_ok h12
      exact SayS.one (s_par2 g h1 h2 h3 h4 h5 h6 h7 h8 h9 h10 h11 (nb _ (by simp)) (nb _ (by simp)) (chkEs_ok es g h13))
    · obtain ⟨h1, rfl⟩ := yesB_ok h
      simp only [Bool.and_eq_true, decide_eq_true_eq, Bool.not_eq_true'] at h1
      obtain ⟨⟨⟨⟨⟨⟨⟨⟨⟨⟨⟨⟨⟨⟨⟨⟨⟨⟨h1, h2⟩, h3⟩, h4⟩, h5⟩, h6⟩, h7⟩, h8⟩, h9⟩, h10⟩, h11⟩, h12⟩, h13⟩, h14⟩, h15⟩, h16⟩, h17⟩, h18⟩, h19⟩ := h1
      have nb := notIn_ok h18
      exact SayS.one (s_par3 g h1 h2 h3 h4 h5 h6 h7 h8 h9 h10 h11 h12 h13 h14 h15 h16 h17 (nb _ (by simp)) (nb _ (by simp)) (nb _ (by simp)) (chkEs_ok es g h19))
    · cases h
  | .parO is o' es, B, Bl, st, o, g, h => by
    rw [chkS_parO] at h
    split at h
    · obtain ⟨h1, rfl⟩ := yesB_ok h
      simp only [Bool.and_eq_true, decide_eq_true_eq, Bool.not_eq_true'] at h1
      obtain ⟨⟨⟨⟨⟨⟨⟨⟨⟨⟨⟨⟨⟨h1, h2⟩, h3⟩, h4⟩, h5⟩, h6⟩, h7⟩, h8⟩, h9⟩, h10⟩, h11⟩, h12⟩, h13⟩, h14⟩ := h1
      have nb := notIn_ok h12
      obtain ⟨io, hio⟩ := Option.isSome_iff_exists.mp h13
      rw [hio]
      exact SayS.one (s_parO2 g h1 h2 h3 h4 h5 h6 h7 h8 h9 h10 h11 (nb _ (by simp)) (nb _ (by simp)) hio (esO_ok g es h14))
    · obtain ⟨h1, rfl⟩ := yesB_ok h
      simp only [Bool.and_eq_true, decide_eq_true_eq, Bool.not_eq_true'] at h1
      obtain ⟨⟨⟨⟨⟨⟨⟨⟨⟨⟨⟨⟨⟨⟨⟨⟨⟨⟨⟨h1, h2⟩, h3⟩, h4⟩, h5⟩, h6⟩, h7⟩, h8⟩, h9⟩, h10⟩, h11⟩, h12⟩, h13⟩, h14⟩, h15⟩, h16⟩, h17⟩, h18⟩, h19⟩, h20⟩ := h1
      have nb := notIn_ok h18
      obtain ⟨io, hio⟩ := Option.isSome_iff_exists.mp h19
      rw [hio]
      exact SayS.one (s_parO3 g h1 h2 h3 h4 h5 h6 h7 h8 h9 h10 h11 h12 h13 h14 h15 h16 h17 (nb _ (by simp)) (nb _ (by simp)) (nb _ (by simp)) hio (esO_ok g es h20))
    · cases h
  | .own i e, B, Bl, st, o, g, h => by
    rw [chkS_own] at h
    split at h
    · obtain ⟨h1, rfl⟩ := yesB_ok h
      simp only [Bool.and_eq_true, decide_eq_true_eq] at h1
      obtain ⟨⟨⟨⟨h1, h2⟩, h3⟩, h4⟩, h5⟩ := h1
      exact SayS.one (s_ownC (notIn_ok h3 i (by simp)) h4 (chkV_ok g h1 h2 h5))
    · cases h
  | .ownD i, B, Bl, st, o, g, h => by
    rw [chkS_ownD] at h
    split at h
    · obtain ⟨h1, rfl⟩ := yesB_ok h
      simp only [Bool.and_eq_true, decide_eq_true_eq] at h1
      obtain ⟨⟨h1, h2⟩, h3⟩ := h1
      exact SayS.one (s_ownD g h1 h2 (notIn_ok h3 i (by simp)))
    · cases h
  | .ownDD i j, B, Bl, st, o, g, h => by
    rw [chkS_ownDD] at h
    split at h
    · obtain ⟨h1, rfl⟩ := yesB_ok h
      rw [Bool.and_eq_true, Bool.and_eq_true, Bool.or_eq_true, decide_eq_true_eq] at h1
      obtain ⟨⟨h3, h10⟩, h1⟩ := h1
      have nb := notIn_ok h10
      rcases h1 with h1 | h1
      · simp only [Bool.and_eq_true, decide_eq_true_eq, Bool.not_eq_true'] at h1
        obtain ⟨⟨⟨⟨⟨⟨⟨h1, h2⟩, h4⟩, h5⟩, h6⟩, h7⟩, h8⟩, h9⟩ := h1
        exact SayS.one (s_ownDD g h1 h2 h3 h4 h5 h6 h7 h8 h9 (nb _ (by simp)) (nb _ (by simp)))
      · rw [Bool.and_eq_true] at h1
        exact SayS.one (s_ownDDN g h1.1 h3 h1.2 (nb _ (by simp)) (nb _ (by simp)))
    · cases h
  | .popL j i e, B, Bl, st, o, g, h => by
    rw [chkS_popL] at h
    split at h
    · obtain ⟨h1, rfl⟩ := yesB_ok h
      simp only [Bool.and_eq_true, decide_eq_true_eq] at h1
      obtain ⟨⟨⟨⟨⟨⟨⟨⟨⟨⟨h1, h2⟩, h3⟩, h4⟩, h5⟩, h6⟩, h7⟩, h8⟩, h9⟩, h10⟩, h11⟩ := h1
      subst h1
      exact SayS.one (s_popL g h2 h3 h4 h5 h6 h7 h8 (by simpa using h9) (notIn_ok h10 j (by simp)) (chkE_ok e g h11).pe)
    · cases h
  | .free i, B, Bl, st, o, g, h => by cases h
  | .app i e, B, Bl, st, o, g, h => by
    rw [chkS_app] at h
    split at h
    · obtain ⟨h1, rfl⟩ := yesB_ok h
      simp only [Bool.and_eq_true, decide_eq_true_eq] at h1
      obtain ⟨⟨⟨⟨⟨⟨⟨h1, h2⟩, h3⟩, h4⟩, h5⟩, h6⟩, h7⟩, h8⟩ := h1
      subst h1
      exact SayS.one (s_app g h2 h3 h4 h5 h6 (by simpa using h7) (chkE_ok e g h8).pe)
    · cases h
  | .setL i ke e, B, Bl, st, o, g, h => by
    rw [chkS_setL] at h
    split at h
    · obtain ⟨h1, rfl⟩ := yesB_ok h
      simp only [Bool.and_eq_true, decide_eq_true_eq] at h1
      obtain ⟨⟨⟨⟨⟨⟨⟨h1, h2⟩, h3⟩, h4⟩, h5⟩, h6⟩, h7⟩, h8⟩ := h1
      exact SayS.one (s_setL g h1 h2 h3 (by simpa using h4) h5 h6 (chkE_ok ke g h7).pe (chkE_ok e g h8).pe)
    · cases h
  | .setP i ke e, B, Bl, st, o, g, h => by
    rw [chkS_setP] at h
    split at h
    · obtain ⟨h1, rfl⟩ := yesB_ok h
      simp only [Bool.and_eq_true, decide_eq_true_eq] at h1
      obtain ⟨⟨⟨⟨⟨⟨⟨h1, h2⟩, h3⟩, h4⟩, h5⟩, h6⟩, h7⟩, h8⟩ := h1
      exact SayS.one (s_setP g h1 h2 h3 (notIn_ok h4 i (by simp)) h5 h6 (chkE_ok ke g h7).pe (chkE_ok e g h8).pe)
    · cases h
  | .ret e, B, Bl, st, o, g, h => by
    rw [chkS_ret] at h
    split at h
    · obtain ⟨h1, rfl⟩ := yesB_ok h
      exact fun B' _ => s_ret (chkE_ok e g h1).pe
    · cases h
  | .retN, B, Bl, st, o, g, h => by
    rw [chkS_retN] at h
    split at h
    · cases h
      exact fun B' _ => s_retN
    · cases h
  | .ite d a b, B, Bl, st, o, g, h => by
    rw [chkS_ite] at h
    split at h
    · split at h
      · rename_i hd
        rename_i x as bs pos
        cases e1 : chkSs a c B Bl as with
        | none => rw [e1] at h; cases h
        | some o1 =>
          cases e2 : chkSs b c B Bl bs with
          | none => rw [e1, e2] at h; cases h
          | some o2 =>
            rw [e1, e2] at h
            have h : joinB o1 o2 = some o := h
            have ih1 := chkSs_ok a g e1
            have ih2 := chkSs_ok b g e2
            intro B' hB
            refine s_if (chkE_ok d g hd).pt (ih1 B' ?_) (ih2 B' ?_)
            · unfold joinB at h
              split at h
              · exact .inl rfl
              · cases h; exact hB
              · split at h
                · cases h; exact hB
                · cases h
            · unfold joinB at h
              split at h
              · cases h; exact hB
              · exact .inl rfl
              · split at h
                · rename_i hab
                  cases h
                  rw [← hab]; exact hB
                · cases h
      · cases h
    · cases h
  | .for_ t it b, B, Bl, st, o, g, h => by
    rw [chkS_for_] at h
    split at h
    · obtain ⟨h1, rfl⟩ := yesB_ok h
      simp only [Bool.and_eq_true] at h1
      obtain ⟨⟨⟨⟨h1, h2⟩, h3⟩, h4⟩, h5⟩ := h1
      exact SayS.one (s_for g (chkI_ok it g h1) (g_tg g t h2) (notIn_ok h3) (back_ok h5 fun r hr => chkSs_ok b g hr) (noSet_ok h4))
    · cases h
  | .while_ d b, B, Bl, st, o, g, h => by
    rw [chkS_while_] at h
    split at h
    · obtain ⟨h1, rfl⟩ := yesB_ok h
      simp only [Bool.and_eq_true] at h1
      exact SayS.one (s_while g (chkE_ok d g h1.1).pt (back_ok h1.2 fun r hr => chkSs_ok b g hr))
    · cases h
  | .brk, B, Bl, st, o, g, h => by
    rw [chkS_brk] at h
    split at h
    · obtain ⟨h1, rfl⟩ := yesB_ok h
      have : Bl = B := by simpa using h1
      subst this
      exact fun B' _ => s_brk
    · cases h
  | .cont, B, Bl, st, o, g, h => by
    rw [chkS_cont] at h
    split at h
    · obtain ⟨h1, rfl⟩ := yesB_ok h
      have : Bl = B := by simpa using h1
      subst this
      exact fun B' _ => s_cont
    · cases h
  | .raise i, B, Bl, st, o, g, h => fun B' _ => s_raise
theorem chkSs_ok : ∀ (a : Ss) {B Bl : List Nat} {xs : List Stmt} {o : Option (List Nat)}, GoodX c p k cf X → chkSs a c B Bl xs = some o → SaySs X p cf B Bl a xs o
  | .nil, B, Bl, xs, o, g, h => by
    rw [chkSs_nil] at h
    obtain ⟨h1, rfl⟩ := yesB_ok h
    cases xs with
    | nil =>
      intro B' e
      rcases e with e | e
      · cases e
      · cases e; exact ss_nil
    | cons _ _ => cases h1
  | .cons s ss, B, Bl, xs, o, g, h => by
    rw [chkSs_cons] at h
    cases e0 : isFree s with
    | some i =>
      rw [e0] at h
      have := free_of e0
      subst this
      intro B' e
      exact ss_free (chkSs_ok ss g h B' e)
    | none =>
      rw [e0] at h
      cases xs with
      | nil => cases h
      | cons st sts =>
        cases e1 : chkS s c B Bl st with
        | none =>
          simp only [e1] at h
          cases h
        | some o1 =>
          have ih := chkS_ok s g e1
          cases o1 with
          | none =>
            simp only [e1] at h
            intro B' e
            exact ss_cons (ih B (.inl rfl)) (chkSs_ok ss g h B' e)
          | some B1 =>
            simp only [e1] at h
            intro B' e
            exact ss_cons (ih B1 (.inr rfl)) (chkSs_ok ss g h B' e)
end
end
end PyI

set_option maxRecDepth 100000
set_option maxHeartbeats 10000000
/-! PyI19: defs, the table, the law. -/
namespace PyI
open PySem PySem.Spec PyProof.Rows L2

/-- a def of the text and its tree -/
structure PDef where
  name : Str
  st : Stmt
  ps : List Str
  N : List Str
  f : Fn
structure Prg where
  defs : List PDef
  cons : List (Str × PV)
  free : List Str
def numD : List PDef → Nat → List (Str × Nat)
  | [], _ => []
  | d :: ds, i => (d.name, i) :: numD ds (i + 1)
def Prg.ctx (P : Prg) (d : PDef) : Ctx := { N := d.N, sc := defScope d.st, fns := numD P.defs 0, cons := P.cons, free := P.free, fnF := fun _ => true }
def Prg.tbl (P : Prg) : Tbl := fun i => (P.defs[i]?).map (·.f)
theorem numD_get : ∀ (ds : List PDef) (n : Nat) {x : Str} {i : Nat}, (numD ds n).lookup x = some i → ∃ d, n ≤ i ∧ ds[i - n]? = some d ∧ d.name = x
  | [], n, x, i, h => by cases h
  | d :: ds, n, x, i, h => by
    unfold numD at h
    rw [List.lookup_cons] at h
    cases hx : x == d.name with
    | true =>
      rw [hx] at h
      cases h
      exact ⟨d, Nat.le_refl _, by simp, (eq_of_beq hx).symm⟩
    | false =>
      rw [hx] at h
      obtain ⟨d', h1, h2, h3⟩ := numD_get ds (n + 1) h
      refine ⟨d', by omega, ?_, h3⟩
      rw [show i - n = (i - (n + 1)) + 1 by omega, List.getElem?_cons_succ]
      exact h2
/-- the def and its tree fit -/
def chkD (P : Prg) (d : PDef) : Bool :=
  (match (defScope d.st).kind with | .function => true | _ => false) && !(defScope d.st).isCoroutine && !(defScope d.st).isGenerator && decide d.N.Nodup && decide (d.N.take d.ps.length = d.ps) &&
  (d.ps.all fun x => locC (defScope d.st) x) && ((defScope d.st).names.all fun y => match y.2 with | .free => false | _ => true) && decide (d.f.np = d.ps.length) && decide (d.f.nn = d.N.length) && (chkSs d.f.body (P.ctx d) [] [] (defBody d.st)).isSome
theorem chkD_sc {P : Prg} {d : PDef} (h : chkD P d = true) : FnScope d.N d.ps (defScope d.st) ∧ d.f.np = d.ps.length ∧ d.f.nn = d.N.length ∧ (∃ o, chkSs d.f.body (P.ctx d) [] [] (defBody d.st) = some o) := by
  unfold chkD at h
  simp only [Bool.and_eq_true, decide_eq_true_eq, Bool.not_eq_true'] at h
  obtain ⟨⟨⟨⟨⟨⟨⟨⟨⟨h1, h2⟩, h3⟩, h4⟩, h5⟩, h6⟩, h7⟩, h8⟩, h9⟩, h10⟩ := h
  refine ⟨⟨?_, h2, h3, h4, h5, fun x hx => locC_ok (List.all_eq_true.mp h6 x hx), fun y hy e => ?_⟩, h8, h9, Option.isSome_iff_exists.mp h10⟩
  · split at h1
    · assumption
    · cases h1
  · have := List.all_eq_true.mp h7 y hy
    rw [e] at this
    cases this
/-- its arguments are bound -/
def BindsH (d : PDef) : Prop := ∀ (kV doc pm : Value) (an : Option Addr) (cdv ct : Value) (us : List Value), us.length = d.ps.length → bindArgs (PySem.W.fnOf d.name d.name (defArgs d.st) (defBody d.st) (defScope d.st) .none kV doc pm an cdv ct) ⟨us, []⟩ = pure (d.ps.zip us)
def AllB : List PDef → Prop
  | [] => True
  | d :: ds => BindsH d ∧ AllB ds
theorem AllB.at_ : ∀ {ds : List PDef} {i : Nat} {d : PDef}, AllB ds → ds[i]? = some d → BindsH d
  | _ :: _, 0, _, h, e => by cases e; exact h.1
  | _ :: ds, i + 1, d, h, e => AllB.at_ (ds := ds) (i := i) h.2 (by simpa using e)

/-! ### constants of the module -/
mutual
def pvB (K : PySem.W.Frag) : PV → Value → Bool
  | .non, .none => true
  | .bl b, .bool c => b == c
  | .int i, .int j _ => decide (i = j)
  | .str x, .str y _ => decide (strOf x = y) && okS x
  | .tup xs, .ref a => (match K.lookup a with
    | some o => (match o.cls, o.data with
      | .type c, .seq its _ => decide (c = "tuple") && decide (its.size ≤ sizeLine) && pvBs K xs its.toList
      | _, _ => false)
    | none => false)
  | .scr xs, .ref a => (match K.lookup a with
    | some o => (match o.cls, o.dict, o.data with
      | .type c, none, .seq its _ => decide (c = "list") && decide (its.size ≤ sizeLine) && pvBs K xs its.toList
      | _, _, _ => false)
    | none => false)
  | _, _ => false
def pvBs (K : PySem.W.Frag) : List PV → List Value → Bool
  | [], [] => true
  | x :: xs, u :: us => pvB K x u && pvBs K xs us
  | _, _ => false
end
section
variable {K : PySem.W.Frag} {fa : Nat → Addr}
mutual
theorem pvB_ok : ∀ {x : PV} {u : Value}, pvB K x u = true → ∃ v, L2.RelV v u ∧ PRel K fa [] (fun _ => none) x v
  | .non, u, h => by
    cases u with
    | none => exact ⟨.non, rfl, .non⟩
    | _ => simp [pvB] at h
  | .bl b, u, h => by
    cases u with
    | bool c =>
      have : b = c := by simpa [pvB] using h
      subst this
      exact ⟨.bl b, rfl, .bl b⟩
    | _ => simp [pvB] at h
  | .int i, u, h => by
    cases u with
    | int j t =>
      have : i = j := by simpa [pvB] using h
      subst this
      exact ⟨.int i, ⟨_, rfl⟩, .int i⟩
    | _ => simp [pvB] at h
  | .str x, u, h => by
    cases u with
    | str y t =>
      have h' : strOf x = y ∧ okS x = true := by simpa [pvB] using h
      rw [← h'.1]
      exact ⟨.str _, ⟨_, rfl⟩, .str x h'.2⟩
    | _ => simp [pvB] at h
  | .tup xs, u, h => by
    cases u with
    | ref a =>
      rw [show pvB K (.tup xs) (.ref a) = (match K.lookup a with
        | some o => (match o.cls, o.data with
          | .type c, .seq its _ => decide (c = "tuple") && decide (its.size ≤ sizeLine) && pvBs K xs its.toList
          | _, _ => false)
        | none => false) from rfl] at h
      cases q : K.lookup a with
      | none => rw [q] at h; cases h
      | some o =>
        rw [q] at h
        simp only [] at h
        split at h
        · rename_i c its n hc hd
          simp only [Bool.and_eq_true, decide_eq_true_eq] at h
          obtain ⟨⟨h1, h2⟩, h3⟩ := h
          subst h1
          obtain ⟨vs, rv, r⟩ := pvBs_ok h3
          exact ⟨.ref a, rfl, .tup (.inr ⟨o, its, n, q, hc, hd, h2, rv⟩) r⟩
        · cases h
    | _ => simp [pvB] at h
  | .scr xs, u, h => by
    cases u with
    | ref a =>
      rw [show pvB K (.scr xs) (.ref a) = (match K.lookup a with
        | some o => (match o.cls, o.dict, o.data with
          | .type c, none, .seq its _ => decide (c = "list") && decide (its.size ≤ sizeLine) && pvBs K xs its.toList
          | _, _, _ => false)
        | none => false) from rfl] at h
      cases q : K.lookup a with
      | none => rw [q] at h; cases h
      | some o =>
        rw [q] at h
        simp only [] at h
        split at h
        · rename_i c its n hc hdd hd
          simp only [Bool.and_eq_true, decide_eq_true_eq] at h
          obtain ⟨⟨h1, h2⟩, h3⟩ := h
          subst h1
          obtain ⟨vs, rv, r⟩ := pvBs_ok h3
          exact ⟨.ref a, rfl, .scr (.inr ⟨o, its, n, q, hc, hdd, hd, h2, rv⟩) r⟩
        · cases h
    | _ => simp [pvB] at h
  | .lst _, u, h => by simp [pvB] at h
  | .fn _, u, h => by simp [pvB] at h
  | .loc _, u, h => by simp [pvB] at h
theorem pvBs_ok : ∀ {xs : List PV} {us : List Value}, pvBs K xs us = true → ∃ vs, Vals vs us ∧ PRels K fa [] (fun _ => none) xs vs
  | [], [], _ => ⟨[], .nil, .nil⟩
  | [], _ :: _, h => by simp [pvBs] at h
  | _ :: _, [], h => by simp [pvBs] at h
  | x :: xs, u :: us, h => by
    have h' : pvB K x u = true ∧ pvBs K xs us = true := by simpa [pvBs] using h
    obtain ⟨v, r, q⟩ := pvB_ok h'.1
    obtain ⟨vs, rs, qs⟩ := pvBs_ok h'.2
    exact ⟨v :: vs, .cons r rs, .cons q qs⟩
end
end
def conB (K : PySem.W.Frag) (q : Str × PV) : Bool := match PySem.W.nsIn K mainGlobals q.1 with
  | some (some u) => pvB K q.2 u
  | _ => false

/-! ### the Hook -/
def PDef.dd (d : PDef) : He.DefD := ⟨(d.name, none), d.name, d.name, defArgs d.st, defBody d.st, defScope d.st, [], []⟩
def Prg.fas (P : Prg) : List He.Fa := P.defs.map (fun d => .glo d.name) ++ P.free.map .free
abbrev AlP : Type := He.AlD × Bool
def obsP (P : Prg) (K : PySem.W.Frag) : AlP := (He.obsD P.fas (P.defs.map PDef.dd) K, P.cons.all fun q => conB K q)
def valP (P : Prg) : AlP := (He.valD (P.defs.map PDef.dd), true)
def SaysP (P : Prg) (K : PySem.W.Frag) : Prop := obsP P K = valP P
def obsPG (n : Nat) (P : Prg) (g : Addr → Option Obj) : AlP := obsP P (He.frG g (He.asD g n))
def hookP (n : Nat) (P : Prg) : PySem.W.Hook where
  α := AlP
  obs := fun s => obsPG n P s.heap.get?
  val := fun _ => valP P
  says := fun _ h => ∃ K : PySem.W.Frag, K.In h ∧ SaysP P K
  of := fun _ _ e => ⟨_, He.frG_in, e⟩
  keeps := fun _ _ _ ⟨K, hK, c⟩ k => ⟨K, PySem.W.Frag.In.keeps hK k, c⟩
theorem obsPG_eq {n : Nat} {P : Prg} {g : Addr → Option Obj} {s : Shared} (h : ∀ a, g a = s.heap.get? a) : obsPG n P g = (hookP n P).obs s := by
  have e : g = s.heap.get? := funext h
  rw [e] <;> rfl
section
variable {P : Prg} {K : PySem.W.Frag}
theorem SaysP.d (c : SaysP P K) : He.SaysD P.fas (P.defs.map PDef.dd) K := congrArg (fun z : AlP => z.1) c
theorem SaysP.con (c : SaysP P K) {x : Str} {v : PV} (h : P.cons.lookup x = some v) : conB K (x, v) = true := by
  have c2 : (P.cons.all fun q => conB K q) = true := congrArg (fun z : AlP => z.2) c
  exact List.all_eq_true.mp c2 _ (PySem.mem_of_lookup h)
theorem SaysP.fn (c : SaysP P K) {i : Nat} {d : PDef} (h : P.defs[i]? = some d) : ∃ fd, FunD K d.name d.name (defArgs d.st) (defBody d.st) (defScope d.st) [] [] (He.ga K d.name) fd := c.d.def_ i (d := d.dd) (by rw [List.getElem?_map, h]; rfl)
theorem SaysP.glo {h : Heap} {mg : Str → Option Value} (c : SaysP P K) (X : K.In h) (G : h.Ns mainGlobals mg) {i : Nat} {d : PDef} (e : P.defs[i]? = some d) : mg d.name = some (.ref (He.ga K d.name)) :=
  He.glo_ok X G (c.d.fact i (f := .glo d.name) (by
    show (P.defs.map _ ++ P.free.map _)[i]? = _
    rw [List.getElem?_append_left (by simpa using (List.getElem?_eq_some_iff.mp e).1), List.getElem?_map, e]; rfl))
theorem SaysP.freeN {h : Heap} {mg : Str → Option Value} (c : SaysP P K) (X : K.In h) (G : h.Ns mainGlobals mg) {x : Str} (e : x ∈ P.free) : mg x = none := by
  obtain ⟨i, hi, rfl⟩ := List.getElem_of_mem e
  exact He.free_ok X G (c.d.fact (P.defs.length + i) (f := .free P.free[i]) (by
    show (P.defs.map _ ++ P.free.map _)[_]? = _
    rw [List.getElem?_append_right (by simp)]
    simp [hi]))
end

/-! ### every def keeps its promise -/
section
variable {Pr : Program} {w : World} {K : PySem.W.Frag} {mg : Str → Option Value} {base : Heap} {P : Prg}
def faOf (P : Prg) (K : PySem.W.Frag) (i : Nat) : Addr := He.ga K (((P.defs[i]?).map (·.name)).getD Str.empty)
theorem faOf_at {i : Nat} {d : PDef} (e : P.defs[i]? = some d) : faOf P K i = He.ga K d.name := by
  unfold faOf
  rw [e]
  rfl
theorem run_len {cf : CF} {f : Fn} {xs : List PV} {s s' : Store} {v : PV} (h : runFn cf f xs s = .ok v s') : xs.length = f.np := by
  unfold runFn at h
  split at h
  · assumption
  · cases h
theorem run_body {cf : CF} {f : Fn} {xs : List PV} {s s' : Store} {v : PV} (h : runFn cf f xs s = .ok v s') : ∃ fl, exs cf f.body (xs.map some ++ List.replicate (f.nn - xs.length) none) s = .ok fl s' ∧ ((∃ r, fl = .next r ∧ v = .non) ∨ fl = .ret v) := by
  unfold runFn at h
  split at h
  · obtain ⟨fl, s1, e1, f1⟩ := Res.bind_eq_ok h
    cases fl with
    | ret u => cases f1; exact ⟨_, e1, .inr rfl⟩
    | next r => cases f1; exact ⟨_, e1, .inl ⟨r, rfl, rfl⟩⟩
    | _ => cases f1
  · cases h
theorem callF_run {tbl : Tbl} {k i : Nat} {xs : List PV} {s s' : Store} {v : PV} (h : callF tbl (k + 1) i xs s = .ok v s') : ∃ f, tbl i = some f ∧ runFn (callF tbl k) f xs s = .ok v s' := by
  have h : (match tbl i with | some f => runFn (callF tbl k) f xs s | none => .bad) = .ok v s' := h
  split at h
  · exact ⟨_, by assumption, h⟩
  · cases h
theorem tbl_at {i : Nat} {f : Fn} (h : P.tbl i = some f) : ∃ d, P.defs[i]? = some d ∧ d.f = f := by
  unfold Prg.tbl at h
  cases e : P.defs[i]? with
  | none => rw [e] at h; cases h
  | some d => rw [e] at h; cases h; exact ⟨d, rfl, rfl⟩
/-- the def's entry -/
theorem entry {fa : Nat → Addr} {M : Addr → Prop} {ρ : List Addr} {H : Hp} {xs : List PV} {vs : List V} {s : Store} {n : Nat} (th : ∀ b, M b → H b ≠ none ∧ b ∉ ρ) (st : StR ρ H s) (r : PRels K fa ρ (fz (Mt M ρ) H) xs vs) :
    SI ⟨K, fa, M, ρ, H⟩ [] ρ M [] (vs.map some ++ List.replicate (n - vs.length) none) H (xs.map some ++ List.replicate (n - xs.length) none) s where
  bs := rfl
  bnd := .nil
  pre := List.prefix_rfl
  new := fun a h n => absurd h n
  frame := fun b o h _ => h
  m0 := fun b h => h
  th := th
  st := st
  len := by simp [r.length]
  vars := fun i v _ e => by
    by_cases hi : i < xs.length
    · rw [List.getElem?_append_left (by simpa using hi), List.getElem?_map] at e
      cases q : xs[i]? with
      | none => rw [q] at e; cases e
      | some x =>
        rw [q] at e
        cases e
        obtain ⟨u, h1, h2⟩ := r.get q
        refine ⟨u, ?_, h2⟩
        rw [List.getElem?_append_left (by simpa [r.length] using (List.getElem?_eq_some_iff.mp h1).1), List.getElem?_map, h1]
        rfl
    · rw [List.getElem?_append_right (by simpa using hi), List.getElem?_replicate] at e
      split at e <;> cases e
  owns := fun i a h => by simp at h
  dis := .nil
theorem all_ok (KB : K.In base) (G : base.Ns mainGlobals mg) (c : SaysP P K) (hc : P.defs.all (chkD P) = true) (hb : AllB P.defs) :
    ∀ (k : Nat) {i : Nat} {d : PDef} {fd : FuncData}, P.defs[i]? = some d → FunD K d.name d.name (defArgs d.st) (defBody d.st) (defScope d.st) [] [] (He.ga K d.name) fd →
      FnOk Pr w K mg base CX0 k (faOf P K i) fd d.ps (simSp K (faOf P K) (callF P.tbl k) d.ps.length i)
  | 0, i, d, fd, e, F => ⟨fun vs H Q E h => h.1, fun A outer s H args us vs Q E hr e0 b r h => by
      obtain ⟨_, _, _, _, _, _, _, _, v, s', hcf, _⟩ := h
      cases hcf⟩
  | k + 1, i, d, fd, e, F => by
    rw [faOf_at e]
    have hd := List.all_eq_true.mp hc d (List.mem_of_getElem? e)
    obtain ⟨S, hnp, hnn, o, hbody⟩ := chkD_sc hd
    refine F.ok S (fun vs H Q E h => h.1) fun cdv A outer s H vs Q E hr h => ?_
    obtain ⟨hl, M, ρ, xs, s0, th, st, r, v, s', hcf, q⟩ := h
    obtain ⟨f, hf, hrun⟩ := callF_run hcf
    obtain ⟨d', e', hf'⟩ := tbl_at hf
    rw [e] at e'
    cases e'
    subst hf'
    obtain ⟨fl, hex, hfl⟩ := run_body hrun
    have g : GoodX (P.ctx d) ⟨K, faOf P K, M, ρ, H⟩ k (callF P.tbl k) (cxOf CX0 Pr w K mg base d.N d.name (defScope d.st) (He.ga K d.name) cdv A outer s H E).nox := by
      refine ⟨rfl, S.nd, rfl, rfl, rfl, hr, rfl, fun x _ => rfl, S.kind, fun x j hx => ?_, fun x v hx => ?_, fun x hx => c.freeN KB G hx⟩
      · obtain ⟨dj, _, h2, h3⟩ := numD_get P.defs 0 (show (numD P.defs 0).lookup x = some j from hx)
        have h2 : P.defs[j]? = some dj := h2
        subst h3
        obtain ⟨fdj, Fj⟩ := c.fn h2
        refine ⟨?_, ?_, fdj, dj.ps, all_ok KB G c hc hb k h2 Fj, FunD.bindsN Fj (hb.at_ h2), fun xs s v s' hj => ?_⟩
        · show mg dj.name = some (.ref (faOf P K j))
          rw [faOf_at h2]; exact c.glo KB G h2
        · show PySem.W.keepIn K (.ref (faOf P K j)) = true
          rw [faOf_at h2]; exact Fj.kp
        · cases k with
          | zero => cases hj
          | succ k =>
            obtain ⟨f, hf, hr⟩ := callF_run hj
            obtain ⟨d', e', hf'⟩ := tbl_at hf
            rw [h2] at e'
            cases e'
            subst hf'
            rw [run_len hr]
            exact (chkD_sc (List.all_eq_true.mp hc dj (List.mem_of_getElem? h2))).2.1
      · have hq := c.con (show P.cons.lookup x = some v from hx)
        unfold conB at hq
        split at hq
        · rename_i u hu
          obtain ⟨z, r1, r2⟩ := pvB_ok (fa := faOf P K) hq
          exact ⟨u, z, PySem.W.mg_of KB G hu, r1, r2⟩
        · cases hq
    have hB : ∃ B', PSs (cxOf CX0 Pr w K mg base d.N d.name (defScope d.st) (He.ga K d.name) cdv A outer s H E).nox (defBody d.st) (simSs ⟨K, faOf P K, M, ρ, H⟩ (callF P.tbl k) [] B' [] d.f.body) := by
      have z := chkSs_ok d.f.body g hbody
      cases o with
      | none => exact ⟨[], z [] (.inl rfl)⟩
      | some B' => exact ⟨B', z B' (.inr rfl)⟩
    obtain ⟨B', hB⟩ := hB
    refine ⟨_, PSs.nox hB, ρ, M, [], _, s0, entry th st r, fl, s', by rw [← hnn]; exact hex, ?_⟩
    rcases hfl with ⟨r', rfl, rfl⟩ | rfl
    · exact fun ρ' Y' ow' σ' H' I' x => q .non H' ρ' I'.whole I'.st .non
    · exact fun u H' ρ' t st' r' => q u H' ρ' t st' r'
end
end PyI

set_option maxRecDepth 100000
set_option maxHeartbeats 10000000
/-! PyI20: the law's end. -/
namespace PyI
open PySem PySem.Spec PyProof.Rows L2
/-- the law's facts, behind the top -/
theorem law_facts {Pr : Program} {w : World} {P : Prg} {K : PySem.W.Frag} {h : Heap} {mg : Str → Option Value} {f : Addr} {k iL : Nat} {d : PDef} (X : K.In h) (G : h.Ns mainGlobals mg) (c : SaysP P K) (hc : P.defs.all (chkD P) = true) (hb : AllB P.defs)
    (e : P.defs[iL]? = some d) (hp : d.ps.length = 1) (hfa : mg d.name = some (.ref f)) :
    ∃ fd : FuncData, (∀ (s : Shared) (v : Value), BindsTo s fd ⟨[v], []⟩ (d.ps.zip [v])) ∧ ∀ base : Heap, K.In base → base.Ns mainGlobals mg → FnOk Pr w K mg base CX0 k f fd d.ps (simSp K (faOf P K) (callF P.tbl k) d.ps.length iL) := by
  obtain ⟨fd, F⟩ := c.fn e
  have e2 := hfa.symm.trans (c.glo X G e)
  have e3 : f = He.ga K d.name := by
    have := Option.some.inj e2
    exact Value.ref.inj this
  subst e3
  have b := FunD.bindsA (ps := d.ps) F (hb.at_ e)
  refine ⟨fd, fun s v => b s [v] (by rw [hp]; rfl), fun base KB GB => ?_⟩
  have q := all_ok (Pr := Pr) (w := w) KB GB c hc hb k e F
  rwa [faOf_at e] at q
/-- the law's promise -/
theorem law_says {K : PySem.W.Frag} {fa : Nat → Addr} {cf : CF} {iL : Nat} (hlaw : ∀ ns : List Int, ns.length ≤ 63 → ∃ s', cf iL [.scr (ns.map .int)] [] = .ok (.bl true) s') (H : Hp) (a : Addr) (ns : List Int) (hl : ns.length ≤ 63) (hO : Only H) (hS : SqL K H a (ns.map V.int)) :
    simSp K fa cf 1 iL [.ref a] H (fun v _ => v = .bl true) fun _ _ _ => False := by
  obtain ⟨s', e⟩ := hlaw ns hl
  have hsc : ScL K H a (ns.map V.int) := by
    rcases hS with (h | h) | h
    · rcases hO a with q | ⟨o, xs, q⟩
      · rw [h] at q; cases q
      · rw [h] at q; cases q
    · exact .inl h
    · exact .inr h
  refine ⟨rfl, fun _ => False, [], _, [], fun b h => h.elim, ⟨rfl, .nil, fun i xs h => by simp at h⟩, .cons (.scr (vs := ns.map V.int) ?_ (PRels.of_ints ns)) .nil, .bl true, s', e, fun u H' ρ' _ _ r => by cases r; rfl⟩
  refine Same.scL (fun b o h => ?_) hsc
  rw [fz_eq]
  · exact h
  · rintro (z | z)
    · exact z
    · simp at z
end PyI

/-! PyE: the interpreter's equations. -/
namespace PyI
@[simp] theorem ev_con (cf : CF) (v) (r : Env) (s : Store) : ev cf (.con v) r s = .ok v s := rfl
@[simp] theorem ev_var (cf : CF) (i) (r : Env) (s : Store) : ev cf (.var i) r s = match r[i]? with
    | some (some v) => .ok v s
    | _ => .bad := rfl
@[simp] theorem ev_bin (cf : CF) (o a b) (r : Env) (s : Store) : ev cf (.bin o a b) r s = (ev cf a r s).bind fun x s => (ev cf b r s).bind fun y s => Res.ofO (binop o x y) s := rfl
@[simp] theorem ev_un (cf : CF) (o a) (r : Env) (s : Store) : ev cf (.un o a) r s = (ev cf a r s).bind fun x s => Res.ofO (unop o x) s := rfl
@[simp] theorem ev_cmp (cf : CF) (o a b) (r : Env) (s : Store) : ev cf (.cmp o a b) r s = (ev cf a r s).bind fun x s => (ev cf b r s).bind fun y s => Res.ofO ((cmpop o x y).map .bl) s := rfl
@[simp] theorem ev_chain (cf : CF) (o p a b c) (r : Env) (s : Store) : ev cf (.chain o p a b c) r s = (ev cf a r s).bind fun x s => (ev cf b r s).bind fun y s => (Res.ofO (cmpop o x y) s).bind fun k s =>
      if k then (ev cf c r s).bind fun z s => Res.ofO ((cmpop p y z).map .bl) s else .ok (.bl false) s := rfl
@[simp] theorem ev_and (cf : CF) (a b) (r : Env) (s : Store) : ev cf (.and a b) r s = (ev cf a r s).bind fun x s => (Res.ofO (truth x) s).bind fun k s => if k then ev cf b r s else .ok (.bl false) s := rfl
@[simp] theorem ev_or (cf : CF) (a b) (r : Env) (s : Store) : ev cf (.or a b) r s = (ev cf a r s).bind fun x s => (Res.ofO (truth x) s).bind fun k s => if k then .ok (.bl true) s else ev cf b r s := rfl
@[simp] theorem ev_not (cf : CF) (a) (r : Env) (s : Store) : ev cf (.not a) r s = (ev cf a r s).bind fun x s => (Res.ofO (truth x) s).bind fun k s => .ok (.bl (!k)) s := rfl
@[simp] theorem ev_ite (cf : CF) (c a b) (r : Env) (s : Store) : ev cf (.ite c a b) r s = (ev cf c r s).bind fun x s => (Res.ofO (truth x) s).bind fun k s => if k then ev cf a r s else ev cf b r s := rfl
@[simp] theorem ev_tup (cf : CF) (es) (r : Env) (s : Store) : ev cf (.tup es) r s = (evs cf es r s).bind fun xs s => if xs.length ≤ SZ then .ok (.tup xs) s else .bad := rfl
@[simp] theorem ev_lst (cf : CF) (es) (r : Env) (s : Store) : ev cf (.lst es) r s = (evs cf es r s).bind fun xs s => if xs.length ≤ SZ then .ok (.lst xs) s else .bad := rfl
@[simp] theorem ev_sub (cf : CF) (a i) (r : Env) (s : Store) : ev cf (.sub a i) r s = (ev cf a r s).bind fun x s => (ev cf i r s).bind fun y s => Res.ofO (subS s x y) s := rfl
@[simp] theorem ev_slice (cf : CF) (a lo hi) (r : Env) (s : Store) : ev cf (.slice a lo hi) r s = (ev cf a r s).bind fun x s => (ev cf lo r s).bind fun l s => (ev cf hi r s).bind fun h s => Res.ofO ((partOf lo l).bind fun l => (partOf hi h).bind fun h => slV x l h) s := rfl
@[simp] theorem ev_call (cf : CF) (f es) (r : Env) (s : Store) : ev cf (.call f es) r s = (evs cf es r s).bind fun xs s => cf f xs s := rfl
@[simp] theorem ev_blt (cf : CF) (b es) (r : Env) (s : Store) : ev cf (.blt b es) r s = (evs cf es r s).bind fun xs s => Res.ofO (bltop b xs) s := rfl
@[simp] theorem ev_isin (cf : CF) (a t) (r : Env) (s : Store) : ev cf (.isin a t) r s = (ev cf a r s).bind fun x s => Res.ofO ((isTy t x).map .bl) s := rfl
@[simp] theorem ev_meth (cf : CF) (m a es) (r : Env) (s : Store) : ev cf (.meth m a es) r s = (ev cf a r s).bind fun x s => (evs cf es r s).bind fun ys s => Res.ofO (mtop m x ys) s := rfl
@[simp] theorem ev_step (cf : CF) (a lo hi) (r : Env) (s : Store) : ev cf (.step a lo hi) r s = (ev cf a r s).bind fun x s => (ev cf lo r s).bind fun l s => (ev cf hi r s).bind fun h s => Res.ofO ((partOf lo l).bind fun l => (partOf hi h).bind fun h => stepV x l h) s := rfl
@[simp] theorem ev_sset (cf : CF) (a) (r : Env) (s : Store) : ev cf (.sset a) r s = (ev cf a r s).bind fun x s => Res.ofO (ssetV x) s := rfl
@[simp] theorem ev_lrng1 (cf : CF) (a) (r : Env) (s : Store) : ev cf (.lrng1 a) r s = (ev cf a r s).bind fun x s => Res.ofO (lrngV (.int 0) x) s := rfl
@[simp] theorem ev_lrng2 (cf : CF) (a b) (r : Env) (s : Store) : ev cf (.lrng2 a b) r s = (ev cf a r s).bind fun x s => (ev cf b r s).bind fun y s => Res.ofO (lrngV x y) s := rfl
@[simp] theorem ev_lcnt (cf : CF) (a b) (r : Env) (s : Store) : ev cf (.lcnt a b) r s = (ev cf a r s).bind fun x s => (ev cf b r s).bind fun y s => Res.ofO (lcntV x y) s := rfl
@[simp] theorem ev_lenset (cf : CF) (a) (r : Env) (s : Store) : ev cf (.lenset a) r s = (ev cf a r s).bind fun x s => Res.ofO (lensetV x) s := rfl
@[simp] theorem ev_tzip (cf : CF) (a b) (r : Env) (s : Store) : ev cf (.tzip a b) r s = (ev cf a r s).bind fun x s => (ev cf b r s).bind fun y s => Res.ofO ((itemsOf x).bind fun xs => (itemsOf y).bind fun ys => if (zipL xs ys).length ≤ SZ then some (.tup (zipL xs ys)) else none) s := rfl
@[simp] theorem ev_dict (cf : CF) (a) (r : Env) (s : Store) : ev cf (.dict a) r s = (ev cf a r s).bind fun x s => Res.ofO (dictV x) s := rfl
@[simp] theorem ev_lidx (cf : CF) (a b) (r : Env) (s : Store) : ev cf (.lidx a b) r s = (ev cf a r s).bind fun x s => (ev cf b r s).bind fun y s => Res.ofO (lidxV x y) s := rfl
@[simp] theorem ev_newP (cf : CF) (es) (r : Env) (s : Store) : ev cf (.newP es) r s = (evs cf es r s).bind fun xs s => if xs.all isScal && decide (xs.length ≤ SZ) then .ok (.loc s.length) (s ++ [xs]) else .bad := rfl
@[simp] theorem ev_lend (cf : CF) (z0 e) (r : Env) (s : Store) : ev cf (.lend z0 e) r s = (ev cf e r s).bind fun x s => if lendOk (fresh e) x then .ok x s else .bad := rfl
@[simp] theorem ev_comp (cf : CF) (vs t it c e) (r : Env) (s : Store) : ev cf (.comp vs t it c e) r s = (evI cf it r s).bind fun xs s => (compL (fun x s => (Res.ofO (asg t x (wipe r vs)) s).bind fun r1 s =>
      (ev cf c r1 s).bind fun b s => (Res.ofO (truth b) s).bind fun k s => if k then (ev cf e r1 s).bind fun y s => .ok (some y) s else .ok none s) xs s).bind fun ys s => if ys.length ≤ SZ then .ok (.lst ys) s else .bad := rfl
@[simp] theorem ev_comp2 (cf : CF) (vs vs1 t it c t1 it1 c1 e) (r : Env) (s : Store) : ev cf (.comp2 vs vs1 t it c t1 it1 c1 e) r s = (evI cf it r s).bind fun xs s => (compLs (fun x s => (Res.ofO (asg t x (wipe r vs)) s).bind fun r1 s =>
      (ev cf c r1 s).bind fun b s => (Res.ofO (truth b) s).bind fun k s => if k then (evI cf it1 r1 s).bind fun xs1 s =>
        compL (fun x1 s => (Res.ofO (asg t1 x1 (wipe r1 vs1)) s).bind fun r2 s => (ev cf c1 r2 s).bind fun b1 s => (Res.ofO (truth b1) s).bind fun k1 s =>
          if k1 then (ev cf e r2 s).bind fun y s => .ok (some y) s else .ok none s) xs1 s else .ok [] s) xs s).bind fun ys s => if ys.length ≤ SZ then .ok (.lst ys) s else .bad := rfl
@[simp] theorem evs_nil (cf : CF) (r : Env) (s : Store) : evs cf (.nil ) r s = .ok [] s := rfl
@[simp] theorem evs_cons (cf : CF) (e es) (r : Env) (s : Store) : evs cf (.cons e es) r s = (ev cf e r s).bind fun x s => (evs cf es r s).bind fun xs s => .ok (x :: xs) s := rfl
@[simp] theorem evI_seq (cf : CF) (e) (r : Env) (s : Store) : evI cf (.seq e) r s = (ev cf e r s).bind fun x s => Res.ofO (itemsOf x) s := rfl
@[simp] theorem evI_range1 (cf : CF) (a) (r : Env) (s : Store) : evI cf (.range1 a) r s = (ev cf a r s).bind fun x s => Res.ofO (range1op x) s := rfl
@[simp] theorem evI_range2 (cf : CF) (a b) (r : Env) (s : Store) : evI cf (.range2 a b) r s = (ev cf a r s).bind fun x s => (ev cf b r s).bind fun y s => Res.ofO (range2op x y) s := rfl
@[simp] theorem evI_range3 (cf : CF) (a b c) (r : Env) (s : Store) : evI cf (.range3 a b c) r s = (ev cf a r s).bind fun x s => (ev cf b r s).bind fun y s => (ev cf c r s).bind fun z s => Res.ofO (range3op x y z) s := rfl
@[simp] theorem evI_enum (cf : CF) (e) (r : Env) (s : Store) : evI cf (.enum e) r s = (ev cf e r s).bind fun x s => Res.ofO ((itemsOf x).map (enumL 0)) s := rfl
@[simp] theorem evI_enum2 (cf : CF) (e i) (r : Env) (s : Store) : evI cf (.enum2 e i) r s = (ev cf e r s).bind fun x s => (ev cf i r s).bind fun y s => Res.ofO ((itemsOf x).bind fun xs => match y with | .int j => if lim62 j then some (enumL j xs) else none | _ => none) s := rfl
@[simp] theorem evI_zip (cf : CF) (a b) (r : Env) (s : Store) : evI cf (.zip a b) r s = (ev cf a r s).bind fun x s => (ev cf b r s).bind fun y s => Res.ofO ((itemsOf x).bind fun xs => (itemsOf y).map fun ys => zipL xs ys) s := rfl
@[simp] theorem ex_pass (cf : CF) (r : Env) (s : Store) : ex cf (.pass ) r s = .ok (.next r) s := rfl
@[simp] theorem ex_drop (cf : CF) (e) (r : Env) (s : Store) : ex cf (.drop e) r s = (ev cf e r s).bind fun _ s => .ok (.next r) s := rfl
@[simp] theorem ex_asg (cf : CF) (t e) (r : Env) (s : Store) : ex cf (.asg t e) r s = (ev cf e r s).bind fun x s => (Res.ofO (asg t x r) s).bind fun r s => .ok (.next r) s := rfl
@[simp] theorem ex_par (cf : CF) (is es) (r : Env) (s : Store) : ex cf (.par is es) r s = (evs cf es r s).bind fun xs s => (Res.ofO (setsEnv is xs r) s).bind fun r s => .ok (.next r) s := rfl
@[simp] theorem ex_parO (cf : CF) (is o es) (r : Env) (s : Store) : ex cf (.parO is o es) r s = (evs cf es r s).bind fun xs s => match xs[o]? with
    | some (.lst _) => if is.all fun i => decide (i < r.length) then (Res.ofO (setsEnv is xs r) s).bind fun r s => .ok (.next r) s else .bad
    | _ => .bad := rfl
@[simp] theorem ex_own (cf : CF) (i e) (r : Env) (s : Store) : ex cf (.own i e) r s = (ev cf e r s).bind fun x s => match x with
    | .lst xs => if i < r.length then .ok (.next (r.set i (some (.lst xs)))) s else .bad
    | _ => .bad := rfl
@[simp] theorem ex_ownD (cf : CF) (i) (r : Env) (s : Store) : ex cf (.ownD i) r s = if i < r.length then .ok (.next (r.set i (some (.dct [] [])))) s else .bad := rfl
@[simp] theorem ex_ownDD (cf : CF) (i j) (r : Env) (s : Store) : ex cf (.ownDD i j) r s = if i < r.length && j < r.length then .ok (.next ((r.set i (some (.dct [] []))).set j (some (.dct [] [])))) s else .bad := rfl
@[simp] theorem ex_popL (cf : CF) (j i e) (r : Env) (s : Store) : ex cf (.popL j i e) r s = (ev cf e r s).bind fun y s => match r[i]?, y with
    | some (some (.lst xs)), .int n => (match ixN xs.length n with
      | some m => (match xs[m]? with
        | some x => if lim63 n then .ok (.next ((r.set i (some (.lst (xs.eraseIdx m)))).set j (some x))) s else .bad
        | none => .bad)
      | none => .bad)
    | _, _ => .bad := rfl
@[simp] theorem ex_free (cf : CF) (z0) (r : Env) (s : Store) : ex cf (.free z0) r s = .ok (.next r) s := rfl
@[simp] theorem ex_app (cf : CF) (i e) (r : Env) (s : Store) : ex cf (.app i e) r s = (ev cf e r s).bind fun x s => match r[i]? with
    | some (some (.lst xs)) => if xs.length < SZ then .ok (.next (r.set i (some (.lst (xs ++ [x]))))) s else .bad
    | _ => .bad := rfl
@[simp] theorem ex_setL (cf : CF) (i k e) (r : Env) (s : Store) : ex cf (.setL i k e) r s = (ev cf e r s).bind fun x s => (ev cf k r s).bind fun y s => match r[i]?, y with
    | some (some (.lst xs)), .int j => (match ixN xs.length j with
      | some m => .ok (.next (r.set i (some (.lst (xs.set m x))))) s
      | none => .bad)
    | some (some (.dct ks xs)), y => (match kyP y with
      | some k => if ks.length < 100000 then .ok (.next (r.set i (some (.dct (putKs k ks) (putXs k x ks xs))))) s else .bad
      | none => .bad)
    | _, _ => .bad := rfl
@[simp] theorem ex_setP (cf : CF) (i k e) (r : Env) (s : Store) : ex cf (.setP i k e) r s = (ev cf e r s).bind fun x s => (ev cf k r s).bind fun y s => match r[i]?, y with
    | some (some (.loc p)), .int j => (match s[p]? with
      | some xs => (match ixN xs.length j with
        | some m => if isScal x then .ok (.next r) (s.set p (xs.set m x)) else .bad
        | none => .bad)
      | none => .bad)
    | _, _ => .bad := rfl
@[simp] theorem ex_ret (cf : CF) (e) (r : Env) (s : Store) : ex cf (.ret e) r s = (ev cf e r s).bind fun x s => .ok (.ret x) s := rfl
@[simp] theorem ex_retN (cf : CF) (r : Env) (s : Store) : ex cf (.retN ) r s = .ok (.ret .non) s := rfl
@[simp] theorem ex_ite (cf : CF) (c a b) (r : Env) (s : Store) : ex cf (.ite c a b) r s = (ev cf c r s).bind fun x s => (Res.ofO (truth x) s).bind fun k s => if k then exs cf a r s else exs cf b r s := rfl
@[simp] theorem ex_for_ (cf : CF) (t it b) (r : Env) (s : Store) : ex cf (.for_ t it b) r s = (evI cf it r s).bind fun xs s => forL (fun x r s => (Res.ofO (asg t x r) s).bind fun r s => exs cf b r s) xs r s := rfl
@[simp] theorem ex_while_ (cf : CF) (c b) (r : Env) (s : Store) : ex cf (.while_ c b) r s = whileL (fun r s => (ev cf c r s).bind fun x s => Res.ofO (truth x) s) (fun r s => exs cf b r s) FUEL r s := rfl
@[simp] theorem ex_brk (cf : CF) (r : Env) (s : Store) : ex cf (.brk ) r s = .ok (.brk r) s := rfl
@[simp] theorem ex_cont (cf : CF) (r : Env) (s : Store) : ex cf (.cont ) r s = .ok (.cont r) s := rfl
@[simp] theorem ex_raise (cf : CF) (c) (r : Env) (s : Store) : ex cf (.raise c) r s = .exc c .non s := rfl
@[simp] theorem exs_nil (cf : CF) (r : Env) (s : Store) : exs cf (.nil ) r s = .ok (.next r) s := rfl
@[simp] theorem exs_cons (cf : CF) (st ss) (r : Env) (s : Store) : exs cf (.cons st ss) r s = (ex cf st r s).bind fun fl s => match fl with
    | .next r => exs cf ss r s
    | .brk r => .ok (.brk r) s
    | .cont r => .ok (.cont r) s
    | .ret v => .ok (.ret v) s := rfl
/-! ### operators at values -/
@[simp] theorem o_add (i j : Int) : binop .add (.int i) (.int j) = some (.int (i + j)) := rfl
@[simp] theorem o_sub (i j : Int) : binop .sub (.int i) (.int j) = some (.int (i - j)) := rfl
@[simp] theorem o_mul (i j : Int) : binop .mul (.int i) (.int j) = if lim64 i || lim64 j || decide (i.natAbs.log2 + j.natAbs.log2 < 1000000) then some (.int (i * j)) else none := rfl
@[simp] theorem o_mod (i j : Int) : binop .mod (.int i) (.int j) = if 0 < j then some (.int (i % j)) else none := rfl
@[simp] theorem o_fdiv (i j : Int) : binop .fdiv (.int i) (.int j) = if 0 < j && j < 1073741824 then some (.int (i / j)) else none := rfl
@[simp] theorem o_pow (i j : Int) : binop .pow (.int i) (.int j) = if 0 ≤ j && j ≤ 1000000 && lim64 i then some (.int (i ^ j.toNat)) else none := rfl
@[simp] theorem o_addT (x y : List PV) : binop .add (.tup x) (.tup y) = if x.length + y.length ≤ SZ then some (.tup (x ++ y)) else none := rfl
@[simp] theorem o_addL (x y : List PV) : binop .add (.lst x) (.lst y) = if x.length + y.length ≤ SZ then some (.lst (x ++ y)) else none := rfl
@[simp] theorem o_addS (x y : List Nat) : binop .add (.str x) (.str y) = if x.length + y.length ≤ SZ then some (.str (x ++ y)) else none := rfl
@[simp] theorem o_neg (i : Int) : unop .neg (.int i) = some (.int (-i)) := rfl
@[simp] theorem o_lt (i j : Int) : cmpop .lt (.int i) (.int j) = some (decide (i < j)) := rfl
@[simp] theorem o_le (i j : Int) : cmpop .le (.int i) (.int j) = some (decide (i ≤ j)) := rfl
@[simp] theorem o_gt (i j : Int) : cmpop .gt (.int i) (.int j) = some (decide (j < i)) := rfl
@[simp] theorem o_ge (i j : Int) : cmpop .ge (.int i) (.int j) = some (decide (j ≤ i)) := rfl
@[simp] theorem o_eqI (i j : Int) : cmpop .eq (.int i) (.int j) = some (decide (i = j)) := rfl
@[simp] theorem o_neI (i j : Int) : cmpop .ne (.int i) (.int j) = some (!decide (i = j)) := rfl
theorem o_eq {x y : PV} (h : okEq x y = true) : cmpop .eq x y = some (eqv x y) := if_pos h
theorem o_ne {x y : PV} (h : okEq x y = true) : cmpop .ne x y = some (!eqv x y) := if_pos h
@[simp] theorem o_isN (v : PV) (w : PV) : cmpop .isN v w = some (match v with | .non => true | _ => false) := by cases v <;> rfl
@[simp] theorem o_isNN (v : PV) (w : PV) : cmpop .isNotN v w = some (match v with | .non => false | _ => true) := by cases v <;> rfl
@[simp] theorem o_truth (b : Bool) : truth (.bl b) = some b := rfl
@[simp] theorem o_subT (s : Store) (xs : List PV) (i : Int) : subS s (.tup xs) (.int i) = getAt xs i := rfl
@[simp] theorem o_subL (s : Store) (xs : List PV) (i : Int) : subS s (.lst xs) (.int i) = getAt xs i := rfl
@[simp] theorem o_subC (s : Store) (p : Nat) (i : Int) : subS s (.loc p) (.int i) = (s[p]?).bind fun xs => getAt xs i := rfl
@[simp] theorem o_at0 {α : Type} (x : α) (xs : List α) : getAt (x :: xs) 0 = some x := by
  have q : ixN (x :: xs).length 0 = some 0 := by
    unfold ixN
    rw [if_pos (by decide), if_pos (by simp only [List.length_cons]; omega)]
    rfl
  unfold getAt
  rw [q]
  rfl
@[simp] theorem o_at1 {α : Type} (x y : α) (xs : List α) : getAt (x :: y :: xs) 1 = some y := by
  have q : ixN (x :: y :: xs).length 1 = some 1 := by
    unfold ixN
    rw [if_pos (by decide), if_pos (by simp only [List.length_cons]; omega)]
    rfl
  unfold getAt
  rw [q]
  rfl
@[simp] theorem o_b1 (b : Blt) (x : PV) : bltop b [x] = blt1 b x := rfl
@[simp] theorem o_b2 (b : Blt) (x y : PV) : bltop b [x, y] = blt2 b x y := rfl
@[simp] theorem o_lenL (x : List PV) : blt1 .len (.lst x) = some (.int x.length) := rfl
@[simp] theorem o_lenT (x : List PV) : blt1 .len (.tup x) = some (.int x.length) := rfl
@[simp] theorem o_int (i : Int) : blt1 .int (.int i) = some (.int i) := rfl
@[simp] theorem o_all (x : List PV) : blt1 .all (.lst x) = (allB x).map .bl := rfl
@[simp] theorem o_tupL (x : List PV) : blt1 .tuple (.lst x) = some (.tup x) := rfl
@[simp] theorem o_asgN (i : Nat) (v : PV) (r : Env) : asg (.name i) v r = some (r.set i (some v)) := rfl
@[simp] theorem o_asgT (ts : Tgs) (vs : List PV) (r : Env) : asg (.tup ts) (.tup vs) r = asgs ts vs r := rfl
@[simp] theorem o_asg0 (r : Env) : asgs .nil [] r = some r := rfl
@[simp] theorem o_asgC (t : Tg) (ts : Tgs) (v : PV) (vs : List PV) (r : Env) : asgs (.cons t ts) (v :: vs) r = (asg t v r).bind fun r => asgs ts vs r := rfl
@[simp] theorem o_isTT (x : List PV) : isTy .tuple (.tup x) = some true := rfl
@[simp] theorem o_isTL (x : List PV) : isTy .tuple (.lst x) = some false := rfl
@[simp] theorem o_isTI (x : Int) : isTy .tuple (.int x) = some false := rfl
@[simp] theorem o_isLL (x : List PV) : isTy .list (.lst x) = some true := rfl
@[simp] theorem o_isII (x : Int) : isTy .int (.int x) = some true := rfl
@[simp] theorem o_isIL (x : List PV) : isTy .int (.lst x) = some false := rfl
@[simp] theorem o_isIT (x : List PV) : isTy .int (.tup x) = some false := rfl
@[simp] theorem o_isSL (x : List PV) : isTy .str (.lst x) = some false := rfl
@[simp] theorem o_isST (x : List PV) : isTy .str (.tup x) = some false := rfl
@[simp] theorem o_isBI (x : Int) : isTy .bool (.int x) = some false := rfl
@[simp] theorem o_isBL (x : List PV) : isTy .bool (.lst x) = some false := rfl
@[simp] theorem o_isBT (x : List PV) : isTy .bool (.tup x) = some false := rfl
end PyI

set_option maxRecDepth 100000
set_option maxHeartbeats 4000000
/-! PyL: what the laws' own functions give: the cup, its draws. -/
namespace PyI
def bCup : Ss := .cons (.asg (.name 1) (.blt .abs (.cons (.sub (.bin .add (.blt .list (.cons (.var 0) .nil)) (.lst (.cons (.con (.int 0)) .nil))) (.con (.int 0))) .nil))) (.cons (.ret (.newP (.cons (.ite (.cmp .ge (.var 1) (.bin .pow (.con (.int 10)) (.con (.int 18)))) (.bin .fdiv (.var 1) (.con (.int 73))) (.con (.int 0))) (.cons (.bin .add (.bin .mod (.blt .int (.cons (.bin .add (.bin .mul (.var 1) (.con (.int 283))) (.con (.int 3907))) .nil)) (.con (.int 2077503167))) (.con (.int 167))) .nil)))) .nil)
def bRoll : Ss := .cons (.ite (.cmp .gt (.sub (.var 0) (.con (.int 0))) (.con (.int 0))) (.cons (.asg (.name 3) (.bin .mod (.blt .int (.cons (.sub (.var 0) (.con (.int 0))) .nil)) (.var 1))) (.cons (.setP 0 (.con (.int 0)) (.bin .fdiv (.sub (.var 0) (.con (.int 0))) (.var 1))) (.cons (.ret (.var 3)) .nil))) (.nil)) (.cons (.setP 0 (.con (.int 1)) (.bin .mod (.blt .int (.cons (.bin .add (.bin .mul (.sub (.var 0) (.con (.int 1))) (.con (.int 31051))) (.con (.int 7993))) .nil)) (.con (.int 2147483543)))) (.cons (.asg (.name 2) (.bin .mod (.blt .int (.cons (.bin .mul (.sub (.var 0) (.con (.int 1))) (.bin .add (.sub (.var 0) (.con (.int 1))) (.con (.int 229)))) .nil)) (.con (.int 2147483587)))) (.cons (.ret (.bin .mod (.blt .int (.cons (.bin .fdiv (.var 2) (.con (.int 821))) .nil)) (.var 1))) .nil)))
theorem callF_at {tbl : Tbl} {k i : Nat} {f : Fn} (h : tbl i = some f) (xs : List PV) (s : Store) : callF tbl (k + 1) i xs s = runFn (callF tbl k) f xs s := by
  show (match tbl i with | some f => runFn (callF tbl k) f xs s | none => .bad) = _
  rw [h]
theorem roll_ok {cf : CF} (m : Int) (hm : 0 < m) (hm2 : m < 1073741824) (a b : Int) (ha : 0 ≤ a) : ∃ r a' b', runFn cf ⟨2, 4, bRoll⟩ [.loc 0, .int m] [[.int a, .int b]] = .ok (.int r) [[.int a', .int b']] ∧ 0 ≤ r ∧ r < m ∧ 0 ≤ a' := by
  have hm0 : (0 < m) = True := eq_true hm
  by_cases h : 0 < a
  · refine ⟨a % m, a / m, b, ?_, Int.emod_nonneg _ (by omega), Int.emod_lt_of_pos _ hm, Int.ediv_nonneg ha (by omega)⟩
    simp [runFn, bRoll, exs_cons, exs_nil, ex_ite, ex_asg, ex_setP, ex_ret, ev_cmp, ev_sub, ev_var, ev_con, ev_bin, ev_blt, evs_cons, evs_nil, cmpop, subS, getAt, ixN, truth, binop, bltop, blt1, asg, isScal, h, hm, hm2]
  · have c0 : (0 : Int) ≤ (b * 31051 + 7993) % 2147483543 := Int.emod_nonneg _ (by decide)
    have c1 : (b * 31051 + 7993) % 2147483543 < 2147483543 := Int.emod_lt_of_pos _ (by decide)
    refine ⟨((((b * 31051 + 7993) % 2147483543) * ((b * 31051 + 7993) % 2147483543 + 229)) % 2147483587 / 821) % m, a, (b * 31051 + 7993) % 2147483543, ?_, Int.emod_nonneg _ (by omega), Int.emod_lt_of_pos _ hm, ha⟩
    · have l1 : lim64 31051 = true := by decide
      have l2 : lim64 ((b * 31051 + 7993) % 2147483543) = true := by
        unfold lim64
        rw [Bool.and_eq_true, decide_eq_true_eq, decide_eq_true_eq]
        omega
      simp [runFn, bRoll, exs_cons, exs_nil, ex_ite, ex_asg, ex_setP, ex_ret, ev_cmp, ev_sub, ev_var, ev_con, ev_bin, ev_blt, evs_cons, evs_nil, cmpop, subS, getAt, ixN, truth, binop, bltop, blt1, asg, isScal, h, hm, hm2, l1, l2]
/-- the cup -/
theorem cup_ok {cf : CF} (ns : List Int) (hl : ns.length ≤ 63) : ∃ a b, runFn cf ⟨1, 2, bCup⟩ [.scr (ns.map .int)] [] = .ok (.loc 0) [[.int a, .int b]] ∧ 0 ≤ a := by
  have l0 : lim64 10 = true := by decide
  have l1 : lim64 283 = true := by decide
  have hz : ns.length + 1 ≤ SZ := by show _ ≤ 16777216; omega
  have hz1 : 1 ≤ SZ := by decide
  have hz2 : 2 ≤ SZ := by decide
  have h18 : (10 : Int) ^ 18 = 1000000000000000000 := by decide
  have key : ∀ c : Int, getAt (ns.map PV.int ++ [.int 0]) 0 = some (.int c) → ∃ a b, runFn cf ⟨1, 2, bCup⟩ [.scr (ns.map .int)] [] = .ok (.loc 0) [[.int a, .int b]] ∧ 0 ≤ a := by
    intro c hc
    have hc' : 0 ≤ (if c < 0 then -c else c) := by split <;> omega
    generalize hd : (if c < 0 then -c else c) = d at hc'
    by_cases h : (1000000000000000000 : Int) ≤ d
    · refine ⟨d / 73, (d * 283 + 3907) % 2077503167 + 167, ?_, by omega⟩
      simp [runFn, bCup, exs_cons, exs_nil, ex_asg, ex_ret, ev_ite, ev_cmp, ev_sub, ev_var, ev_con, ev_bin, ev_blt, ev_lst, ev_newP, evs_cons, evs_nil, cmpop, subS, subop, hc, truth, binop, bltop, blt1, asg, isScal, hz, hz1, hz2, hd, l0, l1, h]
    · refine ⟨0, (d * 283 + 3907) % 2077503167 + 167, ?_, by omega⟩
      simp [runFn, bCup, exs_cons, exs_nil, ex_asg, ex_ret, ev_ite, ev_cmp, ev_sub, ev_var, ev_con, ev_bin, ev_blt, ev_lst, ev_newP, evs_cons, evs_nil, cmpop, subS, subop, hc, truth, binop, bltop, blt1, asg, isScal, hz, hz1, hz2, hd, l0, l1, h]
  cases ns with
  | nil => exact key 0 rfl
  | cons n r =>
    refine key n ?_
    have q : ixN (PV.int n :: (r.map PV.int ++ [.int 0])).length 0 = some 0 := by
      unfold ixN
      rw [if_pos (by decide), if_pos (by simp only [List.length_cons]; omega)]
      rfl
    show getAt (PV.int n :: (r.map PV.int ++ [.int 0])) 0 = _
    unfold getAt
    rw [q]
    rfl
end PyI

set_option maxRecDepth 100000
set_option maxHeartbeats 4000000
/-! PyL2: what the laws' own functions give: one of several things, kinds, likeness, loops. -/
namespace PyI
/-! ### slices -/
theorem sIx_nat (n d m : Nat) : sIx n d (some (m : Int)) = min m n := by
  show (if (m : Int) < 0 then ((m : Int) + n).toNat else min (m : Int).toNat n) = _
  rw [if_neg (by omega), Int.toNat_natCast]
theorem sIx_none (n d : Nat) : sIx n d none = d := rfl
theorem cut_take {α : Type} (xs : List α) (n : Nat) : cut xs none (some (n : Int)) = xs.take n := by
  unfold cut
  rw [sIx_nat, sIx_none, List.drop_zero, Nat.sub_zero]
  by_cases hn : n ≤ xs.length
  · rw [Nat.min_eq_left hn]
  · rw [Nat.min_eq_right (by omega), List.take_of_length_le (Nat.le_refl _), List.take_of_length_le (by omega)]
theorem cut_drop {α : Type} (xs : List α) (n : Nat) : cut xs (some (n : Int)) none = xs.drop n := by
  unfold cut
  rw [sIx_nat, sIx_none]
  by_cases hn : n ≤ xs.length
  · rw [Nat.min_eq_left hn, List.take_of_length_le (by rw [List.length_drop]; exact Nat.le_refl _)]
  · rw [Nat.min_eq_right (by omega), List.drop_of_length_le (Nat.le_refl _), List.drop_of_length_le (by omega), List.take_nil]
theorem cut_mid {α : Type} (xs : List α) (m n : Nat) : cut xs (some (m : Int)) (some (n : Int)) = (xs.drop m).take (n - m) := by
  unfold cut
  rw [sIx_nat, sIx_nat]
  by_cases hm : m ≤ xs.length
  · rw [Nat.min_eq_left hm]
    by_cases hn : n ≤ xs.length
    · rw [Nat.min_eq_left hn]
    · rw [Nat.min_eq_right (by omega), List.take_of_length_le (by rw [List.length_drop]; exact Nat.le_refl _), List.take_of_length_le (by rw [List.length_drop]; omega)]
  · rw [Nat.min_eq_right (show xs.length ≤ m by omega), List.drop_of_length_le (Nat.le_refl _), List.drop_of_length_le (by omega)]
    simp
theorem slS_take {x : List Nat} (n : Nat) (h : x.length ≤ SZ) : slV (.str x) none (some (n : Int)) = some (.str (x.take n)) := by
  show (if x.length ≤ SZ then some (PV.str (cut x none (some (n : Int)))) else none) = _
  rw [if_pos h, cut_take]
theorem slS_drop {x : List Nat} (n : Nat) (h : x.length ≤ SZ) : slV (.str x) (some (n : Int)) none = some (.str (x.drop n)) := by
  show (if x.length ≤ SZ then some (PV.str (cut x (some (n : Int)) none)) else none) = _
  rw [if_pos h, cut_drop]
theorem slS_mid {x : List Nat} (m n : Nat) (h : x.length ≤ SZ) : slV (.str x) (some (m : Int)) (some (n : Int)) = some (.str ((x.drop m).take (n - m))) := by
  show (if x.length ≤ SZ then some (PV.str (cut x (some (m : Int)) (some (n : Int)))) else none) = _
  rw [if_pos h, cut_mid]
theorem getAt_nat {α : Type} (xs : List α) (n : Nat) : getAt xs (n : Int) = xs[n]? := by
  unfold getAt ixN
  rw [if_pos (by omega)]
  by_cases h : n < xs.length
  · rw [if_pos (by omega)]
    rfl
  · rw [if_neg (by omega), List.getElem?_eq_none_iff.mpr (by omega)]
    rfl
theorem rangeL_eq (lo : Int) : ∀ n, rangeL lo n = (List.range n).map fun k => PV.int (lo + (k : Nat))
  | 0 => rfl
  | n + 1 => by
    rw [rangeL, rangeL_eq (lo + 1) n, List.range_succ_eq_map, List.map_cons, List.map_map]
    congr 1
    · simp
    · refine List.map_congr_left fun k _ => ?_
      show PV.int _ = PV.int _
      congr 1
      show lo + 1 + (k : Int) = lo + ((k + 1 : Nat) : Int)
      omega
/-! ### loops -/
theorem compL_pure {f : PV → Store → Res (Option PV)} {g : PV → Option PV} {s : Store} : ∀ {xs : List PV}, (∀ x ∈ xs, f x s = .ok (g x) s) → compL f xs s = .ok (xs.filterMap g) s
  | [], _ => rfl
  | x :: xs, h => by
    have ih := compL_pure (xs := xs) fun y hy => h y (List.mem_cons_of_mem _ hy)
    show (f x s).bind _ = _
    rw [h x List.mem_cons_self, Res.bind_ok, ih, Res.bind_ok]
    cases e : g x with
    | none => rw [List.filterMap_cons_none e]
    | some y => rw [List.filterMap_cons_some e]
/-- a for that runs to its end, step by step -/
theorem forL_run {f : PV → Env → Store → Res Fl} {I : Nat → Env → Store → Prop} : ∀ {xs : List PV} {n : Nat} {r : Env} {s : Store}, (∀ (i : Nat) (x : PV), xs[i]? = some x → ∀ r s, I (n + i) r s → ∃ r' s', f x r s = .ok (.next r') s' ∧ I (n + i + 1) r' s') → I n r s → ∃ r' s', forL f xs r s = .ok (.next r') s' ∧ I (n + xs.length) r' s'
  | [], n, r, s, _, hI => ⟨r, s, rfl, hI⟩
  | x :: xs, n, r, s, h, hI => by
    obtain ⟨r1, s1, e, hI1⟩ := h 0 x rfl r s hI
    obtain ⟨r2, s2, e2, hI2⟩ := forL_run (xs := xs) (n := n + 1) (I := I) (fun i y hy r s q => by
      have := h (i + 1) y hy r s (by rw [show n + (i + 1) = n + 1 + i by omega]; exact q)
      rwa [show n + (i + 1) + 1 = n + 1 + i + 1 by omega] at this) hI1
    refine ⟨r2, s2, ?_, by rw [List.length_cons, show n + (xs.length + 1) = n + 1 + xs.length by omega]; exact hI2⟩
    show (f x r s).bind _ = _
    rw [e]
    exact e2
theorem forL_keep {f : PV → Env → Store → Res Fl} {I : Env → Store → Prop} : ∀ {xs : List PV} {r : Env} {s : Store}, (∀ x ∈ xs, ∀ r s, I r s → ∃ r' s', f x r s = .ok (.next r') s' ∧ I r' s') → I r s → ∃ r' s', forL f xs r s = .ok (.next r') s' ∧ I r' s'
  | [], r, s, _, hI => ⟨r, s, rfl, hI⟩
  | x :: xs, r, s, h, hI => by
    obtain ⟨r1, s1, e, hI1⟩ := h x List.mem_cons_self r s hI
    obtain ⟨r2, s2, e2, hI2⟩ := forL_keep (fun y hy => h y (List.mem_cons_of_mem _ hy)) hI1
    refine ⟨r2, s2, ?_, hI2⟩
    show (f x r s).bind _ = _
    rw [e]
    exact e2
theorem forL_find {f : PV → Env → Store → Res Fl} {I : Env → Prop} {t : PV → Bool} {w : PV → PV} {s : Store} : ∀ {xs : List PV} {r : Env} {x : PV}, (∀ x ∈ xs, ∀ r, I r → if t x = true then f x r s = .ok (.ret (w x)) s else ∃ r', I r' ∧ f x r s = .ok (.next r') s) → I r → xs.find? t = some x → forL f xs r s = .ok (.ret (w x)) s
  | [], r, x, _, _, h => by cases h
  | y :: ys, r, x, hf, hI, h => by
    have q := hf y List.mem_cons_self r hI
    show (f y r s).bind _ = _
    cases ht : t y with
    | true =>
      rw [if_pos ht] at q
      rw [List.find?_cons_of_pos ht] at h
      cases h
      rw [q]
      rfl
    | false =>
      rw [ht, if_neg Bool.false_ne_true] at q
      obtain ⟨r', hI', e⟩ := q
      rw [List.find?_cons_of_neg (by rw [ht]; decide)] at h
      rw [e]
      exact forL_find (fun z hz => hf z (List.mem_cons_of_mem _ hz)) hI' h
/-! ### the roll, one of several -/
/-- the def of that number rolls -/
def Rolls (cf : CF) (i : Nat) : Prop := ∀ m : Int, 0 < m → m < 1073741824 → ∀ a b : Int, 0 ≤ a → ∃ r a' b', cf i [.loc 0, .int m] [[.int a, .int b]] = .ok (.int r) [[.int a', .int b']] ∧ 0 ≤ r ∧ r < m ∧ 0 ≤ a'
theorem rolls_ok {tbl : Tbl} {k i : Nat} (h : tbl i = some ⟨2, 4, bRoll⟩) : Rolls (callF tbl (k + 1)) i := fun m hm hm2 a b ha => by
  obtain ⟨r, a', b', e, q⟩ := roll_ok (cf := callF tbl k) m hm hm2 a b ha
  exact ⟨r, a', b', (callF_at h _ _).trans e, q⟩
def bSome (j : Nat) : Ss := .cons (.ret (.sub (.var 1) (.call j (.cons (.var 0) (.cons (.blt .len (.cons (.var 1) .nil)) .nil))))) .nil
/-- .. gives one of several things -/
def Somes (cf : CF) (i : Nat) : Prop := (∀ xs : List PV, xs ≠ [] → xs.length < 1073741824 → ∀ a b : Int, 0 ≤ a → ∃ x a' b', cf i [.loc 0, .lst xs] [[.int a, .int b]] = .ok x [[.int a', .int b']] ∧ x ∈ xs ∧ 0 ≤ a')
  ∧ (∀ xs : List Nat, xs ≠ [] → xs.length ≤ SZ → ∀ a b : Int, 0 ≤ a → ∃ x a' b', cf i [.loc 0, .str xs] [[.int a, .int b]] = .ok (.str [x]) [[.int a', .int b']] ∧ x ∈ xs ∧ 0 ≤ a')
theorem somes_ok {tbl : Tbl} {k i j : Nat} (h : tbl i = some ⟨2, 2, bSome j⟩) (hj : Rolls (callF tbl k) j) : Somes (callF tbl (k + 1)) i := by
  refine ⟨fun xs h0 hz a b ha => ?_, fun xs h0 hz a b ha => ?_⟩
  · have hp := List.length_pos_iff.mpr h0
    obtain ⟨r, a', b', e, h1, h2, h3⟩ := hj xs.length (by omega) (by omega) a b ha
    have hr : r.toNat < xs.length := by omega
    refine ⟨xs[r.toNat], a', b', ?_, List.getElem_mem hr, h3⟩
    rw [callF_at h]
    have e2 : getAt xs r = some xs[r.toNat] := by
      have := getAt_nat xs r.toNat
      rw [Int.toNat_of_nonneg h1] at this
      rw [this, List.getElem?_eq_getElem hr]
    simp [runFn, bSome, e, e2]
  · have hp := List.length_pos_iff.mpr h0
    have hz' : xs.length ≤ 16777216 := hz
    obtain ⟨r, a', b', e, h1, h2, h3⟩ := hj xs.length (by omega) (by omega) a b ha
    have hr : r.toNat < xs.length := by omega
    refine ⟨xs[r.toNat], a', b', ?_, List.getElem_mem hr, h3⟩
    rw [callF_at h]
    have e2 : getAt xs r = some xs[r.toNat] := by
      have := getAt_nat xs r.toNat
      rw [Int.toNat_of_nonneg h1] at this
      rw [this, List.getElem?_eq_getElem hr]
    have e3 : blt1 .len (.str xs) = some (.int xs.length) := if_pos hz
    have e4 : ∀ s : Store, subS s (.str xs) (.int r) = some (.str [xs[r.toNat]]) := fun s => by
      show (if xs.length ≤ SZ then (getAt xs r).map fun c => PV.str [c] else none) = _
      rw [if_pos hz, e2]
      rfl
    simp [runFn, bSome, e, e3, e4]
/-! ### kinds -/
def bSort : Ss := .cons (.ite (.or (.cmp .isN (.var 0) (.con .non)) (.isin (.var 0) .bool)) (.cons (.ret (.ite (.cmp .isN (.var 0) (.con .non)) (.con (.int 0)) (.con (.int 1)))) .nil) (.nil)) (.cons (.ite (.or (.isin (.var 0) .int) (.isin (.var 0) .str)) (.cons (.ret (.ite (.isin (.var 0) .int) (.con (.int 2)) (.con (.int 3)))) .nil) (.nil)) (.cons (.ret (.ite (.isin (.var 0) .tuple) (.con (.int 4)) (.ite (.isin (.var 0) .list) (.con (.int 5)) (.con (.int 6))))) .nil))
def sortOf : PV → Int
  | .non => 0
  | .bl _ => 1
  | .int _ => 2
  | .str _ => 3
  | .tup _ => 4
  | .lst _ => 5
  | _ => 6
theorem sort_ok {tbl : Tbl} {k i : Nat} (h : tbl i = some ⟨1, 1, bSort⟩) (x : PV) (hx : isD x = true) (s : Store) : callF tbl (k + 1) i [x] s = .ok (.int (sortOf x)) s := by
  rw [callF_at h]
  cases x with
  | fn _ => cases hx
  | loc _ => cases hx
  | scr _ => cases hx
  | dct _ _ => cases hx
  | non => simp [runFn, bSort, isTy, sortOf]
  | bl b => simp [runFn, bSort, isTy, sortOf]
  | int b => simp [runFn, bSort, isTy, sortOf]
  | str b => simp [runFn, bSort, isTy, sortOf]
  | tup b => simp [runFn, bSort, isTy, sortOf]
  | lst b => simp [runFn, bSort, isTy, sortOf]
/-! ### likeness -/
def bLike (iS iL : Nat) : Ss := .cons (.asg (.name 2) (.call iS (.cons (.var 1) .nil))) (.cons (.ite (.or (.cmp .ne (.call iS (.cons (.var 0) .nil)) (.var 2)) (.cmp .eq (.var 2) (.con (.int 6)))) (.cons (.ret (.con (.bl false))) .nil) (.nil)) (.cons (.ite (.cmp .in_ (.var 2) (.tup (.cons (.con (.int 4)) (.cons (.con (.int 5)) .nil)))) (.cons (.ret (.and (.cmp .eq (.blt .len (.cons (.var 0) .nil)) (.blt .len (.cons (.var 1) .nil))) (.cmp .eq (.comp [3, 4] (.tup (.cons (.name 3) (.cons (.name 4) .nil))) (.zip (.var 0) (.var 1)) (.not (.call iL (.cons (.var 3) (.cons (.var 4) .nil)))) (.con (.int 1))) (.lst (.nil))))) .nil) (.nil)) (.cons (.ret (.cmp .eq (.var 0) (.var 1))) .nil)))
theorem zip_self : ∀ (xs : List PV) (v : PV), v ∈ zipL xs xs → ∃ x ∈ xs, v = .tup [x, x]
  | [], v, h => by cases h
  | x :: xs, v, h => by
    cases h with
    | head => exact ⟨x, List.mem_cons_self, rfl⟩
    | tail _ h =>
      obtain ⟨y, hy, e⟩ := zip_self xs v h
      exact ⟨y, List.mem_cons_of_mem _ hy, e⟩
theorem isDs_mem : ∀ {xs : List PV}, isDs xs = true → ∀ x ∈ xs, isD x = true
  | x :: xs, h, y, hy => by
    rw [isDs, Bool.and_eq_true] at h
    cases hy with
    | head => exact h.1
    | tail _ q => exact isDs_mem h.2 y q
theorem depths_mem {n : Nat} : ∀ {xs : List PV}, depths xs ≤ n → ∀ x ∈ xs, depth x ≤ n
  | x :: xs, h, y, hy => by
    rw [depths] at h
    cases hy with
    | head => omega
    | tail _ q => exact depths_mem (Nat.le_trans (Nat.le_max_right _ _) h) y q
theorem filterMap_none {α β : Type} {f : α → Option β} : ∀ {xs : List α}, (∀ x ∈ xs, f x = none) → xs.filterMap f = []
  | [], _ => rfl
  | x :: xs, h => by rw [List.filterMap_cons_none (h x List.mem_cons_self), filterMap_none fun y hy => h y (List.mem_cons_of_mem _ hy)]
theorem eqv_scal {x : PV} (h : isScal x = true) : cmpop .eq x x = some true := by
  cases x with
  | non => rfl
  | bl b => show some (b == b) = _; rw [beq_self_eq_true]
  | int i => show some (i == i) = _; rw [beq_self_eq_true]
  | str x => show some (x == x) = _; rw [beq_self_eq_true]
  | tup _ => cases h
  | lst _ => cases h
  | fn _ => cases h
  | loc _ => cases h
  | scr _ => cases h
  | dct _ _ => cases h
theorem like_comp {cf : CF} {iL : Nat} {xs : List PV} {s : Store} (x y : PV) (r2 r3 r4 : Option PV) (hx : itemsOf x = some xs) (hy : itemsOf y = some xs) (h : ∀ z ∈ xs, cf iL [z, z] s = .ok (.bl true) s) :
    ev cf (.comp [3, 4] (.tup (.cons (.name 3) (.cons (.name 4) .nil))) (.zip (.var 0) (.var 1)) (.not (.call iL (.cons (.var 3) (.cons (.var 4) .nil)))) (.con (.int 1))) [some x, some y, r2, r3, r4] s = .ok (.lst []) s := by
  rw [ev_comp]
  simp only [evI_zip, ev_var, Res.bind_ok, List.getElem?_cons_zero, List.getElem?_cons_succ, hx, hy, Option.bind_some, Option.map_some, Res.ofO_some]
  rw [compL_pure (g := fun _ => none) fun v hv => ?_]
  · rw [filterMap_none fun _ _ => rfl]
    rfl
  · obtain ⟨z, hz, rfl⟩ := zip_self xs v hv
    simp [PyI.wipe, h z hz]
theorem in45 (i : Int) : cmpop .in_ (.int i) (.tup [.int 4, .int 5]) = some (4 == i || (5 == i || false)) := rfl
theorem like_refl {tbl : Tbl} {iS iL : Nat} (hS : tbl iS = some ⟨1, 1, bSort⟩) (hL : tbl iL = some ⟨2, 5, bLike iS iL⟩) : ∀ (n k : Nat) (x : PV) (s : Store), isD x = true → depth x ≤ n → callF tbl (k + n + 2) iL [x, x] s = .ok (.bl true) s
  | n, k, x, s, hx, hd => by
    have a1 := fun s => sort_ok (k := k + n) hS x hx s
    have z2 : 2 ≤ SZ := by decide
    show callF tbl ((k + n + 1) + 1) iL [x, x] s = _
    rw [callF_at hL]
    cases x with
    | fn _ => cases hx
    | loc _ => cases hx
    | scr _ => cases hx
    | dct _ _ => cases hx
    | non => simp [runFn, bLike, a1, sortOf, z2, in45, eqv_scal (x := .non) rfl]
    | bl b => simp [runFn, bLike, a1, sortOf, z2, in45, eqv_scal (x := .bl b) rfl]
    | int b => simp [runFn, bLike, a1, sortOf, z2, in45]
    | str b => simp [runFn, bLike, a1, sortOf, z2, in45, eqv_scal (x := .str b) rfl]
    | tup xs =>
      match n, hd with
      | n + 1, hd =>
        have a1 : ∀ s, callF tbl (k + n + 2) iS [.tup xs] s = .ok (.int (sortOf (.tup xs))) s := a1
        have a2 := fun r2 r3 r4 => like_comp (cf := callF tbl (k + n + 2)) (iL := iL) (s := s) (.tup xs) (.tup xs) r2 r3 r4 rfl rfl fun z hz => like_refl hS hL n k z s (isDs_mem (by simpa [isD] using hx) z hz) (depths_mem (by simpa [depth] using hd) z hz)
        have e0 : cmpop .eq (.lst []) (.lst []) = some true := rfl
        have z0 : 0 ≤ SZ := by decide
        simp [-ev_comp, runFn, bLike, a1, sortOf, z2, in45, a2, e0, z0, show k + (n + 1) + 1 = k + n + 2 by omega]
    | lst xs =>
      match n, hd with
      | n + 1, hd =>
        have a1 : ∀ s, callF tbl (k + n + 2) iS [.lst xs] s = .ok (.int (sortOf (.lst xs))) s := a1
        have a2 := fun r2 r3 r4 => like_comp (cf := callF tbl (k + n + 2)) (iL := iL) (s := s) (.lst xs) (.lst xs) r2 r3 r4 rfl rfl fun z hz => like_refl hS hL n k z s (isDs_mem (by simpa [isD] using hx) z hz) (depths_mem (by simpa [depth] using hd) z hz)
        have e0 : cmpop .eq (.lst []) (.lst []) = some true := rfl
        have z0 : 0 ≤ SZ := by decide
        simp [-ev_comp, runFn, bLike, a1, sortOf, z2, in45, a2, e0, z0, show k + (n + 1) + 1 = k + n + 2 by omega]
/-! ### texts -/
theorem rep_lenN {α : Type} (x : List α) : ∀ k, (rep x k).length = k * x.length
  | 0 => by simp [rep]
  | k + 1 => by simp only [rep, List.length_append, rep_lenN x k, Nat.succ_mul]; omega
theorem rep_mem {α : Type} {x : List α} {a : α} : ∀ {k : Nat}, a ∈ rep x k → a ∈ x
  | 0, h => by cases h
  | k + 1, h => by
    rcases List.mem_append.mp h with h | h
    · exact h
    · exact rep_mem h
theorem lim63_of {z : Int} (h : -1000000000 ≤ z) (h2 : z ≤ 1000000000) : lim63 z = true := by
  unfold lim63
  rw [Bool.and_eq_true, decide_eq_true_eq, decide_eq_true_eq]
  omega
theorem lim64_of {z : Int} (h : -1000000000000 ≤ z) (h2 : z ≤ 1000000000000) : lim64 z = true := by
  unfold lim64
  rw [Bool.and_eq_true, decide_eq_true_eq, decide_eq_true_eq]
  omega
theorem lim62_of {z : Int} (h : -1000000000000 ≤ z) (h2 : z ≤ 1000000000000) : lim62 z = true := by
  unfold lim62
  rw [Bool.and_eq_true, decide_eq_true_eq, decide_eq_true_eq]
  omega
theorem o_mulS (x : List Nat) (n : Nat) (h : x.length ≤ 1000) (h2 : n ≤ 1000) : binop .mul (.str x) (.int (n : Int)) = some (.str (rep x n)) := by
  have h3 : x.length * n ≤ 1000 * 1000 := Nat.mul_le_mul h h2
  show (if decide ((x.length : Int) * (n : Int) ≤ SZ) && lim63 n then some (PV.str (rep x (n : Int).toNat)) else none) = _
  rw [if_pos, Int.toNat_natCast]
  rw [Bool.and_eq_true, decide_eq_true_eq]
  refine ⟨?_, lim63_of (by omega) (by omega)⟩
  rw [← Int.natCast_mul]
  show ((x.length * n : Nat) : Int) ≤ ((16777216 : Nat) : Int)
  exact_mod_cast (show x.length * n ≤ 16777216 by omega)
theorem o_addS' {x y : List Nat} (h : x.length ≤ 1000000) (h2 : y.length ≤ 1000000) : binop .add (.str x) (.str y) = some (.str (x ++ y)) := if_pos (show _ ≤ 16777216 by omega)
theorem o_lenS {x : List Nat} (h : x.length ≤ 1000000) : blt1 .len (.str x) = some (.int x.length) := if_pos (show _ ≤ 16777216 by omega)
theorem range1_nat (n : Nat) (h : n ≤ 1000000) : range1op (.int (n : Int)) = some (rangeL 0 n) := by
  show (if lim62 (n : Int) then some (rangeL 0 (n : Int).toNat) else none) = _
  rw [if_pos (lim62_of (by omega) (by omega)), Int.toNat_natCast]
theorem rangeL_lenN (lo : Int) (n : Nat) : (rangeL lo n).length = n := by rw [rangeL_eq, List.length_map, List.length_range]
/-- a random character -/
def bChar (iR iS : Nat) : Ss := .cons (.par [4, 5] (.cons (.bin .add (.con (.int 1)) (.call iR (.cons (.var 0) (.cons (.var 1) .nil)))) (.cons (.call iR (.cons (.var 0) (.cons (.con (.int 3)) .nil))) .nil))) (.cons (.ite (.cmp .eq (.var 5) (.con (.int 1))) (.cons (.asg (.name 6) (.bin .add (.con (.int 1)) (.call iR (.cons (.var 0) (.cons (.var 4) .nil))))) (.cons (.ret (.bin .add (.bin .mul (.con (.str [35])) (.var 6)) (.bin .mul (.con (.str [46])) (.bin .sub (.var 4) (.var 6))))) .nil)) (.nil)) (.cons (.asg (.name 2) (.con (.str []))) (.cons (.for_ (.name 3) (.range1 (.var 4)) (.cons (.asg (.name 2) (.bin .add (.var 2) (.call iS (.cons (.var 0) (.cons (.lst (.cons (.con (.str [35])) (.cons (.con (.str [46])) .nil))) .nil))))) .nil)) (.cons (.ite (.and (.cmp .eq (.var 5) (.con (.int 2))) (.cmp .le (.bin .mul (.con (.int 2)) (.var 4)) (.var 1))) (.cons (.ret (.bin .add (.var 2) (.var 2))) .nil) (.nil)) (.cons (.ret (.var 2)) .nil)))))
def HD (c : List Nat) : Prop := ∀ x ∈ c, x = 35 ∨ x = 46
theorem HD.app {c d : List Nat} (h : HD c) (h2 : HD d) : HD (c ++ d) := fun x hx => (List.mem_append.mp hx).elim (h x) (h2 x)
def Chars (cf : CF) (i : Nat) : Prop := ∀ most : Int, 1 ≤ most → most ≤ 1000 → ∀ a b : Int, 0 ≤ a → ∃ c a' b', cf i [.loc 0, .int most] [[.int a, .int b]] = .ok (.str c) [[.int a', .int b']] ∧ 0 ≤ a' ∧ 1 ≤ c.length ∧ (c.length : Int) ≤ most ∧ HD c
theorem chars_ok {tbl : Tbl} {k i iR iS : Nat} (h : tbl i = some ⟨2, 7, bChar iR iS⟩) (hR : Rolls (callF tbl k) iR) (hS : Somes (callF tbl k) iS) : Chars (callF tbl (k + 1)) i := by
  intro most h1 h2 a b ha
  obtain ⟨r, a1, b1, e1, r0, r1, ha1⟩ := hR most (by omega) (by omega) a b ha
  obtain ⟨w, a2, b2, e2, w0, w1, ha2⟩ := hR 3 (by omega) (by omega) a1 b1 ha1
  obtain ⟨n, hn⟩ : ∃ n : Nat, 1 + r = (n : Int) := ⟨(1 + r).toNat, by omega⟩
  by_cases c1 : w = 1
  · obtain ⟨q, a3, b3, e3, q0, q1, ha3⟩ := hR (1 + r) (by omega) (by omega) a2 b2 ha2
    obtain ⟨m, hm⟩ : ∃ m : Nat, 1 + q = (m : Int) := ⟨(1 + q).toNat, by omega⟩
    obtain ⟨d, hd⟩ : ∃ d : Nat, 1 + r - (1 + q) = (d : Int) := ⟨(1 + r - (1 + q)).toNat, by omega⟩
    have m1 := o_mulS [35] m (by decide) (by omega)
    have m2 := o_mulS [46] d (by decide) (by omega)
    rw [← hm] at m1
    rw [← hd] at m2
    have l1 := rep_lenN [35] m
    have l2 := rep_lenN [46] d
    simp only [List.length_cons, List.length_nil] at l1 l2
    have m3 := o_addS' (x := rep [35] m) (y := rep [46] d) (by omega) (by omega)
    refine ⟨rep [35] m ++ rep [46] d, a3, b3, ?_, ha3, ?_, ?_, ?_⟩
    · rw [callF_at h]
      subst c1
      simp [-o_addS, runFn, bChar, e1, e2, e3, setsEnv, m1, m2, m3]
    · rw [List.length_append]; omega
    · rw [List.length_append]; omega
    · exact HD.app (fun x hx => .inl (List.mem_singleton.mp (rep_mem hx))) fun x hx => .inr (List.mem_singleton.mp (rep_mem hx))
  · let I : Nat → Env → Store → Prop := fun j r' s => ∃ (c : List Nat) (a b : Int) (r3 : Option PV), r' = [some (.loc 0), some (.int most), some (.str c), r3, some (.int (1 + r)), some (.int w), none] ∧ s = [[.int a, .int b]] ∧ 0 ≤ a ∧ c.length = j ∧ HD c
    have z2 : 2 ≤ SZ := by decide
    have loop := forL_run (f := fun x r s => (Res.ofO (asg (.name 3) x r) s).bind fun r s => exs (callF tbl k) (.cons (.asg (.name 2) (.bin .add (.var 2) (.call iS (.cons (.var 0) (.cons (.lst (.cons (.con (.str [35])) (.cons (.con (.str [46])) .nil))) .nil))))) .nil) r s) (I := I) (xs := rangeL 0 n) (n := 0) (r := [some (.loc 0), some (.int most), some (.str []), none, some (.int (1 + r)), some (.int w), none]) (s := [[.int a2, .int b2]]) (by
      rintro i x hx r' s ⟨c, a, b, r3, rfl, rfl, ha, hc, hd⟩
      obtain ⟨y, a3, b3, e3, hy, ha3⟩ := hS.1 [.str [35], .str [46]] (by simp) (by decide) a b ha
      have hi : i < n := by
        have := (List.getElem?_eq_some_iff.mp hx).1
        rwa [rangeL_lenN] at this
      obtain ⟨z, rfl, hz⟩ : ∃ z, y = .str [z] ∧ (z = 35 ∨ z = 46) := by
        simp only [List.mem_cons, List.not_mem_nil, or_false] at hy
        rcases hy with rfl | rfl
        · exact ⟨35, rfl, .inl rfl⟩
        · exact ⟨46, rfl, .inr rfl⟩
      have m3 := o_addS' (x := c) (y := [z]) (by omega) (by simp)
      refine ⟨_, [[.int a3, .int b3]], ?_, c ++ [z], a3, b3, some x, rfl, rfl, ha3, ?_, HD.app hd fun q hq => by rw [List.mem_singleton.mp hq]; exact hz⟩
      · simp [-o_addS, e3, z2, m3]
      · rw [List.length_append, hc]; rfl) ⟨[], a2, b2, none, rfl, rfl, ha2, rfl, fun _ hx => by cases hx⟩
    obtain ⟨r', s', e3, c, a3, b3, r3, rfl, rfl, ha3, hc, hd⟩ := loop
    have rg := range1_nat n (by omega)
    rw [← hn] at rg
    rw [Nat.zero_add, rangeL_lenN] at hc
    have e4 : ex (callF tbl k) (.for_ (.name 3) (.range1 (.var 4)) (.cons (.asg (.name 2) (.bin .add (.var 2) (.call iS (.cons (.var 0) (.cons (.lst (.cons (.con (.str [35])) (.cons (.con (.str [46])) .nil))) .nil))))) .nil)) [some (.loc 0), some (.int most), some (.str []), none, some (.int (1 + r)), some (.int w), none] [[.int a2, .int b2]] = .ok (.next [some (.loc 0), some (.int most), some (.str c), r3, some (.int (1 + r)), some (.int w), none]) [[.int a3, .int b3]] := by
      rw [ex_for_]
      simp only [evI_range1, ev_var, Res.bind_ok, List.getElem?_cons_zero, List.getElem?_cons_succ, rg, Res.ofO_some]
      exact e3
    have l64 : lim64 2 = true := by decide
    by_cases c2 : w = 2
    · by_cases c3 : 2 * (1 + r) ≤ most
      · refine ⟨c ++ c, a3, b3, ?_, ha3, by rw [List.length_append]; omega, by rw [List.length_append]; omega, hd.app hd⟩
        rw [callF_at h]
        subst c2
        have m3 := o_addS' (x := c) (y := c) (by omega) (by omega)
        simp [-ex_for_, -o_addS, runFn, bChar, e1, e2, setsEnv, e4, l64, c3, m3]
      · refine ⟨c, a3, b3, ?_, ha3, by omega, by omega, hd⟩
        rw [callF_at h]
        subst c2
        simp [-ex_for_, -o_addS, runFn, bChar, e1, e2, setsEnv, e4, l64, c3]
    · refine ⟨c, a3, b3, ?_, ha3, by omega, by omega, hd⟩
      rw [callF_at h]
      simp [-ex_for_, -o_addS, runFn, bChar, e1, e2, setsEnv, e4, c1, c2]
/-- range(len(x)) -/
theorem evI_len1 {cf : CF} {i : Nat} {x : PV} {r : Env} {s : Store} {L : Int} {xs : List PV} (hi : r[i]? = some (some x)) (len : blt1 .len x = some (.int L)) (rg : range1op (.int L) = some xs) : evI cf (.range1 (.blt .len (.cons (.var i) .nil))) r s = .ok xs s := by
  simp [hi, len, rg]
/-- range(1, len(x) + 1) -/
theorem evI_len2 {cf : CF} {i : Nat} {x : PV} {r : Env} {s : Store} {L : Int} {xs : List PV} (hi : r[i]? = some (some x)) (len : blt1 .len x = some (.int L)) (rg : range2op (.int 1) (.int (L + 1)) = some xs) : evI cf (.range2 (.con (.int 1)) (.bin .add (.blt .len (.cons (.var i) .nil)) (.con (.int 1)))) r s = .ok xs s := by
  simp [hi, len, rg]
/-! ### parts of a suite -/
def appS : Ss → Ss → Ss
  | .nil, q => q
  | .cons st p, q => .cons st (appS p q)
def takeS : Nat → Ss → Ss
  | 0, _ => .nil
  | _ + 1, .nil => .nil
  | n + 1, .cons st p => .cons st (takeS n p)
def dropS : Nat → Ss → Ss
  | 0, p => p
  | _ + 1, .nil => .nil
  | n + 1, .cons _ p => dropS n p
theorem app_take : ∀ (n : Nat) (p : Ss), p = appS (takeS n p) (dropS n p)
  | 0, p => rfl
  | _ + 1, .nil => rfl
  | n + 1, .cons st p => congrArg (Ss.cons st) (app_take n p)
theorem exs_app (cf : CF) : ∀ (p q : Ss) (r r' : Env) (s s' : Store), exs cf p r s = .ok (.next r') s' → exs cf (appS p q) r s = exs cf q r' s'
  | .nil, q, r, r', s, s', h => by cases h; rfl
  | .cons st p, q, r, r', s, s', h => by
    obtain ⟨fl, s1, e1, f1⟩ := Res.bind_eq_ok (show (ex cf st r s).bind _ = _ from h)
    show (ex cf st r s).bind _ = _
    rw [e1, Res.bind_ok]
    cases fl with
    | next r1 => exact exs_app cf p q r1 r' s1 s' f1
    | brk r1 => cases f1
    | cont r1 => cases f1
    | ret v => cases f1
theorem exs_take (cf : CF) (n : Nat) {p : Ss} {r r' : Env} {s s' : Store} (h : exs cf (takeS n p) r s = .ok (.next r') s') : exs cf p r s = exs cf (dropS n p) r' s' :=
  (congrArg (fun q => exs cf q r s) (app_take n p)).trans (exs_app cf _ _ _ _ _ _ h)
/-! ### lists of texts -/
theorem isDs_strs {α : Type} (f : α → List Nat) : ∀ xs : List α, isDs (xs.map fun i => .str (f i)) = true
  | [] => rfl
  | y :: ys => isDs_strs f ys
theorem depths_strs {α : Type} (f : α → List Nat) : ∀ xs : List α, depths (xs.map fun i => .str (f i)) = 0
  | [] => rfl
  | y :: ys => by
    show max 0 (depths (ys.map fun i => .str (f i))) = 0
    rw [depths_strs f ys]
    rfl
theorem listFrees_strs {α : Type} (f : α → List Nat) : ∀ xs : List α, listFrees (xs.map fun i => .str (f i)) = true
  | [] => rfl
  | y :: ys => listFrees_strs f ys
theorem eqvs_strs (xs : List (List Nat)) : ∀ ys : List (List Nat), eqvs (xs.map .str) (ys.map .str) = (xs == ys) := by
  induction xs with
  | nil => intro ys; cases ys <;> rfl
  | cons x xs ih =>
    intro ys
    cases ys with
    | nil => rfl
    | cons y ys =>
      show ((x == y) && eqvs (xs.map .str) (ys.map .str)) = _
      rw [ih]
      rfl
theorem okEq_strs (xs ys : List (List Nat)) : okEq (.lst (xs.map .str)) (.lst (ys.map .str)) = true := by
  have h1 := isDs_strs (fun x => x) xs
  have h2 := isDs_strs (fun x => x) ys
  have h3 := depths_strs (fun x => x) xs
  have h4 := depths_strs (fun x => x) ys
  show (isDs (xs.map .str) && isDs (ys.map .str) && decide (depths (xs.map .str) + 1 ≤ 40) && decide (depths (ys.map .str) + 1 ≤ 40)) = true
  have h1 : isDs (xs.map .str) = true := h1
  have h2 : isDs (ys.map .str) = true := h2
  have h3 : depths (xs.map .str) = 0 := h3
  have h4 : depths (ys.map .str) = 0 := h4
  rw [h1, h2, h3, h4]
  rfl
theorem o_eqStrs (xs ys : List (List Nat)) : cmpop .eq (.lst (xs.map .str)) (.lst (ys.map .str)) = some (xs == ys) := by
  rw [o_eq (okEq_strs xs ys)]
  show some (eqvs _ _) = _
  rw [eqvs_strs]
theorem o_neStrs (xs ys : List (List Nat)) : cmpop .ne (.lst (xs.map .str)) (.lst (ys.map .str)) = some (!(xs == ys)) := by
  rw [o_ne (okEq_strs xs ys)]
  show some (!eqvs _ _) = _
  rw [eqvs_strs]
/-- the texts of a kind -/
def strF (p : List Nat → Bool) : PV → Option PV
  | .str d => if p d then some (.str d) else none
  | _ => none
theorem fm_filter (p : List Nat → Bool) : ∀ ds : List (List Nat), (ds.map PV.str).filterMap (strF p) = (ds.filter p).map .str
  | [] => rfl
  | d :: ds => by
    rw [List.map_cons]
    by_cases h : p d = true
    · rw [List.filter_cons_of_pos h, List.map_cons, ← fm_filter p ds]
      exact List.filterMap_cons_some (by simp only [strF, h, if_true])
    · rw [List.filter_cons_of_neg h, ← fm_filter p ds]
      exact List.filterMap_cons_none (by simp [strF, h])
theorem runFn_ret {cf : CF} {np nn : Nat} {body : Ss} {args : List PV} {s s' : Store} {v : PV} (hl : args.length = np) (h : exs cf body (args.map some ++ List.replicate (nn - args.length) none) s = .ok (.ret v) s') : runFn cf ⟨np, nn, body⟩ args s = .ok v s' := by
  unfold runFn
  rw [if_pos hl]
  show (exs cf body _ s).bind _ = _
  rw [h]
  rfl
/-! ### comprehensions that change no store -/
theorem comp_map {cf : CF} {vs : List Nat} {t : Tg} {it : It} {e : E} {r : Env} {s : Store} {xs : List PV} {g : PV → PV} (hI : evI cf it r s = .ok xs s) (h : ∀ x ∈ xs, ∃ r1, asg t x (wipe r vs) = some r1 ∧ ev cf e r1 s = .ok (g x) s) (hz : xs.length ≤ 1000000) : ev cf (.comp vs t it (.con (.bl true)) e) r s = .ok (.lst (xs.map g)) s := by
  rw [ev_comp, hI, Res.bind_ok, compL_pure (g := fun x => some (g x)) fun x hx => ?_]
  · rw [List.filterMap_eq_map', Res.bind_ok]
    exact if_pos (by rw [List.length_map]; show _ ≤ 16777216; omega)
  · obtain ⟨r1, e1, e2⟩ := h x hx
    simp [e1, e2]
theorem comp_filter {cf : CF} {vs : List Nat} {t : Tg} {it : It} {c e : E} {r : Env} {s : Store} {xs : List PV} {p : PV → Bool} {g : PV → PV} (hI : evI cf it r s = .ok xs s) (h : ∀ x ∈ xs, ∃ r1, asg t x (wipe r vs) = some r1 ∧ ev cf c r1 s = .ok (.bl (p x)) s ∧ (p x = true → ev cf e r1 s = .ok (g x) s)) (hz : xs.length ≤ 1000000) : ev cf (.comp vs t it c e) r s = .ok (.lst ((xs.filter p).map g)) s := by
  have key : ∀ xs : List PV, xs.filterMap (fun x => if p x then some (g x) else none) = (xs.filter p).map g := by
    intro xs
    induction xs with
    | nil => rfl
    | cons x xs ih =>
      cases q : p x with
      | true => rw [List.filter_cons_of_pos q, List.map_cons, ← ih]; exact List.filterMap_cons_some (by simp [q])
      | false => rw [List.filter_cons_of_neg (by simp [q]), ← ih]; exact List.filterMap_cons_none (by simp [q])
  rw [ev_comp, hI, Res.bind_ok, compL_pure (g := fun x => if p x then some (g x) else none) fun x hx => ?_]
  · rw [key, Res.bind_ok]
    exact if_pos (by
      rw [List.length_map]
      have := List.length_filter_le p xs
      show _ ≤ 16777216
      omega)
  · obtain ⟨r1, e1, e2, e3⟩ := h x hx
    cases q : p x with
    | true => rw [q] at e2; simp [e1, e2, e3 q]
    | false => rw [q] at e2; simp [e1, e2]
theorem allB_map {α : Type} (p : α → Bool) : ∀ xs : List α, allB (xs.map fun x => PV.bl (p x)) = some (xs.all p)
  | [] => rfl
  | x :: xs => by
    show (allB (xs.map fun x => PV.bl (p x))).map _ = _
    rw [allB_map p xs]
    rfl
theorem isSub_one (c : Nat) : ∀ l : List Nat, isSub [c] l = l.contains c
  | [] => rfl
  | y :: ys => by
    rw [List.contains_cons]
    show (isPre [c] (y :: ys) || isSub [c] ys) = _
    rw [isSub_one c ys]
    show ((c == y && isPre [] ys) || ys.contains c) = _
    simp [isPre]
theorem o_eqS (x y : List Nat) : cmpop .eq (.str x) (.str y) = some (x == y) := rfl
theorem o_neS (x y : List Nat) : cmpop .ne (.str x) (.str y) = some (!(x == y)) := rfl
theorem slT_drop (xs : List PV) (n : Nat) : slV (.tup xs) (some (n : Int)) none = some (.tup (xs.drop n)) := by
  show some (PV.tup (cut xs (some (n : Int)) none)) = _
  rw [cut_drop]
theorem slT_take (xs : List PV) (n : Nat) : slV (.tup xs) none (some (n : Int)) = some (.tup (xs.take n)) := by
  show some (PV.tup (cut xs none (some (n : Int)))) = _
  rw [cut_take]
theorem slL_drop (xs : List PV) (n : Nat) : slV (.lst xs) (some (n : Int)) none = some (.lst (xs.drop n)) := by
  show some (PV.lst (cut xs (some (n : Int)) none)) = _
  rw [cut_drop]
theorem slL_take (xs : List PV) (n : Nat) : slV (.lst xs) none (some (n : Int)) = some (.lst (xs.take n)) := by
  show some (PV.lst (cut xs none (some (n : Int)))) = _
  rw [cut_take]
theorem subT_nat (s : Store) (xs : List PV) (n : Nat) : subS s (.tup xs) (.int (n : Int)) = xs[n]? := getAt_nat xs n
theorem subL_nat (s : Store) (xs : List PV) (n : Nat) : subS s (.lst xs) (.int (n : Int)) = xs[n]? := getAt_nat xs n
theorem subS_str {x : List Nat} {n : Nat} (s : Store) (h : x.length ≤ 1000000) : subS s (.str x) (.int (n : Int)) = x[n]?.map fun c => .str [c] := by
  show (if x.length ≤ SZ then (getAt x (n : Int)).map fun c => PV.str [c] else none) = _
  rw [if_pos (show _ ≤ 16777216 by omega), getAt_nat]
theorem eqvs_nil (xs : List PV) : eqvs xs [] = xs.isEmpty := by cases xs <;> rfl
theorem o_eqNilL {xs : List PV} (h : isDs xs = true) (h2 : depths xs ≤ 39) : cmpop .eq (.lst xs) (.lst []) = some xs.isEmpty := by
  rw [o_eq]
  · show some (eqvs xs []) = _
    rw [eqvs_nil]
  · show (isDs xs && true && decide (depths xs + 1 ≤ 40) && true) = true
    rw [h, decide_eq_true (by omega)]
    rfl
theorem o_neNilL {xs : List PV} (h : isDs xs = true) (h2 : depths xs ≤ 39) : cmpop .ne (.lst xs) (.lst []) = some (!xs.isEmpty) := by
  rw [o_ne]
  · show some (!eqvs xs []) = _
    rw [eqvs_nil]
  · show (isDs xs && true && decide (depths xs + 1 ≤ 40) && true) = true
    rw [h, decide_eq_true (by omega)]
    rfl
theorem o_eqNilT {xs : List PV} (h : isDs xs = true) (h2 : depths xs ≤ 39) : cmpop .eq (.tup xs) (.tup []) = some xs.isEmpty := by
  rw [o_eq]
  · show some (eqvs xs []) = _
    rw [eqvs_nil]
  · show (isDs xs && true && decide (depths xs + 1 ≤ 40) && true) = true
    rw [h, decide_eq_true (by omega)]
    rfl
theorem o_neNilT {xs : List PV} (h : isDs xs = true) (h2 : depths xs ≤ 39) : cmpop .ne (.tup xs) (.tup []) = some (!xs.isEmpty) := by
  rw [o_ne]
  · show some (!eqvs xs []) = _
    rw [eqvs_nil]
  · show (isDs xs && true && decide (depths xs + 1 ≤ 40) && true) = true
    rw [h, decide_eq_true (by omega)]
    rfl
theorem isDs_of : ∀ {xs : List PV}, (∀ x ∈ xs, isD x = true) → isDs xs = true
  | [], _ => rfl
  | x :: xs, h => by
    rw [isDs, h x List.mem_cons_self, isDs_of fun y hy => h y (List.mem_cons_of_mem _ hy)]
    rfl
theorem depths_of {n : Nat} : ∀ {xs : List PV}, (∀ x ∈ xs, depth x ≤ n) → depths xs ≤ n
  | [], _ => Nat.zero_le _
  | x :: xs, h => by
    rw [depths]
    exact Nat.max_le.mpr ⟨h x List.mem_cons_self, depths_of fun y hy => h y (List.mem_cons_of_mem _ hy)⟩
end PyI

set_option maxRecDepth 100000
set_option maxHeartbeats 0
namespace K18
open PyI PySem
abbrev topSt (i : Nat) : PySem.Stmt := PySem.Challenge.pw_knownbylight_k18_whole_codes_and_crossin.main.body.getD i (.Pass ⟨0, 0, 0, 0⟩)
def b0 : Ss := .cons (.asg (.name 1) (.blt .abs (.cons (.sub (.bin .add (.blt .list (.cons (.var 0) .nil)) (.lst (.cons (.con (.int 0)) .nil))) (.con (.int 0))) .nil))) (.cons (.ret (.newP (.cons (.ite (.cmp .ge (.var 1) (.bin .pow (.con (.int 10)) (.con (.int 18)))) (.bin .fdiv (.var 1) (.con (.int 73))) (.con (.int 0))) (.cons (.bin .add (.bin .mod (.blt .int (.cons (.bin .add (.bin .mul (.var 1) (.con (.int 283))) (.con (.int 3907))) .nil)) (.con (.int 2077503167))) (.con (.int 167))) .nil)))) .nil)
def d0 : PDef := ⟨"_law_cup", topSt 20, ["script"], ["script", "cell"], ⟨1, 2, b0⟩⟩
def b1 : Ss := .cons (.ret (.blt .all (.cons (.comp [1, 2] (.tup (.cons (.name 1) (.cons (.name 2) .nil))) (.zip (.var 0) (.slice (.var 0) (.con (.int 1)) (.con .non))) (.con (.bl true)) (.cmp .lt (.var 1) (.var 2))) .nil))) .nil
def d1 : PDef := ⟨"is_rising", topSt 5, ["things"], ["things", "one", "other"], ⟨1, 3, b1⟩⟩
def b2 : Ss := .cons (.ret (.and (.isin (.var 0) .tuple) (.chain .le .le (.var 1) (.blt .len (.cons (.var 0) .nil)) (.var 2)))) .nil
def d2 : PDef := ⟨"is_tuple_of", topSt 4, ["value", "low", "high"], ["value", "low", "high"], ⟨3, 3, b2⟩⟩
def b3 : Ss := .cons (.ret (.and (.isin (.var 0) .str) (.and (.chain .le .le (.var 2) (.blt .len (.cons (.var 0) .nil)) (.var 3)) (.blt .all (.cons (.comp [4] (.name 4) (.seq (.var 0)) (.con (.bl true)) (.cmp .in_ (.var 4) (.var 1))) .nil))))) .nil
def d3 : PDef := ⟨"is_word", topSt 6, ["value", "signs", "low", "high"], ["value", "signs", "low", "high", "sign"], ⟨4, 5, b3⟩⟩
def b4 : Ss := .cons (.ite (.or (.not (.call 2 (.cons (.var 0) (.cons (.con (.int 1)) (.cons (.con (.int 200)) .nil))))) (.not (.blt .all (.cons (.comp [1] (.name 1) (.seq (.var 0)) (.con (.bl true)) (.call 3 (.cons (.var 1) (.cons (.con (.str [35, 46])) (.cons (.con (.int 1)) (.cons (.con (.int 12)) .nil)))))) .nil)))) (.cons (.ret (.con (.bl false))) .nil) (.nil)) (.cons (.ret (.and (.blt .all (.cons (.comp [1] (.name 1) (.seq (.var 0)) (.con (.bl true)) (.cmp .eq (.blt .len (.cons (.var 1) .nil)) (.blt .len (.cons (.sub (.var 0) (.con (.int 0))) .nil)))) .nil)) (.call 1 (.cons (.var 0) .nil)))) .nil)
def d4 : PDef := ⟨"fits_code", topSt 11, ["value"], ["value", "word"], ⟨1, 2, b4⟩⟩
def b5 : Ss := .cons (.ite (.not (.call 4 (.cons (.var 0) .nil))) (.cons (.raise 0) .nil) (.nil)) .nil
def d5 : PDef := ⟨"need_code", topSt 12, ["value"], ["value"], ⟨1, 1, b5⟩⟩
def b6 : Ss := .cons (.asg (.tup (.cons (.name 2) (.cons (.name 3) .nil))) (.tup (.cons (.bin .add (.var 0) (.var 1)) (.cons (.blt .len (.cons (.var 0) .nil)) .nil)))) (.cons (.ret (.comp [4] (.name 4) (.range2 (.con (.int 1)) (.var 3)) (.con (.bl true)) (.slice (.var 2) (.var 4) (.bin .add (.var 4) (.var 3))))) .nil)
def d6 : PDef := ⟨"across", topSt 13, ["one", "other"], ["one", "other", "both", "size", "at"], ⟨2, 5, b6⟩⟩
def b7 : Ss := .cons (.asg (.tup (.cons (.name 2) (.cons (.name 3) .nil))) (.tup (.cons (.dict (.comp [5] (.name 5) (.seq (.var 0)) (.con (.bl true)) (.tup (.cons (.var 5) (.cons (.con (.bl true)) .nil))))) (.cons (.lst (.nil)) .nil)))) (.cons (.for_ (.name 1) (.seq (.var 0)) (.cons (.for_ (.name 4) (.seq (.var 0)) (.cons (.asg (.name 3) (.bin .add (.var 3) (.comp [6, 5] (.tup (.cons (.name 6) (.cons (.name 5) .nil))) (.enum2 (.call 6 (.cons (.var 1) (.cons (.var 4) .nil))) (.con (.int 1))) (.cmp .in_ (.var 5) (.var 2)) (.tup (.cons (.var 1) (.cons (.var 4) (.cons (.var 6) .nil))))))) .nil)) .nil)) (.cons (.ret (.var 3)) .nil))
def d7 : PDef := ⟨"all_crossings", topSt 15, ["code"], ["code", "one", "words", "found", "other", "word", "at"], ⟨1, 7, b7⟩⟩
def b8 : Ss := .cons (.drop (.call 5 (.cons (.var 0) .nil))) (.cons (.ret (.blt .tuple (.cons (.call 7 (.cons (.var 0) .nil)) .nil))) .nil)
def d8 : PDef := ⟨"crossings_of", topSt 18, ["code"], ["code"], ⟨1, 1, b8⟩⟩
def b9 : Ss := .cons (.ret (.call 4 (.cons (.var 0) .nil))) .nil
def d9 : PDef := ⟨"is_code", topSt 16, ["value"], ["value"], ⟨1, 1, b9⟩⟩
def b10 : Ss := .cons (.asg (.name 1) (.dict (.comp [4] (.name 4) (.seq (.var 0)) (.con (.bl true)) (.tup (.cons (.var 4) (.cons (.con (.bl true)) .nil)))))) (.cons (.for_ (.name 2) (.seq (.var 0)) (.cons (.for_ (.name 3) (.seq (.var 0)) (.cons (.for_ (.tup (.cons (.name 5) (.cons (.name 4) .nil))) (.enum2 (.call 6 (.cons (.var 2) (.cons (.var 3) .nil))) (.con (.int 1))) (.cons (.ite (.cmp .in_ (.var 4) (.var 1)) (.cons (.ret (.tup (.cons (.var 2) (.cons (.var 3) (.cons (.var 5) .nil))))) .nil) (.nil)) .nil)) .nil)) .nil)) (.cons (.ret (.con .non)) .nil))
def d10 : PDef := ⟨"first_crossing", topSt 14, ["code"], ["code", "words", "one", "other", "word", "at"], ⟨1, 6, b10⟩⟩
def b11 : Ss := .cons (.drop (.call 5 (.cons (.var 0) .nil))) (.cons (.ret (.cmp .isN (.call 10 (.cons (.var 0) .nil)) (.con .non))) .nil)
def d11 : PDef := ⟨"shows_beginning", topSt 17, ["code"], ["code"], ⟨1, 1, b11⟩⟩
def b12 : Ss := .cons (.ite (.or (.cmp .isN (.var 0) (.con .non)) (.isin (.var 0) .bool)) (.cons (.ret (.ite (.cmp .isN (.var 0) (.con .non)) (.con (.int 0)) (.con (.int 1)))) .nil) (.nil)) (.cons (.ite (.or (.isin (.var 0) .int) (.isin (.var 0) .str)) (.cons (.ret (.ite (.isin (.var 0) .int) (.con (.int 2)) (.con (.int 3)))) .nil) (.nil)) (.cons (.ret (.ite (.isin (.var 0) .tuple) (.con (.int 4)) (.ite (.isin (.var 0) .list) (.con (.int 5)) (.con (.int 6))))) .nil))
def d12 : PDef := ⟨"_law_sort", topSt 23, ["value"], ["value"], ⟨1, 1, b12⟩⟩
def b13 : Ss := .cons (.asg (.name 2) (.call 12 (.cons (.var 1) .nil))) (.cons (.ite (.or (.cmp .ne (.call 12 (.cons (.var 0) .nil)) (.var 2)) (.cmp .eq (.var 2) (.con (.int 6)))) (.cons (.ret (.con (.bl false))) .nil) (.nil)) (.cons (.ite (.cmp .in_ (.var 2) (.tup (.cons (.con (.int 4)) (.cons (.con (.int 5)) .nil)))) (.cons (.ret (.and (.cmp .eq (.blt .len (.cons (.var 0) .nil)) (.blt .len (.cons (.var 1) .nil))) (.cmp .eq (.comp [3, 4] (.tup (.cons (.name 3) (.cons (.name 4) .nil))) (.zip (.var 0) (.var 1)) (.not (.call 13 (.cons (.var 3) (.cons (.var 4) .nil)))) (.con (.int 1))) (.lst (.nil))))) .nil) (.nil)) (.cons (.ret (.cmp .eq (.var 0) (.var 1))) .nil)))
def d13 : PDef := ⟨"_law_like", topSt 24, ["one", "other"], ["one", "other", "sort", "first", "second"], ⟨2, 5, b13⟩⟩
def b14 : Ss := .cons (.ite (.cmp .gt (.sub (.var 0) (.con (.int 0))) (.con (.int 0))) (.cons (.asg (.name 3) (.bin .mod (.blt .int (.cons (.sub (.var 0) (.con (.int 0))) .nil)) (.var 1))) (.cons (.setP 0 (.con (.int 0)) (.bin .fdiv (.sub (.var 0) (.con (.int 0))) (.var 1))) (.cons (.ret (.var 3)) .nil))) (.nil)) (.cons (.setP 0 (.con (.int 1)) (.bin .mod (.blt .int (.cons (.bin .add (.bin .mul (.sub (.var 0) (.con (.int 1))) (.con (.int 31051))) (.con (.int 7993))) .nil)) (.con (.int 2147483543)))) (.cons (.asg (.name 2) (.bin .mod (.blt .int (.cons (.bin .mul (.sub (.var 0) (.con (.int 1))) (.bin .add (.sub (.var 0) (.con (.int 1))) (.con (.int 229)))) .nil)) (.con (.int 2147483587)))) (.cons (.ret (.bin .mod (.blt .int (.cons (.bin .fdiv (.var 2) (.con (.int 821))) .nil)) (.var 1))) .nil)))
def d14 : PDef := ⟨"_law_roll", topSt 21, ["cup", "many"], ["cup", "many", "deep", "found"], ⟨2, 4, b14⟩⟩
def b15 : Ss := .cons (.ret (.sub (.var 1) (.call 14 (.cons (.var 0) (.cons (.blt .len (.cons (.var 1) .nil)) .nil))))) .nil
def d15 : PDef := ⟨"_law_some", topSt 22, ["cup", "things"], ["cup", "things"], ⟨2, 2, b15⟩⟩
def b16 : Ss := .cons (.parO [4, 5] 1 (.cons (.bin .add (.con (.int 1)) (.call 14 (.cons (.var 0) (.cons (.var 1) .nil)))) (.cons (.lst (.nil)) .nil))) (.cons (.for_ (.name 3) (.range1 (.bin .add (.con (.int 1)) (.call 14 (.cons (.var 0) (.cons (.var 2) .nil))))) (.cons (.app 5 (.meth .join (.con (.str [])) (.cons (.comp [6] (.name 6) (.range1 (.var 4)) (.con (.bl true)) (.call 15 (.cons (.var 0) (.cons (.lst (.cons (.con (.str [35])) (.cons (.con (.str [46])) .nil))) .nil)))) .nil))) .nil)) (.cons (.free 5) (.cons (.ret (.blt .tuple (.cons (.sset (.var 5)) .nil))) .nil)))
def d16 : PDef := ⟨"_law_code", topSt 26, ["cup", "longest", "most"], ["cup", "longest", "most", "turn", "length", "found", "sign"], ⟨3, 7, b16⟩⟩
def b17 : Ss := .cons (.ownDD 2 3) (.cons (.for_ (.name 1) (.seq (.var 0)) (.cons (.for_ (.name 4) (.range2 (.con (.int 1)) (.blt .len (.cons (.var 1) .nil))) (.cons (.setL 2 (.slice (.var 1) (.var 4) (.con .non)) (.con (.bl true))) (.cons (.setL 3 (.slice (.var 1) (.con .non) (.var 4)) (.con (.bl true))) .nil))) .nil)) (.cons (.free 2) (.cons (.free 3) (.cons (.ret (.cmp .eq (.comp [1] (.name 1) (.seq (.var 0)) (.cmp .ne (.comp [4] (.name 4) (.range2 (.con (.int 1)) (.blt .len (.cons (.var 1) .nil))) (.and (.cmp .in_ (.slice (.var 1) (.con .non) (.var 4)) (.var 2)) (.cmp .in_ (.slice (.var 1) (.var 4) (.con .non)) (.var 3))) (.var 4)) (.lst (.nil))) (.var 1)) (.lst (.nil)))) .nil))))
def d17 : PDef := ⟨"_law_shows", topSt 28, ["code"], ["code", "word", "tails", "heads", "at"], ⟨1, 5, b17⟩⟩
def b18 : Ss := .cons (.parO [2, 3] 0 (.cons (.blt .list (.cons (.var 1) .nil)) (.cons (.tup (.nil)) .nil))) (.cons (.while_ (.lend [2] (.cmp .ne (.var 2) (.lst (.nil)))) (.cons (.popL 4 2 (.lend [2] (.call 14 (.cons (.var 0) (.cons (.blt .len (.cons (.var 2) .nil)) .nil))))) (.cons (.ite (.call 17 (.cons (.bin .add (.var 3) (.tup (.cons (.var 4) .nil))) .nil)) (.cons (.asg (.name 3) (.bin .add (.var 3) (.tup (.cons (.var 4) .nil)))) .nil) (.nil)) .nil))) (.cons (.free 2) (.cons (.ret (.blt .tuple (.cons (.blt .sorted (.cons (.var 3) .nil)) .nil))) .nil)))
def d18 : PDef := ⟨"_law_shown", topSt 29, ["cup", "code"], ["cup", "code", "left", "found", "word"], ⟨2, 5, b18⟩⟩
def b19 : Ss := .cons (.asg (.name 1) (.lst (.cons (.con (.str [])) .nil))) (.cons (.for_ (.name 2) (.range1 (.var 0)) (.cons (.asg (.name 3) (.lst (.nil))) (.cons (.for_ (.name 4) (.seq (.var 1)) (.cons (.asg (.name 3) (.bin .add (.var 3) (.lst (.cons (.bin .add (.var 4) (.con (.str [35]))) (.cons (.bin .add (.var 4) (.con (.str [46]))) .nil))))) .nil)) (.cons (.asg (.name 1) (.var 3)) .nil)))) (.cons (.ret (.var 1)) .nil))
def d19 : PDef := ⟨"_law_words", topSt 25, ["length"], ["length", "found", "turn", "longer", "word"], ⟨1, 5, b19⟩⟩
def b20 : Ss := .cons (.asg (.name 1) (.lst (.nil))) (.cons (.for_ (.name 2) (.seq (.var 0)) (.cons (.for_ (.name 3) (.seq (.var 0)) (.cons (.asg (.name 4) (.bin .add (.var 2) (.var 3))) (.cons (.asg (.name 1) (.bin .add (.var 1) (.comp [5] (.name 5) (.range2 (.con (.int 1)) (.blt .len (.cons (.var 2) .nil))) (.cmp .in_ (.slice (.var 4) (.var 5) (.bin .add (.var 5) (.blt .len (.cons (.var 2) .nil)))) (.var 0)) (.tup (.cons (.var 2) (.cons (.var 3) (.cons (.var 5) .nil))))))) .nil))) .nil)) (.cons (.ret (.blt .tuple (.cons (.var 1) .nil))) .nil))
def d20 : PDef := ⟨"_law_crossings", topSt 27, ["code"], ["code", "found", "one", "other", "both", "at"], ⟨1, 6, b20⟩⟩
def b21 : Ss := .cons (.ite (.or (.not (.isin (.var 0) .tuple)) (.or (.not (.chain .le .le (.con (.int 1)) (.blt .len (.cons (.var 0) .nil)) (.con (.int 200)))) (.cmp .ne (.comp [1] (.name 1) (.seq (.var 0)) (.cmp .ne (.call 12 (.cons (.var 1) .nil)) (.con (.int 3))) (.var 1)) (.lst (.nil))))) (.cons (.ret (.con (.bl false))) .nil) (.nil)) (.cons (.ite (.cmp .ne (.comp [1] (.name 1) (.seq (.var 0)) (.or (.not (.chain .le .le (.con (.int 1)) (.blt .len (.cons (.var 1) .nil)) (.con (.int 12)))) (.or (.cmp .ne (.blt .len (.cons (.var 1) .nil)) (.blt .len (.cons (.sub (.var 0) (.con (.int 0))) .nil))) (.cmp .ne (.comp [2] (.name 2) (.seq (.var 1)) (.cmp .notIn (.var 2) (.con (.str [35, 46]))) (.var 2)) (.lst (.nil))))) (.var 1)) (.lst (.nil))) (.cons (.ret (.con (.bl false))) .nil) (.nil)) (.cons (.ret (.cmp .eq (.blt .list (.cons (.var 0) .nil)) (.sset (.var 0)))) .nil))
def d21 : PDef := ⟨"_law_is_code", topSt 30, ["value"], ["value", "word", "sign"], ⟨1, 3, b21⟩⟩
def b22 : Ss := .cons (.asg (.name 2) (.call 20 (.cons (.var 1) .nil))) (.cons (.ite (.or (.not (.call 13 (.cons (.lst (.cons (.call 9 (.cons (.var 1) .nil)) (.cons (.call 8 (.cons (.var 1) .nil)) (.cons (.call 11 (.cons (.var 1) .nil)) .nil)))) (.cons (.lst (.cons (.con (.bl true)) (.cons (.var 2) (.cons (.cmp .eq (.var 2) (.tup (.nil))) .nil)))) .nil)))) (.cmp .ne (.call 17 (.cons (.var 1) .nil)) (.cmp .eq (.var 2) (.tup (.nil))))) (.cons (.ret (.con (.bl false))) .nil) (.nil)) (.cons (.asg (.name 3) (.blt .tuple (.cons (.blt .sorted (.cons (.comp [10] (.name 10) (.seq (.var 1)) (.con (.bl true)) (.step (.var 10) (.con .non) (.con .non))) .nil)) .nil))) (.cons (.asg (.name 4) (.blt .tuple (.cons (.blt .sorted (.cons (.comp [10] (.name 10) (.seq (.var 1)) (.con (.bl true)) (.meth .join (.con (.str [])) (.cons (.comp [11] (.name 11) (.seq (.var 10)) (.con (.bl true)) (.ite (.cmp .eq (.var 11) (.con (.str [35]))) (.con (.str [46])) (.con (.str [35])))) .nil))) .nil)) .nil))) (.cons (.ite (.not (.call 13 (.cons (.lst (.cons (.call 11 (.cons (.var 3) .nil)) (.cons (.call 11 (.cons (.var 4) .nil)) (.cons (.blt .len (.cons (.call 8 (.cons (.var 3) .nil)) .nil)) .nil)))) (.cons (.lst (.cons (.cmp .eq (.var 2) (.tup (.nil))) (.cons (.cmp .eq (.var 2) (.tup (.nil))) (.cons (.blt .len (.cons (.var 2) .nil)) .nil)))) .nil)))) (.cons (.ret (.con (.bl false))) .nil) (.nil)) (.cons (.asg (.name 5) (.blt .tuple (.cons (.comp [10] (.name 10) (.seq (.var 1)) (.cmp .eq (.call 14 (.cons (.var 0) (.cons (.con (.int 2)) .nil))) (.con (.int 0))) (.var 10)) .nil))) (.cons (.ite (.and (.cmp .ne (.var 5) (.tup (.nil))) (.and (.cmp .eq (.var 2) (.tup (.nil))) (.cmp .isNotB (.call 11 (.cons (.var 5) .nil)) (.con (.bl true))))) (.cons (.ret (.con (.bl false))) .nil) (.nil)) (.cons (.asg (.name 6) (.call 14 (.cons (.var 0) (.cons (.blt .len (.cons (.var 1) .nil)) .nil)))) (.cons (.asg (.name 7) (.comp [9] (.name 9) (.seq (.tup (.cons (.con .non) (.cons (.con (.str [])) (.cons (.bin .add (.sub (.var 1) (.var 6)) (.con (.str [35]))) (.cons (.slice (.sub (.var 1) (.var 6)) (.con (.int 1)) (.con .non)) (.cons (.bin .add (.con (.str [120])) (.slice (.sub (.var 1) (.var 6)) (.con (.int 1)) (.con .non))) (.cons (.bin .mul (.con (.str [32])) (.blt .len (.cons (.sub (.var 1) (.var 6)) .nil))) (.cons (.con (.int 0)) (.cons (.tup (.cons (.sub (.var 1) (.var 6)) .nil)) .nil)))))))))) (.con (.bl true)) (.bin .add (.bin .add (.slice (.var 1) (.con .non) (.var 6)) (.tup (.cons (.var 9) .nil))) (.slice (.var 1) (.bin .add (.var 6) (.con (.int 1))) (.con .non))))) (.cons (.for_ (.name 8) (.seq (.bin .add (.var 7) (.lst (.cons (.step (.var 1) (.con .non) (.con .non)) (.cons (.bin .add (.var 1) (.slice (.var 1) (.un .neg (.con (.int 1))) (.con .non))) (.cons (.blt .list (.cons (.var 1) .nil)) (.cons (.tup (.nil)) (.cons (.con .non) (.cons (.sub (.var 1) (.var 6)) (.cons (.bin .add (.var 1) (.tup (.cons (.con (.str [46])) .nil))) (.cons (.bin .add (.tup (.cons (.con (.str [35])) .nil)) (.var 1)) .nil))))))))))) (.cons (.ite (.not (.call 13 (.cons (.call 9 (.cons (.var 8) .nil)) (.cons (.call 21 (.cons (.var 8) .nil)) .nil)))) (.cons (.ret (.con (.bl false))) .nil) (.nil)) .nil)) (.cons (.ret (.con (.bl true))) .nil))))))))))
def d22 : PDef := ⟨"_law_right", topSt 31, ["cup", "code"], ["cup", "code", "crossings", "back", "other", "part", "at", "odds", "value", "odd", "word", "sign"], ⟨2, 12, b22⟩⟩
def b23 : Ss := .cons (.asg (.tup (.cons (.name 6) (.cons (.name 7) .nil))) (.tup (.cons (.tup (.cons (.con (.str [35, 35, 46])) (.cons (.con (.str [46, 35, 46])) .nil))) (.cons (.tup (.cons (.con (.str [35, 35, 46, 46])) (.cons (.con (.str [35, 46, 35, 46])) .nil))) .nil)))) (.cons (.asg (.name 1) (.lst (.cons (.call 9 (.cons (.var 6) .nil)) (.cons (.call 9 (.cons (.step (.var 6) (.con .non) (.con .non)) .nil)) (.cons (.call 11 (.cons (.var 6) .nil)) (.cons (.call 11 (.cons (.var 7) .nil)) (.cons (.call 8 (.cons (.tup (.cons (.con (.str [35, 35, 46])) (.cons (.con (.str [35, 46, 46])) .nil))) .nil)) (.cons (.call 8 (.cons (.var 7) .nil)) .nil)))))))) (.cons (.ite (.cmp .isNotB (.call 9 (.cons (.tup (.cons (.con (.str [35])) (.cons (.con (.str [35, 46])) .nil))) .nil)) (.con (.bl false))) (.cons (.ret (.con (.bl false))) .nil) (.nil)) (.cons (.ite (.not (.call 13 (.cons (.var 1) (.cons (.lst (.cons (.con (.bl true)) (.cons (.con (.bl false)) (.cons (.con (.bl true)) (.cons (.con (.bl false)) (.cons (.tup (.nil)) (.cons (.tup (.cons (.tup (.cons (.con (.str [35, 46, 35, 46])) (.cons (.con (.str [35, 46, 35, 46])) (.cons (.con (.int 2)) .nil)))) .nil)) .nil))))))) .nil)))) (.cons (.ret (.con (.bl false))) .nil) (.nil)) (.cons (.asg (.name 2) (.call 0 (.cons (.var 0) .nil))) (.cons (.for_ (.name 3) (.range1 (.con (.int 3))) (.cons (.asg (.name 8) (.call 16 (.cons (.var 2) (.cons (.call 15 (.cons (.var 2) (.cons (.lst (.cons (.con (.int 4)) (.cons (.con (.int 6)) (.cons (.con (.int 12)) .nil)))) .nil))) (.cons (.call 15 (.cons (.var 2) (.cons (.lst (.cons (.con (.int 3)) (.cons (.con (.int 6)) (.cons (.con (.int 9)) .nil)))) .nil))) .nil))))) (.cons (.asg (.name 9) (.call 18 (.cons (.var 2) (.cons (.call 16 (.cons (.var 2) (.cons (.con (.int 6)) (.cons (.con (.int 9)) .nil)))) .nil)))) (.cons (.ite (.or (.not (.call 22 (.cons (.var 2) (.cons (.var 8) .nil)))) (.and (.cmp .ne (.var 9) (.tup (.nil))) (.not (.call 22 (.cons (.var 2) (.cons (.var 9) .nil)))))) (.cons (.ret (.con (.bl false))) .nil) (.nil)) .nil)))) (.cons (.asg (.name 4) (.blt .tuple (.cons (.call 19 (.cons (.con (.int 5)) .nil)) .nil))) (.cons (.asg (.name 5) (.call 8 (.cons (.var 4) .nil))) (.cons (.ite (.or (.cmp .ne (.blt .len (.cons (.var 5) .nil)) (.con (.int 4096))) (.not (.call 13 (.cons (.lst (.cons (.sub (.var 5) (.con (.int 0))) (.cons (.sub (.var 5) (.con (.int 4))) (.cons (.sub (.var 5) (.un .neg (.con (.int 1)))) .nil)))) (.cons (.lst (.cons (.tup (.cons (.con (.str [35, 35, 35, 35, 35])) (.cons (.con (.str [35, 35, 35, 35, 35])) (.cons (.con (.int 1)) .nil)))) (.cons (.tup (.cons (.con (.str [35, 35, 35, 35, 35])) (.cons (.con (.str [35, 35, 35, 35, 46])) (.cons (.con (.int 1)) .nil)))) (.cons (.tup (.cons (.con (.str [46, 46, 46, 46, 46])) (.cons (.con (.str [46, 46, 46, 46, 46])) (.cons (.con (.int 4)) .nil)))) .nil)))) .nil))))) (.cons (.ret (.con (.bl false))) .nil) (.nil)) (.cons (.par [10, 11] (.cons (.blt .tuple (.cons (.call 19 (.cons (.con (.int 7)) .nil)) .nil)) (.cons (.blt .tuple (.cons (.call 19 (.cons (.con (.int 8)) .nil)) .nil)) .nil))) (.cons (.asg (.name 1) (.lst (.cons (.call 9 (.cons (.var 10) .nil)) (.cons (.call 9 (.cons (.slice (.var 11) (.con .non) (.con (.int 200))) .nil)) (.cons (.call 9 (.cons (.slice (.var 11) (.con .non) (.con (.int 201))) .nil)) (.cons (.call 11 (.cons (.var 10) .nil)) (.cons (.call 11 (.cons (.tup (.cons (.con (.str [35])) (.cons (.con (.str [46])) .nil))) .nil)) (.cons (.call 8 (.cons (.tup (.cons (.con (.str [35])) .nil)) .nil)) (.cons (.call 8 (.cons (.tup (.cons (.con (.str [35, 35])) .nil)) .nil)) .nil))))))))) (.cons (.ret (.and (.call 13 (.cons (.var 1) (.cons (.lst (.cons (.con (.bl true)) (.cons (.con (.bl true)) (.cons (.con (.bl false)) (.cons (.con (.bl false)) (.cons (.con (.bl true)) (.cons (.tup (.nil)) (.cons (.tup (.cons (.tup (.cons (.con (.str [35, 35])) (.cons (.con (.str [35, 35])) (.cons (.con (.int 1)) .nil)))) .nil)) .nil)))))))) .nil))) (.and (.cmp .isB (.call 9 (.cons (.tup (.cons (.bin .mul (.con (.str [35])) (.con (.int 12))) .nil)) .nil)) (.con (.bl true))) (.cmp .isB (.call 9 (.cons (.tup (.cons (.bin .mul (.con (.str [35])) (.con (.int 13))) .nil)) .nil)) (.con (.bl false)))))) .nil)))))))))))
def d23 : PDef := ⟨"law", topSt 32, ["script"], ["script", "told", "cup", "turn", "five", "every", "one", "two", "code", "shown", "seven", "eight"], ⟨1, 12, b23⟩⟩
def P : Prg := ⟨[d0, d1, d2, d3, d4, d5, d6, d7, d8, d9, d10, d11, d12, d13, d14, d15, d16, d17, d18, d19, d20, d21, d22, d23], [("WORDS", (.int 200)), ("LONGEST", (.int 12)), ("SIGNS", (.str [35, 46]))], ["abs", "all", "bool", "dict", "enumerate", "int", "isinstance", "len", "list", "range", "set", "sorted", "str", "tuple", "zip"]⟩
theorem binds : AllB P.defs := ⟨fun _ _ _ _ _ _ us hl => match us, hl with | [_], _ => rfl, fun _ _ _ _ _ _ us hl => match us, hl with | [_], _ => rfl, fun _ _ _ _ _ _ us hl => match us, hl with | [_, _, _], _ => rfl, fun _ _ _ _ _ _ us hl => match us, hl with | [_, _, _, _], _ => rfl, fun _ _ _ _ _ _ us hl => match us, hl with | [_], _ => rfl, fun _ _ _ _ _ _ us hl => match us, hl with | [_], _ => rfl, fun _ _ _ _ _ _ us hl => match us, hl with | [_, _], _ => rfl, fun _ _ _ _ _ _ us hl => match us, hl with | [_], _ => rfl, fun _ _ _ _ _ _ us hl => match us, hl with | [_], _ => rfl, fun _ _ _ _ _ _ us hl => match us, hl with | [_], _ => rfl, fun _ _ _ _ _ _ us hl => match us, hl with | [_], _ => rfl, fun _ _ _ _ _ _ us hl => match us, hl with | [_], _ => rfl, fun _ _ _ _ _ _ us hl => match us, hl with | [_], _ => rfl, fun _ _ _ _ _ _ us hl => match us, hl with | [_, _], _ => rfl, fun _ _ _ _ _ _ us hl => match us, hl with | [_, _], _ => rfl, fun _ _ _ _ _ _ us hl => match us, hl with | [_, _], _ => rfl, fun _ _ _ _ _ _ us hl => match us, hl with | [_, _, _], _ => rfl, fun _ _ _ _ _ _ us hl => match us, hl with | [_], _ => rfl, fun _ _ _ _ _ _ us hl => match us, hl with | [_, _], _ => rfl, fun _ _ _ _ _ _ us hl => match us, hl with | [_], _ => rfl, fun _ _ _ _ _ _ us hl => match us, hl with | [_], _ => rfl, fun _ _ _ _ _ _ us hl => match us, hl with | [_], _ => rfl, fun _ _ _ _ _ _ us hl => match us, hl with | [_, _], _ => rfl, fun _ _ _ _ _ _ us hl => match us, hl with | [_], _ => rfl, trivial⟩
-- law index 23 at 32; depth of calls

end K18

set_option maxRecDepth 100000
/-! M00: signs in texts, texts in order. -/
namespace PyI
/-! ### one sign in a text -/
theorem count_signs (x : List Nat) (h : ∀ c ∈ x, c = 35 ∨ c = 46) : PySem.Txt.count (mkS x) (mkS [35]) + PySem.Txt.count (mkS x) (mkS [46]) = (x.length : Int) := by
  have e : ∀ c, PySem.Txt.count (mkS x) (mkS [c]) = PyProof.Rows.cnt c x := fun c => PyProof.Rows.count_is (mkS x) c
  rw [e, e]
  induction x with
  | nil => rfl
  | cons a r ih =>
    have ih := ih (fun c hc => h c (List.mem_cons_of_mem _ hc)) fun c => PyProof.Rows.count_is (mkS r) c
    rw [PyProof.Rows.cnt_cons, PyProof.Rows.cnt_cons, List.length_cons]
    rcases h a List.mem_cons_self with rfl | rfl
    · rw [if_pos rfl, if_neg (by decide)]; omega
    · rw [if_neg (by decide), if_pos rfl]; omega
theorem count_less (x : List Nat) : PySem.Txt.count (mkS x) (mkS [35]) + PySem.Txt.count (mkS x) (mkS [46]) = (x.length : Int) ↔ ∀ c ∈ x, c = 35 ∨ c = 46 := by
  refine ⟨fun h => ?_, count_signs x⟩
  have e : ∀ c, PySem.Txt.count (mkS x) (mkS [c]) = PyProof.Rows.cnt c x := fun c => PyProof.Rows.count_is (mkS x) c
  rw [e, e] at h
  have le : ∀ x : List Nat, PyProof.Rows.cnt 35 x + PyProof.Rows.cnt 46 x ≤ (x.length : Int) := by
    intro x
    induction x with
    | nil => exact Int.le_refl _
    | cons a r ih =>
      rw [PyProof.Rows.cnt_cons, PyProof.Rows.cnt_cons, List.length_cons]
      by_cases h1 : a = 35
      · rw [if_pos h1, if_neg (by omega)]; omega
      · rw [if_neg h1]; split <;> omega
  clear e
  induction x with
  | nil => intro c hc; cases hc
  | cons a r ih =>
    rw [PyProof.Rows.cnt_cons, PyProof.Rows.cnt_cons, List.length_cons] at h
    have := le r
    intro c hc
    cases hc with
    | head =>
      by_cases h1 : a = 35
      · exact .inl h1
      · by_cases h2 : a = 46
        · exact .inr h2
        · rw [if_neg h1, if_neg h2] at h; omega
    | tail _ hc =>
      refine ih ?_ c hc
      by_cases h1 : a = 35
      · rw [if_pos h1, if_neg (by omega)] at h; omega
      · rw [if_neg h1] at h; split at h <;> omega
theorem find_sign (x : List Nat) (c : Nat) : (0 : Int) ≤ PySem.Txt.find (mkS x) (mkS [c]) ↔ c ∈ x := by
  have at_iff : ∀ i, PySem.StrLaws.At (mkS x) (mkS [c]) (mkS x).length i ↔ x[i]? = some c := by
    intro i
    show (i + 1 ≤ x.toArray.size ∧ (x.toArray.extract i (i + 1) == #[c]) = true) ↔ _
    rw [List.size_toArray]
    constructor
    · rintro ⟨h1, h2⟩
      have h2 := beq_iff_eq.mp h2
      have := congrArg (fun a => a[0]?) h2
      simp only [Array.getElem?_extract] at this
      have hi : i < x.length := by omega
      simp [hi] at this
      rw [List.getElem?_eq_getElem hi, this.2]
    · intro h
      have hi := (List.getElem?_eq_some_iff.mp h).1
      refine ⟨by omega, beq_iff_eq.mpr ?_⟩
      apply Array.ext_getElem?
      intro j
      rw [Array.getElem?_extract]
      by_cases hj : j = 0
      · subst hj
        have hi : i < x.length := by omega
        simp [hi]
        exact ⟨by omega, (List.getElem?_eq_some_iff.mp h).2⟩
      · simp [show ¬ j < 1 by omega, hj]
        intro h1
        omega
  rcases PyProof.Rows.find_whole (mkS x) (mkS [c]) with ⟨h1, h2⟩ | ⟨i, h1, h2, _⟩
  · rw [h1]
    constructor
    · intro h; omega
    · intro h
      obtain ⟨i, hi⟩ := List.mem_iff_getElem?.mp h
      exact absurd ((at_iff i).mpr hi) (h2 i)
  · rw [h1]
    constructor
    · intro _
      exact List.mem_iff_getElem?.mpr ⟨i, (at_iff i).mp h2⟩
    · intro _; omega
/-! ### texts in order -/
theorem strLt_total : ∀ {x y : List Nat}, strLt x y = false → x ≠ y → strLt y x = true
  | [], [], _, h => absurd rfl h
  | [], _ :: _, h, _ => by cases h
  | _ :: _, [], _, _ => rfl
  | a :: x, b :: y, h, hn => by
    unfold strLt at h ⊢
    by_cases h1 : a < b
    · rw [if_pos h1] at h; cases h
    · rw [if_neg h1] at h
      by_cases h2 : b < a
      · rw [if_pos h2]
      · rw [if_neg h2] at h
        rw [if_neg h2, if_neg h1]
        have e : a = b := by omega
        exact strLt_total h fun z => hn (by rw [e, z])
/-- each text stands behind the one ahead of it -/
def rising : List (List Nat) → Bool
  | x :: y :: r => strLt x y && rising (y :: r)
  | _ => true
theorem rising_cons {x : List Nat} {l : List (List Nat)} : rising (x :: l) = true ↔ (∀ y, l.head? = some y → strLt x y = true) ∧ rising l = true := by
  cases l with
  | nil => simp [rising]
  | cons y r => simp [rising]
theorem ins_head {x : List Nat} {l : List (List Nat)} {y : List Nat} (h : (insS x l).head? = some y) : y = x ∨ l.head? = some y := by
  cases l with
  | nil => simp [insS] at h; exact .inl h.symm
  | cons z r =>
    unfold insS at h
    split at h
    · exact .inr h
    · simp at h; exact .inl h.symm
theorem ins_mem {x z : List Nat} : ∀ {l : List (List Nat)}, z ∈ insS x l ↔ z = x ∨ z ∈ l
  | [] => by simp [insS]
  | y :: r => by
    unfold insS
    split
    · rw [List.mem_cons, ins_mem, List.mem_cons]
      constructor
      · rintro (h | h | h)
        · exact .inr (.inl h)
        · exact .inl h
        · exact .inr (.inr h)
      · rintro (h | h | h)
        · exact .inr (.inl h)
        · exact .inl h
        · exact .inr (.inr h)
    · rw [List.mem_cons]
theorem ins_len {x : List Nat} : ∀ {l : List (List Nat)}, (insS x l).length = l.length + 1
  | [] => rfl
  | y :: r => by
    unfold insS
    split
    · rw [List.length_cons, ins_len]; rfl
    · rfl
theorem ins_rising {x : List Nat} : ∀ {l : List (List Nat)}, rising l = true → x ∉ l → rising (insS x l) = true
  | [], _, _ => rfl
  | y :: r, h, hx => by
    unfold insS
    split
    · rename_i hy
      rw [rising_cons] at h ⊢
      refine ⟨fun z hz => ?_, ins_rising h.2 fun q => hx (List.mem_cons_of_mem _ q)⟩
      rcases ins_head hz with rfl | hz
      · exact hy
      · exact h.1 z hz
    · rename_i hy
      rw [rising_cons]
      refine ⟨fun z hz => ?_, h⟩
      cases hz
      exact strLt_total (by simpa using hy) fun e => hx (by rw [e]; exact List.mem_cons_self)
theorem sort_mem {z : List Nat} : ∀ {l : List (List Nat)}, z ∈ sortS l ↔ z ∈ l
  | [] => Iff.rfl
  | x :: r => by
    show z ∈ insS x (sortS r) ↔ _
    rw [ins_mem, sort_mem, List.mem_cons]
theorem sort_len : ∀ {l : List (List Nat)}, (sortS l).length = l.length
  | [] => rfl
  | x :: r => by
    show (insS x (sortS r)).length = _
    rw [ins_len, sort_len]
    rfl
theorem sort_rising : ∀ {l : List (List Nat)}, l.Nodup → rising (sortS l) = true
  | [], _ => rfl
  | x :: r, h => by
    rw [List.nodup_cons] at h
    exact ins_rising (sort_rising h.2) fun q => h.1 (sort_mem.mp q)
end PyI
namespace M3
open PyI
/-! ### texts in order -/
theorem strLt_eq : ∀ x y : List Nat, strLt x y = decide (x < y)
  | [], [] => by simp [strLt]
  | [], y :: ys => by simp [strLt]
  | x :: xs, [] => by simp [strLt]
  | x :: xs, y :: ys => by
    unfold strLt
    rw [strLt_eq xs ys]
    by_cases h : x < y
    · simp [h, List.cons_lt_cons_iff]
    · by_cases h2 : y < x
      · have : x ≠ y := by omega
        simp [h, h2, List.cons_lt_cons_iff, this]
      · have : x = y := by omega
        subst this
        simp [List.cons_lt_cons_iff]
theorem lt_iff {x y : List Nat} : strLt x y = true ↔ x < y := by rw [strLt_eq, decide_eq_true_eq]
theorem lt_irr {x : List Nat} (h : x < x) : False := List.lt_irrefl x h
theorem lt_asy {x y : List Nat} (h : x < y) (h2 : y < x) : False := lt_irr (List.lt_trans h h2)
theorem lt_tot {x y : List Nat} (h : ¬ x < y) (h2 : ¬ y < x) : x = y := List.le_antisymm (List.not_lt.mp h2) (List.not_lt.mp h)
theorem lt_at : ∀ (j : Nat) {x y : List Nat} {a b : Nat}, (∀ i, i < j → x[i]? = y[i]?) → x[j]? = some a → y[j]? = some b → a < b → x < y
  | 0, x :: xs, y :: ys, a, b, _, h1, h2, h3 => by
    cases h1
    cases h2
    exact List.cons_lt_cons_iff.mpr (.inl h3)
  | j + 1, x :: xs, y :: ys, a, b, h, h1, h2, h3 => by
    have e : x = y := by simpa using h 0 (by omega)
    subst e
    exact List.cons_lt_cons_iff.mpr (.inr ⟨rfl, lt_at j (fun i hi => by simpa using h (i + 1) (by omega)) (by simpa using h1) (by simpa using h2) h3⟩)
  | 0, [], _, _, _, _, h1, _, _ => by cases h1
  | _ + 1, [], _, _, _, _, h1, _, _ => by cases h1
  | 0, _ :: _, [], _, _, _, _, h2, _ => by cases h2
  | _ + 1, _ :: _, [], _, _, _, _, h2, _ => by cases h2
theorem ins_mem {x z : List Nat} : ∀ {l : List (List Nat)}, z ∈ insS x l ↔ z = x ∨ z ∈ l
  | [] => by simp [insS]
  | y :: l => by
    unfold insS
    split
    · rw [List.mem_cons, ins_mem, List.mem_cons]
      constructor
      · rintro (h | h | h)
        · exact .inr (.inl h)
        · exact .inl h
        · exact .inr (.inr h)
      · rintro (h | h | h)
        · exact .inr (.inl h)
        · exact .inl h
        · exact .inr (.inr h)
    · rw [List.mem_cons]
theorem sort_mem {z : List Nat} : ∀ {l : List (List Nat)}, z ∈ sortS l ↔ z ∈ l
  | [] => Iff.rfl
  | x :: r => by
    show z ∈ insS x (sortS r) ↔ _
    rw [ins_mem, sort_mem, List.mem_cons]
theorem ins_len {x : List Nat} : ∀ {l : List (List Nat)}, (insS x l).length = l.length + 1
  | [] => rfl
  | y :: l => by
    unfold insS
    split
    · rw [List.length_cons, ins_len, List.length_cons]
    · rfl
theorem sort_len : ∀ {l : List (List Nat)}, (sortS l).length = l.length
  | [] => rfl
  | x :: r => by
    show (insS x (sortS r)).length = _
    rw [ins_len, sort_len, List.length_cons]
abbrev Le (x y : List Nat) : Prop := ¬ y < x
theorem Le.trans {x y z : List Nat} (h : Le x y) (h2 : Le y z) : Le x z := List.not_lt.mpr (List.le_trans (List.not_lt.mp h) (List.not_lt.mp h2))
theorem ins_le {x : List Nat} : ∀ {l : List (List Nat)}, l.Pairwise Le → (insS x l).Pairwise Le
  | [], _ => by simp [insS]
  | y :: l, h => by
    obtain ⟨h1, h2⟩ := List.pairwise_cons.mp h
    unfold insS
    split
    · rename_i hyx
      refine List.pairwise_cons.mpr ⟨fun z hz => ?_, ins_le h2⟩
      rcases ins_mem.mp hz with e | hz
      · rw [e]
        exact fun q => lt_asy (lt_iff.mp hyx) q
      · exact h1 z hz
    · rename_i hyx
      have hxy : Le x y := fun q => hyx (lt_iff.mpr q)
      refine List.pairwise_cons.mpr ⟨fun z hz => ?_, h⟩
      rcases List.mem_cons.mp hz with e | hz
      · rw [e]
        exact hxy
      · exact hxy.trans (h1 z hz)
theorem sort_le : ∀ (l : List (List Nat)), (sortS l).Pairwise Le
  | [] => .nil
  | x :: r => ins_le (sort_le r)
theorem ded_mem : ∀ (l : List (List Nat)) (k : List Nat), k ∈ dedS l ↔ k ∈ l
  | [], k => Iff.rfl
  | x :: r, k => by
    have ih := ded_mem r k
    unfold dedS
    cases e : dedS r with
    | nil =>
      rw [e] at ih
      show k ∈ [x] ↔ _
      rw [List.mem_cons, List.mem_cons, ih]
    | cons y t =>
      rw [e] at ih
      show k ∈ (if x = y then y :: t else x :: y :: t) ↔ _
      by_cases h : x = y
      · rw [if_pos h, ih, List.mem_cons]
        refine ⟨.inr, fun z => z.elim (fun z => ?_) _root_.id⟩
        rw [← ih, z, h]
        exact List.mem_cons_self
      · rw [if_neg h, List.mem_cons, ih, List.mem_cons]
theorem ded_lt : ∀ {l : List (List Nat)}, l.Pairwise Le → (dedS l).Pairwise (· < ·)
  | [], _ => .nil
  | x :: r, h => by
    obtain ⟨h1, h2⟩ := List.pairwise_cons.mp h
    have ih := ded_lt h2
    unfold dedS
    cases e : dedS r with
    | nil => simp
    | cons y t =>
      rw [e] at ih
      by_cases hx : x = y
      · simp only [hx, if_true]; exact ih
      · simp only [hx, if_false]
        have hy : y ∈ r := (ded_mem r y).mp (by rw [e]; exact List.mem_cons_self)
        have hxy : x < y := Decidable.byContradiction fun q => hx (lt_tot q (h1 y hy))
        refine List.pairwise_cons.mpr ⟨fun z hz => ?_, ih⟩
        rcases List.mem_cons.mp hz with q | q
        · rw [q]; exact hxy
        · exact List.lt_trans hxy ((List.pairwise_cons.mp ih).1 z q)
theorem lt_one : ∀ {x y : List (List Nat)}, x.Pairwise (· < ·) → y.Pairwise (· < ·) → (∀ k, k ∈ x ↔ k ∈ y) → x = y
  | [], [], _, _, _ => rfl
  | [], b :: y, _, _, h => by have := (h b).mpr List.mem_cons_self; simp at this
  | a :: x, [], _, _, h => by have := (h a).mp List.mem_cons_self; simp at this
  | a :: x, b :: y, hx, hy, h => by
    obtain ⟨x1, x2⟩ := List.pairwise_cons.mp hx
    obtain ⟨y1, y2⟩ := List.pairwise_cons.mp hy
    have e : a = b := by
      rcases List.mem_cons.mp ((h a).mp List.mem_cons_self) with e | e
      · exact e
      · rcases List.mem_cons.mp ((h b).mpr List.mem_cons_self) with e2 | e2
        · exact e2.symm
        · exact (lt_asy (x1 b e2) (y1 a e)).elim
    subst e
    rw [lt_one x2 y2 fun k => ?_]
    constructor
    · intro hk
      rcases List.mem_cons.mp ((h k).mp (List.mem_cons_of_mem _ hk)) with q | q
      · exact (lt_irr (q ▸ x1 k hk)).elim
      · exact q
    · intro hk
      rcases List.mem_cons.mp ((h k).mpr (List.mem_cons_of_mem _ hk)) with q | q
      · exact (lt_irr (q ▸ y1 k hk)).elim
      · exact q
/-- the set of texts, in order -/
def ordS (l : List (List Nat)) : List (List Nat) := dedS (sortS l)
theorem ord_mem (l : List (List Nat)) (k : List Nat) : k ∈ ordS l ↔ k ∈ l := (ded_mem _ _).trans sort_mem
theorem ord_lt (l : List (List Nat)) : (ordS l).Pairwise (· < ·) := ded_lt (sort_le l)
theorem ord_one {l m : List (List Nat)} (h : ∀ k, k ∈ l ↔ k ∈ m) : ordS l = ordS m := lt_one (ord_lt l) (ord_lt m) fun k => by rw [ord_mem, ord_mem, h]

theorem rising_pw : ∀ {l : List (List Nat)}, rising l = true ↔ l.Pairwise (· < ·)
  | [] => by simp [rising]
  | [x] => by simp [rising]
  | x :: y :: r => by
    have ih := rising_pw (l := y :: r)
    show (strLt x y && rising (y :: r)) = true ↔ _
    rw [Bool.and_eq_true, ih, lt_iff, List.pairwise_cons (a := x)]
    constructor
    · rintro ⟨h1, h2⟩
      refine ⟨fun z hz => ?_, h2⟩
      rcases List.mem_cons.mp hz with e | e
      · rw [e]; exact h1
      · exact List.lt_trans h1 ((List.pairwise_cons.mp h2).1 z e)
    · rintro ⟨h1, h2⟩
      exact ⟨h1 y List.mem_cons_self, h2⟩
theorem ord_rising (l : List (List Nat)) : (l == dedS (sortS l)) = rising l := by
  rw [Bool.eq_iff_iff, beq_iff_eq, rising_pw]
  constructor
  · intro e
    have := ord_lt l
    unfold ordS at this
    rw [e]
    exact this
  · intro h
    exact lt_one h (ord_lt l) fun k => (ord_mem l k).symm
end M3

set_option maxRecDepth 100000
set_option maxHeartbeats 4000000
/-! L18: the plain law, what other laws' texts gave (renumbered). -/
namespace K18
open PyI
def c1_0 : E := .comp [1, 2] (.tup (.cons (.name 1) (.cons (.name 2) .nil))) (.zip (.var 0) (.slice (.var 0) (.con (.int 1)) (.con .non))) (.con (.bl true)) (.cmp .lt (.var 1) (.var 2))
theorem b1_eq : b1 = .cons (.ret (.blt .all (.cons c1_0 .nil))) .nil := rfl
def c3_0 : E := .comp [4] (.name 4) (.seq (.var 0)) (.con (.bl true)) (.cmp .in_ (.var 4) (.var 1))
theorem b3_eq : b3 = .cons (.ret (.and (.isin (.var 0) .str) (.and (.chain .le .le (.var 2) (.blt .len (.cons (.var 0) .nil)) (.var 3)) (.blt .all (.cons c3_0 .nil))))) .nil := rfl
def c4_0 : E := .comp [1] (.name 1) (.seq (.var 0)) (.con (.bl true)) (.call 3 (.cons (.var 1) (.cons (.con (.str [35, 46])) (.cons (.con (.int 1)) (.cons (.con (.int 12)) .nil)))))
def c4_1 : E := .comp [1] (.name 1) (.seq (.var 0)) (.con (.bl true)) (.cmp .eq (.blt .len (.cons (.var 1) .nil)) (.blt .len (.cons (.sub (.var 0) (.con (.int 0))) .nil)))
theorem b4_eq : b4 = .cons (.ite (.or (.not (.call 2 (.cons (.var 0) (.cons (.con (.int 1)) (.cons (.con (.int 200)) .nil))))) (.not (.blt .all (.cons c4_0 .nil)))) (.cons (.ret (.con (.bl false))) .nil) .nil) (.cons (.ret (.and (.blt .all (.cons c4_1 .nil)) (.call 1 (.cons (.var 0) .nil)))) .nil) := rfl
def c6_0 : E := .comp [4] (.name 4) (.range2 (.con (.int 1)) (.var 3)) (.con (.bl true)) (.slice (.var 2) (.var 4) (.bin .add (.var 4) (.var 3)))
theorem b6_eq : b6 = .cons (.asg (.tup (.cons (.name 2) (.cons (.name 3) .nil))) (.tup (.cons (.bin .add (.var 0) (.var 1)) (.cons (.blt .len (.cons (.var 0) .nil)) .nil)))) (.cons (.ret c6_0) .nil) := rfl
def c7_0 : E := .comp [5] (.name 5) (.seq (.var 0)) (.con (.bl true)) (.tup (.cons (.var 5) (.cons (.con (.bl true)) .nil)))
def c7_1 : E := .comp [6, 5] (.tup (.cons (.name 6) (.cons (.name 5) .nil))) (.enum2 (.call 6 (.cons (.var 1) (.cons (.var 4) .nil))) (.con (.int 1))) (.cmp .in_ (.var 5) (.var 2)) (.tup (.cons (.var 1) (.cons (.var 4) (.cons (.var 6) .nil))))
def y7_0 : Ss := .cons (.asg (.name 3) (.bin .add (.var 3) c7_1)) .nil
def s7_0 : S := .for_ (.name 4) (.seq (.var 0)) y7_0
def y7_1 : Ss := .cons s7_0 .nil
def s7_1 : S := .for_ (.name 1) (.seq (.var 0)) y7_1
theorem b7_eq : b7 = .cons (.asg (.tup (.cons (.name 2) (.cons (.name 3) .nil))) (.tup (.cons (.dict c7_0) (.cons (.lst .nil) .nil)))) (.cons s7_1 (.cons (.ret (.var 3)) .nil)) := rfl
def c10_0 : E := .comp [4] (.name 4) (.seq (.var 0)) (.con (.bl true)) (.tup (.cons (.var 4) (.cons (.con (.bl true)) .nil)))
def y10_0 : Ss := .cons (.ite (.cmp .in_ (.var 4) (.var 1)) (.cons (.ret (.tup (.cons (.var 2) (.cons (.var 3) (.cons (.var 5) .nil))))) .nil) .nil) .nil
def s10_0 : S := .for_ (.tup (.cons (.name 5) (.cons (.name 4) .nil))) (.enum2 (.call 6 (.cons (.var 2) (.cons (.var 3) .nil))) (.con (.int 1))) y10_0
def y10_1 : Ss := .cons s10_0 .nil
def s10_1 : S := .for_ (.name 3) (.seq (.var 0)) y10_1
def y10_2 : Ss := .cons s10_1 .nil
def s10_2 : S := .for_ (.name 2) (.seq (.var 0)) y10_2
theorem b10_eq : b10 = .cons (.asg (.name 1) (.dict c10_0)) (.cons s10_2 (.cons (.ret (.con .non)) .nil)) := rfl
def c13_0 : E := .comp [3, 4] (.tup (.cons (.name 3) (.cons (.name 4) .nil))) (.zip (.var 0) (.var 1)) (.not (.call 13 (.cons (.var 3) (.cons (.var 4) .nil)))) (.con (.int 1))
theorem b13_eq : b13 = .cons (.asg (.name 2) (.call 12 (.cons (.var 1) .nil))) (.cons (.ite (.or (.cmp .ne (.call 12 (.cons (.var 0) .nil)) (.var 2)) (.cmp .eq (.var 2) (.con (.int 6)))) (.cons (.ret (.con (.bl false))) .nil) .nil) (.cons (.ite (.cmp .in_ (.var 2) (.tup (.cons (.con (.int 4)) (.cons (.con (.int 5)) .nil)))) (.cons (.ret (.and (.cmp .eq (.blt .len (.cons (.var 0) .nil)) (.blt .len (.cons (.var 1) .nil))) (.cmp .eq c13_0 (.lst .nil)))) .nil) .nil) (.cons (.ret (.cmp .eq (.var 0) (.var 1))) .nil))) := rfl
def c16_0 : E := .comp [6] (.name 6) (.range1 (.var 4)) (.con (.bl true)) (.call 15 (.cons (.var 0) (.cons (.lst (.cons (.con (.str [35])) (.cons (.con (.str [46])) .nil))) .nil)))
def y16_0 : Ss := .cons (.app 5 (.meth .join (.con (.str [])) (.cons c16_0 .nil))) .nil
def s16_0 : S := .for_ (.name 3) (.range1 (.bin .add (.con (.int 1)) (.call 14 (.cons (.var 0) (.cons (.var 2) .nil))))) y16_0
theorem b16_eq : b16 = .cons (.parO [4, 5] 1 (.cons (.bin .add (.con (.int 1)) (.call 14 (.cons (.var 0) (.cons (.var 1) .nil)))) (.cons (.lst .nil) .nil))) (.cons s16_0 (.cons (.free 5) (.cons (.ret (.blt .tuple (.cons (.sset (.var 5)) .nil))) .nil))) := rfl
def y17_0 : Ss := .cons (.setL 2 (.slice (.var 1) (.var 4) (.con .non)) (.con (.bl true))) (.cons (.setL 3 (.slice (.var 1) (.con .non) (.var 4)) (.con (.bl true))) .nil)
def s17_0 : S := .for_ (.name 4) (.range2 (.con (.int 1)) (.blt .len (.cons (.var 1) .nil))) y17_0
def y17_1 : Ss := .cons s17_0 .nil
def s17_1 : S := .for_ (.name 1) (.seq (.var 0)) y17_1
def c17_0 : E := .comp [4] (.name 4) (.range2 (.con (.int 1)) (.blt .len (.cons (.var 1) .nil))) (.and (.cmp .in_ (.slice (.var 1) (.con .non) (.var 4)) (.var 2)) (.cmp .in_ (.slice (.var 1) (.var 4) (.con .non)) (.var 3))) (.var 4)
def c17_1 : E := .comp [1] (.name 1) (.seq (.var 0)) (.cmp .ne c17_0 (.lst .nil)) (.var 1)
theorem b17_eq : b17 = .cons (.ownDD 2 3) (.cons s17_1 (.cons (.free 2) (.cons (.free 3) (.cons (.ret (.cmp .eq c17_1 (.lst .nil))) .nil)))) := rfl
def y18_0 : Ss := .cons (.popL 4 2 (.lend [2] (.call 14 (.cons (.var 0) (.cons (.blt .len (.cons (.var 2) .nil)) .nil))))) (.cons (.ite (.call 17 (.cons (.bin .add (.var 3) (.tup (.cons (.var 4) .nil))) .nil)) (.cons (.asg (.name 3) (.bin .add (.var 3) (.tup (.cons (.var 4) .nil)))) .nil) .nil) .nil)
def s18_0 : S := .while_ (.lend [2] (.cmp .ne (.var 2) (.lst .nil))) y18_0
theorem b18_eq : b18 = .cons (.parO [2, 3] 0 (.cons (.blt .list (.cons (.var 1) .nil)) (.cons (.tup .nil) .nil))) (.cons s18_0 (.cons (.free 2) (.cons (.ret (.blt .tuple (.cons (.blt .sorted (.cons (.var 3) .nil)) .nil))) .nil))) := rfl
def y19_0 : Ss := .cons (.asg (.name 3) (.bin .add (.var 3) (.lst (.cons (.bin .add (.var 4) (.con (.str [35]))) (.cons (.bin .add (.var 4) (.con (.str [46]))) .nil))))) .nil
def s19_0 : S := .for_ (.name 4) (.seq (.var 1)) y19_0
def y19_1 : Ss := .cons (.asg (.name 3) (.lst .nil)) (.cons s19_0 (.cons (.asg (.name 1) (.var 3)) .nil))
def s19_1 : S := .for_ (.name 2) (.range1 (.var 0)) y19_1
theorem b19_eq : b19 = .cons (.asg (.name 1) (.lst (.cons (.con (.str [])) .nil))) (.cons s19_1 (.cons (.ret (.var 1)) .nil)) := rfl
def c20_0 : E := .comp [5] (.name 5) (.range2 (.con (.int 1)) (.blt .len (.cons (.var 2) .nil))) (.cmp .in_ (.slice (.var 4) (.var 5) (.bin .add (.var 5) (.blt .len (.cons (.var 2) .nil)))) (.var 0)) (.tup (.cons (.var 2) (.cons (.var 3) (.cons (.var 5) .nil))))
def y20_0 : Ss := .cons (.asg (.name 4) (.bin .add (.var 2) (.var 3))) (.cons (.asg (.name 1) (.bin .add (.var 1) c20_0)) .nil)
def s20_0 : S := .for_ (.name 3) (.seq (.var 0)) y20_0
def y20_1 : Ss := .cons s20_0 .nil
def s20_1 : S := .for_ (.name 2) (.seq (.var 0)) y20_1
theorem b20_eq : b20 = .cons (.asg (.name 1) (.lst .nil)) (.cons s20_1 (.cons (.ret (.blt .tuple (.cons (.var 1) .nil))) .nil)) := rfl
def c21_0 : E := .comp [1] (.name 1) (.seq (.var 0)) (.cmp .ne (.call 12 (.cons (.var 1) .nil)) (.con (.int 3))) (.var 1)
def c21_1 : E := .comp [2] (.name 2) (.seq (.var 1)) (.cmp .notIn (.var 2) (.con (.str [35, 46]))) (.var 2)
def c21_2 : E := .comp [1] (.name 1) (.seq (.var 0)) (.or (.not (.chain .le .le (.con (.int 1)) (.blt .len (.cons (.var 1) .nil)) (.con (.int 12)))) (.or (.cmp .ne (.blt .len (.cons (.var 1) .nil)) (.blt .len (.cons (.sub (.var 0) (.con (.int 0))) .nil))) (.cmp .ne c21_1 (.lst .nil)))) (.var 1)
theorem b21_eq : b21 = .cons (.ite (.or (.not (.isin (.var 0) .tuple)) (.or (.not (.chain .le .le (.con (.int 1)) (.blt .len (.cons (.var 0) .nil)) (.con (.int 200)))) (.cmp .ne c21_0 (.lst .nil)))) (.cons (.ret (.con (.bl false))) .nil) .nil) (.cons (.ite (.cmp .ne c21_2 (.lst .nil)) (.cons (.ret (.con (.bl false))) .nil) .nil) (.cons (.ret (.cmp .eq (.blt .list (.cons (.var 0) .nil)) (.sset (.var 0)))) .nil)) := rfl
def c22_0 : E := .comp [10] (.name 10) (.seq (.var 1)) (.con (.bl true)) (.step (.var 10) (.con .non) (.con .non))
def c22_1 : E := .comp [11] (.name 11) (.seq (.var 10)) (.con (.bl true)) (.ite (.cmp .eq (.var 11) (.con (.str [35]))) (.con (.str [46])) (.con (.str [35])))
def c22_2 : E := .comp [10] (.name 10) (.seq (.var 1)) (.con (.bl true)) (.meth .join (.con (.str [])) (.cons c22_1 .nil))
def c22_3 : E := .comp [10] (.name 10) (.seq (.var 1)) (.cmp .eq (.call 14 (.cons (.var 0) (.cons (.con (.int 2)) .nil))) (.con (.int 0))) (.var 10)
def c22_4 : E := .comp [9] (.name 9) (.seq (.tup (.cons (.con .non) (.cons (.con (.str [])) (.cons (.bin .add (.sub (.var 1) (.var 6)) (.con (.str [35]))) (.cons (.slice (.sub (.var 1) (.var 6)) (.con (.int 1)) (.con .non)) (.cons (.bin .add (.con (.str [120])) (.slice (.sub (.var 1) (.var 6)) (.con (.int 1)) (.con .non))) (.cons (.bin .mul (.con (.str [32])) (.blt .len (.cons (.sub (.var 1) (.var 6)) .nil))) (.cons (.con (.int 0)) (.cons (.tup (.cons (.sub (.var 1) (.var 6)) .nil)) .nil)))))))))) (.con (.bl true)) (.bin .add (.bin .add (.slice (.var 1) (.con .non) (.var 6)) (.tup (.cons (.var 9) .nil))) (.slice (.var 1) (.bin .add (.var 6) (.con (.int 1))) (.con .non)))
def y22_0 : Ss := .cons (.ite (.not (.call 13 (.cons (.call 9 (.cons (.var 8) .nil)) (.cons (.call 21 (.cons (.var 8) .nil)) .nil)))) (.cons (.ret (.con (.bl false))) .nil) .nil) .nil
def s22_0 : S := .for_ (.name 8) (.seq (.bin .add (.var 7) (.lst (.cons (.step (.var 1) (.con .non) (.con .non)) (.cons (.bin .add (.var 1) (.slice (.var 1) (.un .neg (.con (.int 1))) (.con .non))) (.cons (.blt .list (.cons (.var 1) .nil)) (.cons (.tup .nil) (.cons (.con .non) (.cons (.sub (.var 1) (.var 6)) (.cons (.bin .add (.var 1) (.tup (.cons (.con (.str [46])) .nil))) (.cons (.bin .add (.tup (.cons (.con (.str [35])) .nil)) (.var 1)) .nil))))))))))) y22_0
theorem b22_eq : b22 = .cons (.asg (.name 2) (.call 20 (.cons (.var 1) .nil))) (.cons (.ite (.or (.not (.call 13 (.cons (.lst (.cons (.call 9 (.cons (.var 1) .nil)) (.cons (.call 8 (.cons (.var 1) .nil)) (.cons (.call 11 (.cons (.var 1) .nil)) .nil)))) (.cons (.lst (.cons (.con (.bl true)) (.cons (.var 2) (.cons (.cmp .eq (.var 2) (.tup .nil)) .nil)))) .nil)))) (.cmp .ne (.call 17 (.cons (.var 1) .nil)) (.cmp .eq (.var 2) (.tup .nil)))) (.cons (.ret (.con (.bl false))) .nil) .nil) (.cons (.asg (.name 3) (.blt .tuple (.cons (.blt .sorted (.cons c22_0 .nil)) .nil))) (.cons (.asg (.name 4) (.blt .tuple (.cons (.blt .sorted (.cons c22_2 .nil)) .nil))) (.cons (.ite (.not (.call 13 (.cons (.lst (.cons (.call 11 (.cons (.var 3) .nil)) (.cons (.call 11 (.cons (.var 4) .nil)) (.cons (.blt .len (.cons (.call 8 (.cons (.var 3) .nil)) .nil)) .nil)))) (.cons (.lst (.cons (.cmp .eq (.var 2) (.tup .nil)) (.cons (.cmp .eq (.var 2) (.tup .nil)) (.cons (.blt .len (.cons (.var 2) .nil)) .nil)))) .nil)))) (.cons (.ret (.con (.bl false))) .nil) .nil) (.cons (.asg (.name 5) (.blt .tuple (.cons c22_3 .nil))) (.cons (.ite (.and (.cmp .ne (.var 5) (.tup .nil)) (.and (.cmp .eq (.var 2) (.tup .nil)) (.cmp .isNotB (.call 11 (.cons (.var 5) .nil)) (.con (.bl true))))) (.cons (.ret (.con (.bl false))) .nil) .nil) (.cons (.asg (.name 6) (.call 14 (.cons (.var 0) (.cons (.blt .len (.cons (.var 1) .nil)) .nil)))) (.cons (.asg (.name 7) c22_4) (.cons s22_0 (.cons (.ret (.con (.bl true))) .nil)))))))))) := rfl
def y23_0 : Ss := .cons (.asg (.name 8) (.call 16 (.cons (.var 2) (.cons (.call 15 (.cons (.var 2) (.cons (.lst (.cons (.con (.int 4)) (.cons (.con (.int 6)) (.cons (.con (.int 12)) .nil)))) .nil))) (.cons (.call 15 (.cons (.var 2) (.cons (.lst (.cons (.con (.int 3)) (.cons (.con (.int 6)) (.cons (.con (.int 9)) .nil)))) .nil))) .nil))))) (.cons (.asg (.name 9) (.call 18 (.cons (.var 2) (.cons (.call 16 (.cons (.var 2) (.cons (.con (.int 6)) (.cons (.con (.int 9)) .nil)))) .nil)))) (.cons (.ite (.or (.not (.call 22 (.cons (.var 2) (.cons (.var 8) .nil)))) (.and (.cmp .ne (.var 9) (.tup .nil)) (.not (.call 22 (.cons (.var 2) (.cons (.var 9) .nil)))))) (.cons (.ret (.con (.bl false))) .nil) .nil) .nil))
def s23_0 : S := .for_ (.name 3) (.range1 (.con (.int 3))) y23_0
theorem b23_eq : b23 = .cons (.asg (.tup (.cons (.name 6) (.cons (.name 7) .nil))) (.tup (.cons (.tup (.cons (.con (.str [35, 35, 46])) (.cons (.con (.str [46, 35, 46])) .nil))) (.cons (.tup (.cons (.con (.str [35, 35, 46, 46])) (.cons (.con (.str [35, 46, 35, 46])) .nil))) .nil)))) (.cons (.asg (.name 1) (.lst (.cons (.call 9 (.cons (.var 6) .nil)) (.cons (.call 9 (.cons (.step (.var 6) (.con .non) (.con .non)) .nil)) (.cons (.call 11 (.cons (.var 6) .nil)) (.cons (.call 11 (.cons (.var 7) .nil)) (.cons (.call 8 (.cons (.tup (.cons (.con (.str [35, 35, 46])) (.cons (.con (.str [35, 46, 46])) .nil))) .nil)) (.cons (.call 8 (.cons (.var 7) .nil)) .nil)))))))) (.cons (.ite (.cmp .isNotB (.call 9 (.cons (.tup (.cons (.con (.str [35])) (.cons (.con (.str [35, 46])) .nil))) .nil)) (.con (.bl false))) (.cons (.ret (.con (.bl false))) .nil) .nil) (.cons (.ite (.not (.call 13 (.cons (.var 1) (.cons (.lst (.cons (.con (.bl true)) (.cons (.con (.bl false)) (.cons (.con (.bl true)) (.cons (.con (.bl false)) (.cons (.tup .nil) (.cons (.tup (.cons (.tup (.cons (.con (.str [35, 46, 35, 46])) (.cons (.con (.str [35, 46, 35, 46])) (.cons (.con (.int 2)) .nil)))) .nil)) .nil))))))) .nil)))) (.cons (.ret (.con (.bl false))) .nil) .nil) (.cons (.asg (.name 2) (.call 0 (.cons (.var 0) .nil))) (.cons s23_0 (.cons (.asg (.name 4) (.blt .tuple (.cons (.call 19 (.cons (.con (.int 5)) .nil)) .nil))) (.cons (.asg (.name 5) (.call 8 (.cons (.var 4) .nil))) (.cons (.ite (.or (.cmp .ne (.blt .len (.cons (.var 5) .nil)) (.con (.int 4096))) (.not (.call 13 (.cons (.lst (.cons (.sub (.var 5) (.con (.int 0))) (.cons (.sub (.var 5) (.con (.int 4))) (.cons (.sub (.var 5) (.un .neg (.con (.int 1)))) .nil)))) (.cons (.lst (.cons (.tup (.cons (.con (.str [35, 35, 35, 35, 35])) (.cons (.con (.str [35, 35, 35, 35, 35])) (.cons (.con (.int 1)) .nil)))) (.cons (.tup (.cons (.con (.str [35, 35, 35, 35, 35])) (.cons (.con (.str [35, 35, 35, 35, 46])) (.cons (.con (.int 1)) .nil)))) (.cons (.tup (.cons (.con (.str [46, 46, 46, 46, 46])) (.cons (.con (.str [46, 46, 46, 46, 46])) (.cons (.con (.int 4)) .nil)))) .nil)))) .nil))))) (.cons (.ret (.con (.bl false))) .nil) .nil) (.cons (.par [10, 11] (.cons (.blt .tuple (.cons (.call 19 (.cons (.con (.int 7)) .nil)) .nil)) (.cons (.blt .tuple (.cons (.call 19 (.cons (.con (.int 8)) .nil)) .nil)) .nil))) (.cons (.asg (.name 1) (.lst (.cons (.call 9 (.cons (.var 10) .nil)) (.cons (.call 9 (.cons (.slice (.var 11) (.con .non) (.con (.int 200))) .nil)) (.cons (.call 9 (.cons (.slice (.var 11) (.con .non) (.con (.int 201))) .nil)) (.cons (.call 11 (.cons (.var 10) .nil)) (.cons (.call 11 (.cons (.tup (.cons (.con (.str [35])) (.cons (.con (.str [46])) .nil))) .nil)) (.cons (.call 8 (.cons (.tup (.cons (.con (.str [35])) .nil)) .nil)) (.cons (.call 8 (.cons (.tup (.cons (.con (.str [35, 35])) .nil)) .nil)) .nil))))))))) (.cons (.ret (.and (.call 13 (.cons (.var 1) (.cons (.lst (.cons (.con (.bl true)) (.cons (.con (.bl true)) (.cons (.con (.bl false)) (.cons (.con (.bl false)) (.cons (.con (.bl true)) (.cons (.tup .nil) (.cons (.tup (.cons (.tup (.cons (.con (.str [35, 35])) (.cons (.con (.str [35, 35])) (.cons (.con (.int 1)) .nil)))) .nil)) .nil)))))))) .nil))) (.and (.cmp .isB (.call 9 (.cons (.tup (.cons (.bin .mul (.con (.str [35])) (.con (.int 12))) .nil)) .nil)) (.con (.bl true))) (.cmp .isB (.call 9 (.cons (.tup (.cons (.bin .mul (.con (.str [35])) (.con (.int 13))) .nil)) .nil)) (.con (.bl false)))))) .nil))))))))))) := rfl

abbrev C (k : Nat) : CF := callF P.tbl k
theorem o_asgL (ts : Tgs) (vs : List PV) (r : Env) : asg (.tup ts) (.lst vs) r = asgs ts vs r := rfl
theorem forL_nil (f : PV → Env → Store → Res Fl) (r : Env) (s : Store) : forL f [] r s = .ok (.next r) s := rfl
theorem forL_cons (f : PV → Env → Store → Res Fl) (x : PV) (xs : List PV) (r : Env) (s : Store) : forL f (x :: xs) r s = (f x r s).bind fun fl s => match fl with
    | .next r => forL f xs r s
    | .cont r => forL f xs r s
    | .brk r => .ok (.next r) s
    | .ret v => .ok (.ret v) s := rfl
/-! ### data of bounded size -/
mutual
def sm (N : Nat) : PV → Bool
  | .non | .bl _ | .int _ => true
  | .str x => decide (x.length ≤ N)
  | .tup xs | .lst xs => decide (xs.length ≤ N) && sms N xs
  | .fn _ | .loc _ | .scr _ | .dct _ _ => false
def sms (N : Nat) : List PV → Bool
  | [] => true
  | x :: xs => sm N x && sms N xs
end
theorem sms_iff {N : Nat} : ∀ {xs : List PV}, sms N xs = true ↔ ∀ x ∈ xs, sm N x = true
  | [] => by simp [sms]
  | x :: xs => by
    rw [sms, Bool.and_eq_true, sms_iff]
    simp
mutual
theorem sm_D {N : Nat} : ∀ {v : PV}, sm N v = true → isD v = true
  | .non, _ => rfl
  | .bl _, _ => rfl
  | .int _, _ => rfl
  | .str _, _ => rfl
  | .tup xs, h => by
    rw [sm, Bool.and_eq_true] at h
    exact sms_D h.2
  | .lst xs, h => by
    rw [sm, Bool.and_eq_true] at h
    exact sms_D h.2
  | .fn _, h => by cases h
  | .loc _, h => by cases h
  | .scr _, h => by cases h
  | .dct _ _, h => by cases h
theorem sms_D {N : Nat} : ∀ {xs : List PV}, sms N xs = true → isDs xs = true
  | [], _ => rfl
  | x :: xs, h => by
    rw [sms, Bool.and_eq_true] at h
    rw [isDs, sm_D h.1, sms_D h.2]
    rfl
end
mutual
theorem sm_mono {N M : Nat} (hNM : N ≤ M) : ∀ {v : PV}, sm N v = true → sm M v = true
  | .non, _ => rfl
  | .bl _, _ => rfl
  | .int _, _ => rfl
  | .str x, h => by
    rw [sm, decide_eq_true_eq] at h ⊢
    omega
  | .tup xs, h => by
    rw [sm, Bool.and_eq_true, decide_eq_true_eq] at h ⊢
    exact ⟨by omega, sms_mono hNM h.2⟩
  | .lst xs, h => by
    rw [sm, Bool.and_eq_true, decide_eq_true_eq] at h ⊢
    exact ⟨by omega, sms_mono hNM h.2⟩
  | .fn _, h => by cases h
  | .loc _, h => by cases h
  | .scr _, h => by cases h
  | .dct _ _, h => by cases h
theorem sms_mono {N M : Nat} (hNM : N ≤ M) : ∀ {xs : List PV}, sms N xs = true → sms M xs = true
  | [], _ => rfl
  | x :: xs, h => by
    rw [sms, Bool.and_eq_true] at h ⊢
    exact ⟨sm_mono hNM h.1, sms_mono hNM h.2⟩
end
/-- fit to be judged -/
def Ok (v : PV) : Prop := sm 1000 v = true ∧ depth v ≤ 20
theorem Ok.d {v : PV} (h : Ok v) : isD v = true := sm_D h.1
theorem Ok.tup {xs : List PV} (h : Ok (.tup xs)) : xs.length ≤ 1000 ∧ (∀ x ∈ xs, Ok x) ∧ isDs xs = true ∧ depths xs ≤ 19 := by
  obtain ⟨h1, h2⟩ := h
  rw [sm, Bool.and_eq_true, decide_eq_true_eq] at h1
  rw [depth] at h2
  exact ⟨h1.1, fun x hx => ⟨sms_iff.mp h1.2 x hx, Nat.le_trans (depths_mem (Nat.le_refl _) x hx) (by omega)⟩, sms_D h1.2, by omega⟩
theorem Ok.str {x : List Nat} (h : Ok (.str x)) : x.length ≤ 1000 := by
  have := h.1
  rw [sm, decide_eq_true_eq] at this
  exact this
def wordB (l h : Nat) (signs x : List Nat) : Bool := decide (l ≤ x.length) && decide (x.length ≤ h) && x.all fun c => signs.contains c
theorem isStr (v : PV) (h : isD v = true) : isTy .str v = some (match v with | .str _ => true | _ => false) := by
  cases v <;> first | rfl | cases h
theorem isTup (v : PV) (h : isD v = true) : isTy .tuple v = some (match v with | .tup _ => true | _ => false) := by
  cases v <;> first | rfl | cases h
theorem word_str (k : Nat) (x signs : List Nat) (l h : Nat) (s : Store) (hx : x.length ≤ 1000) : C (k + 1) 3 [.str x, .str signs, .int (l : Int), .int (h : Int)] s = .ok (.bl (wordB l h signs x)) s := by
  show runFn (C k) ⟨4, 5, b3⟩ _ s = _
  rw [b3_eq]
  have len := o_lenS (x := x) (by omega)
  have cm : ev (C k) c3_0 [some (.str x), some (.str signs), some (.int (l : Int)), some (.int (h : Int)), none] s = .ok (.lst (x.map fun c => PV.bl (signs.contains c))) s := by
    have := comp_map (cf := C k) (vs := [4]) (t := .name 4) (it := .seq (.var 0)) (e := .cmp .in_ (.var 4) (.var 1)) (r := [some (.str x), some (.str signs), some (.int (l : Int)), some (.int (h : Int)), none]) (s := s) (xs := x.map fun c => .str [c]) (g := fun v => .bl (match v with | .str [c] => signs.contains c | _ => false)) rfl (fun v hv => by
      obtain ⟨c, hc, rfl⟩ := List.mem_map.mp hv
      refine ⟨_, rfl, ?_⟩
      have q : cmpop .in_ (.str [c]) (.str signs) = some (isSub [c] signs) := rfl
      rw [isSub_one] at q
      simp [PyI.wipe, q]) (by rw [List.length_map]; omega)
    rw [List.map_map] at this
    exact this
  have i1 : isTy .str (.str x) = some true := rfl
  have al := allB_map (fun c => signs.contains c) x
  by_cases h1 : l ≤ x.length
  · have h1' : ((l : Int) ≤ x.length) := by omega
    by_cases h2 : x.length ≤ h
    · have h2' : ((x.length : Int) ≤ h) := by omega
      simp [-ev_comp, -List.contains_eq_mem, runFn, i1, len, cm, al, h1, h2, h1', h2', wordB]
    · have h2' : ¬ ((x.length : Int) ≤ h) := by omega
      simp [-ev_comp, runFn, i1, len, h1, h2, h1', h2', wordB]
  · have h1' : ¬ ((l : Int) ≤ x.length) := by omega
    simp [-ev_comp, runFn, i1, len, h1, h1', wordB]
theorem word_no (k : Nat) (v a b c : PV) (s : Store) (hv : isTy .str v = some false) : C (k + 1) 3 [v, a, b, c] s = .ok (.bl false) s := by
  show runFn (C k) ⟨4, 5, b3⟩ _ s = _
  simp [runFn, b3_eq, hv]
theorem filter_empty {α : Type} (p : α → Bool) : ∀ xs : List α, (xs.filter p).isEmpty = xs.all fun x => !p x
  | [] => rfl
  | x :: xs => by
    cases h : p x with
    | true => rw [List.filter_cons_of_pos h]; simp [h]
    | false => rw [List.filter_cons_of_neg (by simp [h]), filter_empty p xs]; simp [h]
theorem tupleof_ok (k : Nat) (xs : List PV) (l h : Int) (s : Store) : C (k + 1) 2 [.tup xs, .int l, .int h] s = .ok (.bl (decide (l ≤ (xs.length : Int)) && decide ((xs.length : Int) ≤ h))) s := by
  show runFn (C k) ⟨3, 3, b2⟩ _ s = _
  by_cases h1 : l ≤ (xs.length : Int)
  · simp [runFn, b2, h1]
  · simp [runFn, b2, h1]
theorem tupleof_no (k : Nat) (v a b : PV) (s : Store) (hv : isTy .tuple v = some false) : C (k + 1) 2 [v, a, b] s = .ok (.bl false) s := by
  show runFn (C k) ⟨3, 3, b2⟩ _ s = _
  simp [runFn, b2, hv]
theorem not_tup {v : PV} (h : isD v = true) (hs : ¬ ∃ xs, v = .tup xs) : isTy .tuple v = some false := by
  have hi := isTup v h
  cases v <;> first | exact hi | exact absurd ⟨_, rfl⟩ hs
theorem stepL_rev {α : Type} (xs : List α) : stepL xs none none (-1) = xs.reverse := by
  have e1 : PySem.Builtin.Slice.sliceAdjust none none (-1) (xs.length : Int) = ((xs.length : Int) - 1, -1) := rfl
  unfold stepL
  rw [e1]
  have e2 : PySem.Builtin.Slice.slicePlaces ((xs.length : Int) - 1) (-1) (-1) = xs.length := by
    unfold PySem.Builtin.Slice.slicePlaces
    rw [if_neg (by decide)]
    by_cases h : 0 < xs.length
    · rw [if_pos (by omega)]
      have : ((xs.length : Int) - 1 - -1 - 1) / - -1 = (xs.length : Int) - 1 := by
        rw [Int.neg_neg, Int.ediv_one]
        omega
      rw [this]
      omega
    · rw [if_neg (by omega)]
      omega
  show (List.range (PySem.Builtin.Slice.slicePlaces ((xs.length : Int) - 1) (-1) (-1))).filterMap (fun (k : Nat) => xs[((xs.length : Int) - 1 + (k : Int) * -1).toNat]?) = _
  rw [e2]
  have e3 : (List.range xs.length).filterMap (fun (k : Nat) => xs[((xs.length : Int) - 1 + (k : Int) * -1).toNat]?) = (List.range xs.length).filterMap (fun (k : Nat) => xs.reverse[k]?) := by
    have key : ∀ l : List Nat, (∀ k ∈ l, k < xs.length) → l.filterMap (fun (k : Nat) => xs[((xs.length : Int) - 1 + (k : Int) * -1).toNat]?) = l.filterMap (fun (k : Nat) => xs.reverse[k]?) := by
      intro l
      induction l with
      | nil => intro _; rfl
      | cons k l ih =>
        intro h
        have hk := h k List.mem_cons_self
        have e : xs[((xs.length : Int) - 1 + (k : Int) * -1).toNat]? = xs.reverse[k]? := by
          rw [List.getElem?_reverse hk]
          congr 1
          omega
        rw [List.filterMap_cons, List.filterMap_cons, e, ih fun j hj => h j (List.mem_cons_of_mem _ hj)]
    exact key _ fun k hk => List.mem_range.mp hk
  rw [e3]
  have all : ∀ ys : List α, (List.range ys.length).filterMap (fun (k : Nat) => ys[k]?) = ys := by
    intro ys
    induction ys with
    | nil => rfl
    | cons y ys ih =>
      rw [List.length_cons, List.range_succ_eq_map, List.filterMap_cons]
      show y :: _ = _
      rw [List.filterMap_map]
      congr 1
  have := all xs.reverse
  rw [List.length_reverse] at this
  exact this
theorem step_tup {xs : List PV} (h : xs.length ≤ 1000) : stepV (.tup xs) none none = some (.tup xs.reverse) := by
  show (if (stepL xs none none (-1)).length ≤ SZ then some (PV.tup (stepL xs none none (-1))) else none) = _
  rw [stepL_rev, if_pos (by rw [List.length_reverse]; show _ ≤ 16777216; omega)]
theorem o_addT' {x y : List PV} (h : x.length ≤ 1000) (h2 : y.length ≤ 1000) : binop .add (.tup x) (.tup y) = some (.tup (x ++ y)) := if_pos (show _ ≤ 16777216 by omega)
/-- what a bent value is -/
def Bt (d : Nat) (w : PV) : Prop := sm 250 w = true ∧ depth w ≤ d
theorem bt_str {d : Nat} {x : List Nat} (h : x.length ≤ 250) : Bt d (.str x) := ⟨by rw [sm, decide_eq_true_eq]; exact h, Nat.zero_le _⟩
theorem bt_tup {d : Nat} {xs : List PV} (h : xs.length ≤ 250) (h2 : ∀ x ∈ xs, Bt d x) : Bt (d + 1) (.tup xs) := by
  refine ⟨?_, ?_⟩
  · rw [sm, Bool.and_eq_true, decide_eq_true_eq, sms_iff]
    exact ⟨h, fun x hx => (h2 x hx).1⟩
  · rw [depth]
    exact Nat.succ_le_succ (depths_of fun x hx => (h2 x hx).2)
theorem bt_lst {d : Nat} {xs : List PV} (h : xs.length ≤ 250) (h2 : ∀ x ∈ xs, Bt d x) : Bt (d + 1) (.lst xs) := by
  refine ⟨?_, ?_⟩
  · rw [sm, Bool.and_eq_true, decide_eq_true_eq, sms_iff]
    exact ⟨h, fun x hx => (h2 x hx).1⟩
  · rw [depth]
    exact Nat.succ_le_succ (depths_of fun x hx => (h2 x hx).2)
theorem bt_mono {d e : Nat} {w : PV} (h : Bt d w) (hd : d ≤ e) : Bt e w := ⟨h.1, Nat.le_trans h.2 hd⟩
theorem sortOk (k : Nat) (v : PV) (h : isD v = true) (s : Store) : C (k + 1) 12 [v] s = .ok (.int (sortOf v)) s := sort_ok rfl v h s
theorem like (n k : Nat) (x : PV) (s : Store) (h : isD x = true) (hd : depth x ≤ n) : C (k + n + 2) 13 [x, x] s = .ok (.bl true) s := like_refl (iS := 12) rfl rfl n k x s h hd
theorem rolls (k : Nat) : Rolls (C (k + 1)) 14 := rolls_ok rfl
theorem somes (k : Nat) : Somes (C (k + 2)) 15 := somes_ok rfl (rolls k)
theorem evI_r1 {cf : CF} {a : E} {r : Env} {s : Store} {x : Int} {xs : List PV} (h1 : ev cf a r s = .ok (.int x) s) (h3 : range1op (.int x) = some xs) : evI cf (.range1 a) r s = .ok xs s := by
  rw [evI_range1, h1, Res.bind_ok, h3]
  rfl
theorem o_addL' {x y : List PV} (h : x.length ≤ 100000) (h2 : y.length ≤ 100000) : binop .add (.lst x) (.lst y) = some (.lst (x ++ y)) := if_pos (show _ ≤ 16777216 by omega)
def prs : List (List Nat) → List (List Nat × List Nat)
  | x :: y :: r => (x, y) :: prs (y :: r)
  | _ => []
theorem prs_len : ∀ xs : List (List Nat), (prs xs).length ≤ xs.length
  | [] => Nat.le_refl _
  | [x] => Nat.zero_le _
  | x :: y :: r => by
    have := prs_len (y :: r)
    simp only [prs, List.length_cons] at this ⊢
    omega
theorem zip_next : ∀ xs : List (List Nat), zipL (xs.map .str) ((xs.map .str).drop 1) = (prs xs).map fun p => .tup [.str p.1, .str p.2]
  | [] => rfl
  | [x] => rfl
  | x :: y :: r => by
    have := zip_next (y :: r)
    show PV.tup [.str x, .str y] :: zipL ((y :: r).map .str) (((y :: r).map .str).drop 1) = _
    rw [this]
    rfl
theorem prs_all : ∀ xs : List (List Nat), ((prs xs).all fun p => strLt p.1 p.2) = rising xs
  | [] => rfl
  | [x] => rfl
  | x :: y :: r => by
    have := prs_all (y :: r)
    show (strLt x y && (prs (y :: r)).all fun p => strLt p.1 p.2) = (strLt x y && rising (y :: r))
    rw [this]
theorem rising_ok (k : Nat) (v : PV) (xs : List (List Nat)) (s : Store) (hz : xs.length ≤ 1000) (hv : itemsOf v = some (xs.map .str)) (hw : ∃ w, slV v (some 1) none = some w ∧ itemsOf w = some ((xs.map .str).drop 1)) : C (k + 1) 1 [v] s = .ok (.bl (rising xs)) s := by
  show runFn (C k) ⟨1, 3, b1⟩ _ s = _
  rw [b1_eq]
  obtain ⟨w, hw, hw2⟩ := hw
  have eI : evI (C k) (.zip (.var 0) (.slice (.var 0) (.con (.int 1)) (.con .non))) [some v, none, none] s = .ok ((prs xs).map fun p => .tup [.str p.1, .str p.2]) s := by
    have := zip_next xs
    simp only [evI_zip, ev_var, ev_slice, ev_con, Res.bind_ok, List.getElem?_cons_zero, partOf, Option.bind_some, hw, hw2, hv, Res.ofO_some, Option.map_some]
    rw [this]
  have cm := comp_map (cf := C k) (vs := [1, 2]) (t := .tup (.cons (.name 1) (.cons (.name 2) .nil))) (e := .cmp .lt (.var 1) (.var 2)) (g := fun v => .bl (match v with | .tup [.str x, .str y] => strLt x y | _ => false)) eI (fun v hv => by
    obtain ⟨p, hp, rfl⟩ := List.mem_map.mp hv
    refine ⟨_, rfl, ?_⟩
    have q : cmpop .lt (.str p.1) (.str p.2) = some (strLt p.1 p.2) := rfl
    simp [PyI.wipe, q]) (by
      rw [List.length_map]
      have := prs_len xs
      omega)
  rw [List.map_map] at cm
  have cm : ev (C k) c1_0 [some v, none, none] s = .ok (.lst ((prs xs).map fun p => PV.bl (strLt p.1 p.2))) s := cm
  have al := allB_map (fun p : List Nat × List Nat => strLt p.1 p.2) (prs xs)
  rw [prs_all] at al
  simp [-ev_comp, runFn, cm, al]
theorem rising_tup (k : Nat) (xs : List (List Nat)) (s : Store) (hz : xs.length ≤ 1000) : C (k + 1) 1 [.tup (xs.map .str)] s = .ok (.bl (rising xs)) s := rising_ok k _ xs s hz rfl ⟨_, slT_drop _ 1, rfl⟩
theorem rising_lst (k : Nat) (xs : List (List Nat)) (s : Store) (hz : xs.length ≤ 1000) : C (k + 1) 1 [.lst (xs.map .str)] s = .ok (.bl (rising xs)) s := rising_ok k _ xs s hz rfl ⟨_, slL_drop _ 1, rfl⟩
theorem isIn_strs (x : List Nat) : ∀ xs : List (List Nat), isIn (.str x) (xs.map .str) = xs.contains x
  | [] => rfl
  | y :: ys => by
    show (eqv (.str y) (.str x) || isIn (.str x) (ys.map .str)) = _
    rw [isIn_strs x ys, List.contains_cons]
    show ((y == x) || _) = _
    rw [Bool.eq_iff_iff]
    simp only [Bool.or_eq_true, beq_iff_eq]
    constructor <;> rintro (h | h) <;> first | exact .inl h.symm | exact .inr h
theorem o_notInS (x : List Nat) (xs : List (List Nat)) : cmpop .notIn (.str x) (.lst (xs.map .str)) = some (!xs.contains x) := by
  have h1 : isDs (xs.map .str) = true := isDs_strs (fun x => x) xs
  have h2 : depths (xs.map .str) = 0 := depths_strs (fun x => x) xs
  show (if isD (.str x) && isDs (xs.map .str) && decide (depth (.str x) ≤ 40) && decide (depths (xs.map .str) ≤ 40) then some (!isIn (.str x) (xs.map .str)) else none) = _
  rw [h1, h2, isIn_strs]
  rfl
theorem ok_str {x : List Nat} (h : x.length ≤ 1000) : Ok (.str x) := ⟨by rw [sm, decide_eq_true_eq]; exact h, Nat.zero_le _⟩
theorem intsOf_str (x : List Nat) (r : List PV) : intsOf (.str x :: r) = none := rfl
theorem strsOf_map : ∀ xs : List (List Nat), strsOf (xs.map .str) = some xs
  | [] => rfl
  | x :: xs => by
    show (strsOf (xs.map .str)).map _ = _
    rw [strsOf_map xs]
    rfl
theorem evI_rg {cf : CF} {e : E} {r : Env} {s s' : Store} {M : Int} {xs : List PV} (h : ev cf e r s = .ok (.int M) s') (rg : range1op (.int M) = some xs) : evI cf (.range1 e) r s = .ok xs s' := by
  rw [evI_range1, h, Res.bind_ok, rg]
  rfl
theorem o_addC {x y : List Nat} (h : x.length + y.length ≤ 1000) : binop .add (.str x) (.str y) = some (.str (x ++ y)) := if_pos (show _ ≤ 16777216 by omega)
theorem all_map {cf : CF} {vs : List Nat} {t : Tg} {it : It} {e : E} {r : Env} {s : Store} {xs : List PV} {p : PV → Bool} (hI : evI cf it r s = .ok xs s) (h : ∀ x ∈ xs, ∃ r1, asg t x (wipe r vs) = some r1 ∧ ev cf e r1 s = .ok (.bl (p x)) s) (hz : xs.length ≤ 1000000) : ∃ l, ev cf (.comp vs t it (.con (.bl true)) e) r s = .ok (.lst l) s ∧ allB l = some (xs.all p) :=
  ⟨_, comp_map (g := fun x => PV.bl (p x)) hI h hz, allB_map p xs⟩
def lenB (l h : Nat) : PV → Bool
  | .tup xs => decide (l ≤ xs.length) && decide (xs.length ≤ h)
  | _ => false
theorem len_ok (k : Nat) (v : PV) (l h : Nat) (s : Store) (hv : Ok v) : C (k + 1) 2 [v, .int (l : Int), .int (h : Int)] s = .ok (.bl (lenB l h v)) s := by
  by_cases hs : ∃ xs, v = .tup xs
  · obtain ⟨xs, rfl⟩ := hs
    have a1 := tupleof_ok k xs l h s
    have e1 : decide ((l : Int) ≤ (xs.length : Int)) = decide (l ≤ xs.length) := by
      rw [decide_eq_decide]; omega
    have e2 : decide ((xs.length : Int) ≤ (h : Int)) = decide (xs.length ≤ h) := by
      rw [decide_eq_decide]; omega
    rw [e1, e2] at a1
    exact a1
  · have : lenB l h v = false := by
      cases v <;> first | rfl | exact absurd ⟨_, rfl⟩ hs
    rw [this]
    exact tupleof_no k v _ _ s (not_tup hv.d hs)
theorem all_mem {p : PV → Bool} {xs : List PV} (h : xs.all p = true) {x : PV} (hx : x ∈ xs) : p x = true := List.all_eq_true.mp h x hx
theorem sset_strs {xs : List (List Nat)} (h0 : xs ≠ []) (hl : xs.length < 1000) : ssetV (.lst (xs.map .str)) = some (.lst ((dedS (sortS xs)).map .str)) := by
  cases xs with
  | nil => exact absurd rfl h0
  | cons x r =>
    show (match intsOf (.str x :: r.map .str) with
      | some l => if l.length < 64 then some (PV.lst ((dedI (sortI l)).map .int)) else none
      | none => (match strsOf ((x :: r).map .str) with
        | some l => if l.length < 1000 then some (.lst ((dedS (sortS l)).map .str)) else none
        | none => none)) = _
    rw [intsOf_str, strsOf_map]
    show (if (x :: r).length < 1000 then _ else none) = _
    rw [if_pos hl]
theorem eq_sset (xs : List (List Nat)) : cmpop .eq (.lst (xs.map .str)) (.lst ((dedS (sortS xs)).map .str)) = some (rising xs) := by
  rw [o_eqStrs, M3.ord_rising]
theorem len_filter_no (p : PV → Bool) (xs : List PV) (hD : isDs xs = true) (hd : depths xs ≤ 39) : cmpop .ne (.lst (xs.filter p)) (.lst []) = some (!xs.all fun x => !p x) := by
  rw [o_neNilL (isDs_of fun x hx => isDs_mem hD x (List.mem_filter.mp hx).1) (depths_of fun x hx => depths_mem hd x (List.mem_filter.mp hx).1), filter_empty]
theorem lenI (n l h : Nat) : (decide ((l : Int) ≤ (n : Int)) && decide ((n : Int) ≤ (h : Int))) = (decide (l ≤ n) && decide (n ≤ h)) := by
  have e1 : decide ((l : Int) ≤ (n : Int)) = decide (l ≤ n) := by
    rw [decide_eq_decide]; omega
  have e2 : decide ((n : Int) ≤ (h : Int)) = decide (n ≤ h) := by
    rw [decide_eq_decide]; omega
  rw [e1, e2]
theorem o_inN (x : List Nat) (xs : List (List Nat)) : cmpop .in_ (.str x) (.lst (xs.map .str)) = some (xs.contains x) := by
  have d := isDs_strs (fun x => x) xs
  have e := depths_strs (fun x => x) xs
  show (if isD (.str x) && isDs (xs.map .str) && decide (depth (.str x) ≤ 40) && decide (depths (xs.map .str) ≤ 40) then some (isIn (.str x) (xs.map .str)) else none) = _
  rw [d, e, isIn_strs]
  rfl
def StA (s : Store) : Prop := ∃ a b : Int, s = [[.int a, .int b]] ∧ 0 ≤ a
theorem roll (k : Nat) (m : Int) (h1 : 0 < m) (h2 : m < 1073741824) {s : Store} (hs : StA s) : ∃ (r : Int) (s' : Store), C (k + 1) 14 [.loc 0, .int m] s = .ok (.int r) s' ∧ 0 ≤ r ∧ r < m ∧ StA s' := by
  obtain ⟨a, b, rfl, ha⟩ := hs
  obtain ⟨r, a', b', e, h3, h4, ha'⟩ := rolls k m h1 h2 a b ha
  exact ⟨r, _, e, h3, h4, a', b', rfl, ha'⟩
theorem compL_all {f : PV → Store → Res (Option PV)} {I : Store → Prop} {Q : PV → Prop} : ∀ {xs : List PV} {s : Store}, (∀ x ∈ xs, ∀ s, I s → ∃ y s', f x s = .ok (some y) s' ∧ I s' ∧ Q y) → I s → ∃ ys s', compL f xs s = .ok ys s' ∧ I s' ∧ ys.length = xs.length ∧ ∀ y ∈ ys, Q y
  | [], s, _, hI => ⟨[], s, rfl, hI, rfl, fun _ h => by cases h⟩
  | x :: xs, s, h, hI => by
    obtain ⟨y, s1, e1, hI1, hy⟩ := h x List.mem_cons_self s hI
    obtain ⟨ys, s2, e2, hI2, hl, hq⟩ := compL_all (xs := xs) (fun z hz => h z (List.mem_cons_of_mem _ hz)) hI1
    refine ⟨y :: ys, s2, ?_, hI2, by rw [List.length_cons, hl]; rfl, fun z hz => ?_⟩
    · rw [compL, e1, Res.bind_ok, e2]
      rfl
    · cases hz with
      | head => exact hy
      | tail _ hz => exact hq z hz
theorem compL_some {f : PV → Store → Res (Option PV)} {I : Store → Prop} : ∀ {xs : List PV} {s : Store}, (∀ x ∈ xs, ∀ s, I s → ∃ (z : Bool) (s' : Store), f x s = .ok (if z = true then some x else none) s' ∧ I s') → I s → ∃ ys s', compL f xs s = .ok ys s' ∧ I s' ∧ ys.length ≤ xs.length ∧ ∀ y ∈ ys, y ∈ xs
  | [], s, _, hI => ⟨[], s, rfl, hI, Nat.le_refl _, fun _ h => by cases h⟩
  | x :: xs, s, h, hI => by
    obtain ⟨z, s1, e1, hI1⟩ := h x List.mem_cons_self s hI
    obtain ⟨ys, s2, e2, hI2, hl, hq⟩ := compL_some (xs := xs) (fun z hz => h z (List.mem_cons_of_mem _ hz)) hI1
    cases z with
    | true =>
      refine ⟨x :: ys, s2, ?_, hI2, by rw [List.length_cons, List.length_cons]; omega, fun z hz => ?_⟩
      · rw [compL, e1, Res.bind_ok, e2]
        rfl
      · cases hz with
        | head => exact List.mem_cons_self
        | tail _ hz => exact List.mem_cons_of_mem _ (hq z hz)
    | false =>
      refine ⟨ys, s2, ?_, hI2, by rw [List.length_cons]; omega, fun z hz => List.mem_cons_of_mem _ (hq z hz)⟩
      rw [compL, e1, Res.bind_ok, e2]
      rfl
theorem bt_int (d : Nat) (i : Int) : Bt d (.int i) := ⟨rfl, Nat.zero_le _⟩
theorem ok_bt {d : Nat} {v : PV} (h : Bt d v) (hd : d ≤ 20) : Ok v := ⟨sm_mono (by decide) h.1, Nat.le_trans h.2 hd⟩
theorem slT_m1 {xs : List PV} (h : xs ≠ []) : slV (.tup xs) (some (-1)) none = some (.tup (xs.drop (xs.length - 1))) := by
  have hp := List.length_pos_iff.mpr h
  show some (PV.tup (cut xs (some (-1)) none)) = _
  unfold cut
  rw [sIx_none]
  have e : sIx xs.length 0 (some (-1)) = xs.length - 1 := by
    show ((-1 : Int) + (xs.length : Int)).toNat = _
    omega
  rw [e, List.take_of_length_le (by rw [List.length_drop]; exact Nat.le_refl _)]
theorem range0 (n : Nat) : rangeL 0 n = (List.range n).map fun k : Nat => PV.int (k : Int) := by
  rw [rangeL_eq]
  refine List.map_congr_left fun i _ => ?_
  rw [Int.zero_add]

end K18

set_option maxRecDepth 100000
set_option maxHeartbeats 4000000
/-! L18b: which values are codes, by the program and by the law. -/
namespace K18
open PyI
def wordV : PV → Bool
  | .str x => wordB 1 12 [35, 46] x
  | _ => false
def lenOf : PV → Nat
  | .str x => x.length
  | _ => 0
def strOf : PV → List Nat
  | .str x => x
  | _ => []
def sameLen : List PV → Bool
  | [] => true
  | x :: r => (x :: r).all fun y => lenOf y == lenOf x
def codeB : PV → Bool
  | .tup xs => lenB 1 200 (.tup xs) && xs.all wordV && sameLen xs && rising (xs.map strOf)
  | _ => false
theorem word_any (k : Nat) (v : PV) (s : Store) (h : Ok v) : C (k + 1) 3 [v, .str [35, 46], .int 1, .int 12] s = .ok (.bl (wordV v)) s := by
  by_cases hs : ∃ x, v = .str x
  · obtain ⟨x, rfl⟩ := hs
    exact word_str k x [35, 46] 1 12 s h.str
  · have hi := isStr v h.d
    have : wordV v = false ∧ isTy .str v = some false := by
      cases v <;> first | exact ⟨rfl, hi⟩ | exact absurd ⟨_, rfl⟩ hs
    rw [this.1]
    exact word_no k v _ _ _ s this.2
theorem wordV_form {v : PV} (h : wordV v = true) : ∃ x, v = .str x ∧ 1 ≤ x.length ∧ x.length ≤ 12 ∧ HD x := by
  cases v with
  | str x =>
    have h : wordB 1 12 [35, 46] x = true := h
    unfold wordB at h
    rw [Bool.and_eq_true, Bool.and_eq_true, decide_eq_true_eq, decide_eq_true_eq, List.all_eq_true] at h
    exact ⟨x, rfl, h.1.1, h.1.2, fun c hc => by simpa using h.2 c hc⟩
  | _ => cases h
theorem strs_of {xs : List PV} (h : ∀ x ∈ xs, ∃ y, x = .str y) : xs = (xs.map strOf).map .str := by
  rw [List.map_map]
  conv => lhs; rw [← List.map_id xs]
  refine List.map_congr_left fun x hx => ?_
  obtain ⟨y, rfl⟩ := h x hx
  rfl
theorem code_gen {cf : CF} {v : PV} {z1 z2 z3 z4 : Bool} {s : Store} (e1 : cf 2 [v, .int 1, .int 200] s = .ok (.bl z1) s)
    (e2 : z1 = true → ∃ l, ev cf c4_0 [some v, none] s = .ok (.lst l) s ∧ allB l = some z2)
    (e3 : z1 = true → z2 = true → ∃ l, ev cf c4_1 [some v, none] s = .ok (.lst l) s ∧ allB l = some z3)
    (e4 : z1 = true → z2 = true → z3 = true → cf 1 [v] s = .ok (.bl z4) s) : runFn cf ⟨1, 2, b4⟩ [v] s = .ok (.bl (z1 && z2 && z3 && z4)) s := by
  rw [b4_eq]
  cases z1 with
  | false => simp [-ev_comp, runFn, e1]
  | true =>
    obtain ⟨l2, f2, g2⟩ := e2 rfl
    cases z2 with
    | false => simp [-ev_comp, runFn, e1, f2, g2]
    | true =>
      obtain ⟨l3, f3, g3⟩ := e3 rfl rfl
      cases z3 with
      | false => simp [-ev_comp, runFn, e1, f2, g2, f3, g3]
      | true =>
        have f4 := e4 rfl rfl rfl
        simp [-ev_comp, runFn, e1, f2, g2, f3, g3, f4]
theorem eqL (m n : Nat) : cmpop .eq (.int (m : Int)) (.int (n : Int)) = some (m == n) := by
  show some ((m : Int) == (n : Int)) = _
  congr 1
  rw [Bool.eq_iff_iff, beq_iff_eq, beq_iff_eq]
  omega
theorem fitscode_ok (k : Nat) (v : PV) (s : Store) (h : Ok v) : C (k + 2) 4 [v] s = .ok (.bl (codeB v)) s := by
  show runFn (C (k + 1)) ⟨1, 2, b4⟩ _ s = _
  by_cases hs : ∃ xs, v = .tup xs
  · obtain ⟨xs, rfl⟩ := hs
    obtain ⟨h1, h2, _, _⟩ := h.tup
    have a1 := len_ok k (.tup xs) 1 200 s h
    refine code_gen (z2 := xs.all wordV) (z3 := sameLen xs) (z4 := rising (xs.map strOf)) a1 (fun _ => ?_) (fun w1 w2 => ?_) fun w1 w2 w3 => ?_
    · refine all_map (it := .seq (.var 0)) rfl (fun v hv => ⟨_, rfl, ?_⟩) (by omega)
      have := word_any k v s (h2 v hv)
      simp [PyI.wipe, this]
    · cases xs with
      | nil => simp [lenB] at w1
      | cons x r =>
        obtain ⟨x0, rfl, _, l2, _⟩ := wordV_form (all_mem w2 (List.mem_cons_self))
        refine all_map (p := fun y => lenOf y == lenOf (.str x0)) (it := .seq (.var 0)) rfl (fun v hv => ⟨_, rfl, ?_⟩) (by omega)
        obtain ⟨y, rfl, _, m2, _⟩ := wordV_form (all_mem w2 hv)
        have ly := o_lenS (x := y) (by omega)
        have lx := o_lenS (x := x0) (by omega)
        have q := eqL y.length x0.length
        show _ = Res.ok (PV.bl (y.length == x0.length)) s
        generalize (y.length == x0.length) = bb at q
        generalize (y.length : Int) = Y at ly q
        generalize (x0.length : Int) = Z at lx q
        simp [-o_eqI, PyI.wipe, ly, lx, q]
    · have e := strs_of (xs := xs) fun x hx => by
        obtain ⟨y, rfl, _⟩ := wordV_form (all_mem w2 hx)
        exact ⟨y, rfl⟩
      have := rising_tup k (xs.map strOf) s (by rw [List.length_map]; omega)
      rw [← e] at this
      exact this
  · have a1 := tupleof_no k v (.int 1) (.int 200) s (not_tup h.d hs)
    have : codeB v = false := by
      cases v <;> first | rfl | exact absurd ⟨_, rfl⟩ hs
    rw [this]
    exact code_gen (z2 := true) (z3 := true) (z4 := true) a1 (fun q => by cases q) (fun q => by cases q) (fun q => by cases q)
theorem iscode_ok (k : Nat) (v : PV) (s : Store) (h : Ok v) : C (k + 3) 9 [v] s = .ok (.bl (codeB v)) s := by
  show runFn (C (k + 2)) ⟨1, 1, b9⟩ _ s = _
  have a := fitscode_ok k v s h
  simp [runFn, b9, a]
/-! ### the law's -/
theorem sset_tup {xs : List (List Nat)} (hl : xs.length < 1000) : ssetV (.tup (xs.map .str)) = some (.lst ((dedS (sortS xs)).map .str)) := by
  show (match strsOf (xs.map .str) with
    | some l => if l.length < 1000 then some (PV.lst ((dedS (sortS l)).map .str)) else none
    | none => none) = _
  rw [strsOf_map]
  show (if xs.length < 1000 then _ else none) = _
  rw [if_pos hl]
theorem law21_gen {cf : CF} {v w S : PV} {l0 l1 : List PV} {L : Int} {z1 z2 z3 z4 : Bool} {s : Store} (e0 : isTy .tuple v = some true) (e1 : blt1 .len v = some (.int L)) (h1 : z1 = (decide (1 ≤ L) && decide (L ≤ 200)))
    (e2 : z1 = true → ev cf c21_0 [some v, none, none] s = .ok (.lst l0) s ∧ cmpop .ne (.lst l0) (.lst []) = some (!z2))
    (e3 : z1 = true → z2 = true → ev cf c21_2 [some v, none, none] s = .ok (.lst l1) s ∧ cmpop .ne (.lst l1) (.lst []) = some (!z3))
    (e4 : z1 = true → z2 = true → z3 = true → blt1 .list v = some w ∧ ssetV v = some S ∧ cmpop .eq w S = some z4) : runFn cf ⟨1, 3, b21⟩ [v] s = .ok (.bl (z1 && z2 && z3 && z4)) s := by
  rw [b21_eq]
  subst h1
  by_cases l1 : 1 ≤ L
  · by_cases l2 : L ≤ 200
    · have zt : (decide (1 ≤ L) && decide (L ≤ 200)) = true := by simp [l1, l2]
      obtain ⟨f1, f2⟩ := e2 zt
      cases z2 with
      | false => simp [-ev_comp, runFn, e0, e1, l1, l2, f1, f2]
      | true =>
        obtain ⟨f3, f4⟩ := e3 zt rfl
        cases z3 with
        | false => simp [-ev_comp, runFn, e0, e1, l1, l2, f1, f2, f3, f4]
        | true =>
          obtain ⟨f5, f6, f7⟩ := e4 zt rfl rfl
          simp [-ev_comp, runFn, e0, e1, l1, l2, f1, f2, f3, f4, f5, f6, f7]
    · simp [-ev_comp, runFn, e0, e1, l1, l2]
  · simp [-ev_comp, runFn, e0, e1, l1]
def isS : PV → Bool
  | .str _ => true
  | _ => false
theorem isS_form {v : PV} (h : isS v = true) : ∃ x, v = .str x := by
  cases v <;> first | exact ⟨_, rfl⟩ | cases h
theorem sort3 (v : PV) (h : isD v = true) : cmpop .ne (.int (sortOf v)) (.int 3) = some (!isS v) := by
  cases v <;> first | rfl | cases h
theorem wordB_eq (x : List Nat) : wordB 1 12 [35, 46] x = ((decide ((1 : Int) ≤ (x.length : Int)) && decide ((x.length : Int) ≤ 12)) && x.all fun c => [35, 46].contains c) := by
  have e : (decide ((1 : Int) ≤ (x.length : Int)) && decide ((x.length : Int) ≤ 12)) = (decide (1 ≤ x.length) && decide (x.length ≤ 12)) := lenI x.length 1 12
  unfold wordB
  rw [e]
theorem bad_ok (cf : CF) (x x0 : List Nat) (r : List PV) (r2 : Option PV) (s : Store) (hx : x.length ≤ 1000) (hx0 : x0.length ≤ 1000) :
    ev cf (.or (.not (.chain .le .le (.con (.int 1)) (.blt .len (.cons (.var 1) .nil)) (.con (.int 12)))) (.or (.cmp .ne (.blt .len (.cons (.var 1) .nil)) (.blt .len (.cons (.sub (.var 0) (.con (.int 0))) .nil))) (.cmp .ne c21_1 (.lst .nil)))) [some (.tup (.str x0 :: r)), some (.str x), r2] s = .ok (.bl (!(wordV (.str x) && (x.length == x0.length)))) s := by
  have ly := o_lenS (x := x) (by omega)
  have lx := o_lenS (x := x0) (by omega)
  have q : cmpop .ne (.int (x.length : Int)) (.int (x0.length : Int)) = some (!(x.length == x0.length)) := by
    have := eqL x.length x0.length
    show some (!((x.length : Int) == (x0.length : Int))) = _
    have e : ((x.length : Int) == (x0.length : Int)) = (x.length == x0.length) := Option.some.inj this
    rw [e]
  have cm : ev cf c21_1 [some (.tup (.str x0 :: r)), some (.str x), r2] s = .ok (.lst ((x.filter fun c => ![35, 46].contains c).map fun c => .str [c])) s := by
    have := comp_filter (cf := cf) (vs := [2]) (t := .name 2) (it := .seq (.var 1)) (c := .cmp .notIn (.var 2) (.con (.str [35, 46]))) (e := .var 2) (r := [some (.tup (.str x0 :: r)), some (.str x), r2]) (s := s) (xs := x.map fun c => .str [c])
      (p := fun v => match v with | .str [c] => ![35, 46].contains c | _ => false) (g := fun v => v) rfl (fun v hv => by
        obtain ⟨d, hd, rfl⟩ := List.mem_map.mp hv
        refine ⟨_, rfl, ?_, fun _ => by simp [PyI.wipe]⟩
        have q : cmpop .notIn (.str [d]) (.str [35, 46]) = some (![35, 46].contains d) := by
          show some (!(isSub [d] [35, 46])) = _
          rw [isSub_one]
        show _ = Res.ok (PV.bl (![35, 46].contains d)) s
        generalize (![35, 46].contains d) = bb at q
        simp [PyI.wipe, q]) (by rw [List.length_map]; omega)
    rw [List.map_id', List.filter_map] at this
    exact this
  have ne := o_neNilL (xs := (x.filter fun c => ![35, 46].contains c).map fun c => PV.str [c]) (isDs_strs (fun c => [c]) _) (by rw [depths_strs (fun c => [c])]; omega)
  rw [List.isEmpty_map, filter_empty] at ne
  have e2 : (x.all fun c => !!([35, 46] : List Nat).contains c) = x.all fun c => ([35, 46] : List Nat).contains c := by congr 1; funext c; simp
  rw [e2] at ne
  show _ = Res.ok (PV.bl (!(wordB 1 12 [35, 46] x && (x.length == x0.length)))) s
  rw [wordB_eq]
  generalize (x.all fun c => ([35, 46] : List Nat).contains c) = za at ne
  generalize ((x.filter fun c => !([35, 46] : List Nat).contains c).map fun c => PV.str [c]) = fl at cm ne
  generalize (x.length == x0.length) = zl at q
  generalize (x.length : Int) = X at ly q
  generalize (x0.length : Int) = X0 at lx q
  by_cases l1 : 1 ≤ X
  · by_cases l2 : X ≤ 12
    · cases zl with
      | false => simp [-ev_comp, -o_neI, ly, lx, q, l1, l2]
      | true => cases za <;> simp [-ev_comp, -o_neI, ly, lx, q, l1, l2, cm, ne]
    · simp [-ev_comp, -o_neI, ly, lx, q, l1, l2]
  · simp [-ev_comp, -o_neI, ly, lx, q, l1]
theorem code_eq (xs : List PV) : codeB (.tup xs) = (lenB 1 200 (.tup xs) && xs.all isS && (match xs with | x0 :: _ => xs.all fun x => wordV x && (lenOf x == lenOf x0) | [] => true) && rising (xs.map strOf)) := by
  show (lenB 1 200 (.tup xs) && xs.all wordV && sameLen xs && rising (xs.map strOf)) = _
  cases xs with
  | nil => simp [lenB]
  | cons x0 r =>
    show (lenB 1 200 _ && (x0 :: r).all wordV && ((x0 :: r).all fun y => lenOf y == lenOf x0) && _) = (lenB 1 200 _ && (x0 :: r).all isS && ((x0 :: r).all fun x => wordV x && (lenOf x == lenOf x0)) && _)
    rw [Bool.eq_iff_iff]
    simp only [Bool.and_eq_true, List.all_eq_true]
    constructor
    · rintro ⟨⟨⟨a, b⟩, c⟩, d⟩
      refine ⟨⟨⟨a, fun x hx => ?_⟩, fun x hx => ⟨b x hx, c x hx⟩⟩, d⟩
      obtain ⟨y, rfl, _⟩ := wordV_form (b x hx)
      rfl
    · rintro ⟨⟨⟨a, _⟩, c⟩, d⟩
      exact ⟨⟨⟨a, fun x hx => (c x hx).1⟩, fun x hx => (c x hx).2⟩, d⟩
theorem lawcode_ok (k : Nat) (v : PV) (s : Store) (h : Ok v) : C (k + 2) 21 [v] s = .ok (.bl (codeB v)) s := by
  show runFn (C (k + 1)) ⟨1, 3, b21⟩ _ s = _
  by_cases hs : ∃ xs, v = .tup xs
  · obtain ⟨xs, rfl⟩ := hs
    obtain ⟨h1, h2, hD, hdp⟩ := h.tup
    rw [code_eq]
    have z1e : lenB 1 200 (.tup xs) = (decide ((1 : Int) ≤ (xs.length : Int)) && decide ((xs.length : Int) ≤ 200)) := (lenI xs.length 1 200).symm
    refine law21_gen (l0 := xs.filter fun x => !isS x) (l1 := xs.filter fun x => !(match xs with | x0 :: _ => wordV x && (lenOf x == lenOf x0) | [] => true)) (L := xs.length) (w := .lst xs) (S := .lst ((dedS (sortS (xs.map strOf))).map .str)) rfl rfl z1e (fun _ => ⟨?_, ?_⟩) (fun w1 w2 => ⟨?_, ?_⟩) (fun w1 w2 w3 => ⟨rfl, ?_, ?_⟩)
    · have := comp_filter (cf := C (k + 1)) (vs := [1]) (t := .name 1) (it := .seq (.var 0)) (c := .cmp .ne (.call 12 (.cons (.var 1) .nil)) (.con (.int 3))) (e := .var 1) (r := [some (.tup xs), none, none]) (s := s) (xs := xs) (p := fun x => !isS x) (g := fun v => v) rfl (fun x hx => by
        refine ⟨_, rfl, ?_, fun _ => by simp [PyI.wipe]⟩
        have a := sortOk k x (h2 x hx).d s
        have q := sort3 x (h2 x hx).d
        generalize sortOf x = so at a q
        generalize (!isS x) = bb at q
        simp [-o_neI, PyI.wipe, a, q]) (by omega)
      rw [List.map_id'] at this
      exact this
    · rw [len_filter_no _ xs hD (by omega)]
      have : (xs.all fun x => !!isS x) = xs.all isS := by congr 1; funext x; simp
      rw [this]
    · cases xs with
      | nil => simp [lenB] at w1
      | cons x0 r =>
        obtain ⟨y0, rfl⟩ := isS_form (all_mem w2 (List.mem_cons_self))
        have l0 := (h2 _ List.mem_cons_self).str
        have := comp_filter (cf := C (k + 1)) (vs := [1]) (t := .name 1) (it := .seq (.var 0)) (c := .or (.not (.chain .le .le (.con (.int 1)) (.blt .len (.cons (.var 1) .nil)) (.con (.int 12)))) (.or (.cmp .ne (.blt .len (.cons (.var 1) .nil)) (.blt .len (.cons (.sub (.var 0) (.con (.int 0))) .nil))) (.cmp .ne c21_1 (.lst .nil)))) (e := .var 1) (r := [some (.tup (.str y0 :: r)), none, none]) (s := s) (xs := .str y0 :: r) (p := fun x => !(wordV x && (lenOf x == lenOf (.str y0)))) (g := fun v => v) rfl (fun x hx => by
          obtain ⟨y, rfl⟩ := isS_form (all_mem w2 hx)
          exact ⟨_, rfl, bad_ok (C (k + 1)) y y0 r none s (h2 _ hx).str l0, fun _ => by simp [PyI.wipe]⟩) (by omega)
        rw [List.map_id'] at this
        exact this
    · rw [len_filter_no _ xs hD (by omega)]
      cases xs with
      | nil => rfl
      | cons x0 r =>
        show some (!((x0 :: r).all fun x => !!(wordV x && (lenOf x == lenOf x0)))) = _
        have : ((x0 :: r).all fun x => !!(wordV x && (lenOf x == lenOf x0))) = (x0 :: r).all fun x => wordV x && (lenOf x == lenOf x0) := by congr 1; funext x; simp
        rw [this]
    · have e := strs_of (xs := xs) fun x hx => isS_form (all_mem w2 hx)
      have := sset_tup (xs := xs.map strOf) (by
        rw [List.length_map]
        have w1 : (decide (1 ≤ xs.length) && decide (xs.length ≤ 200)) = true := w1
        rw [Bool.and_eq_true, decide_eq_true_eq, decide_eq_true_eq] at w1
        omega)
      rw [← e] at this
      exact this
    · have e := strs_of (xs := xs) fun x hx => isS_form (all_mem w2 hx)
      have := eq_sset (xs.map strOf)
      rw [← e] at this
      exact this
  · have it := not_tup h.d hs
    have : codeB v = false := by
      cases v <;> first | rfl | exact absurd ⟨_, rfl⟩ hs
    rw [this]
    simp [-ev_comp, runFn, b21_eq, it]
end K18

set_option maxRecDepth 100000
set_option maxHeartbeats 4000000
/-! L18c: crossings. -/
namespace K18
open PyI
theorem range2_nat (m n : Nat) (h : m ≤ 1000000) (h2 : n ≤ 1000000) : range2op (.int (m : Int)) (.int (n : Int)) = some (rangeL m (n - m)) := by
  show (if lim62 (m : Int) && lim62 (n : Int) then some (rangeL (m : Int) ((n : Int) - (m : Int)).toNat) else none) = _
  rw [if_pos (by rw [lim62_of (by omega) (by omega), lim62_of (by omega) (by omega)]; rfl)]
  congr 2
  omega
theorem rangeL_r : ∀ (m k : Nat), rangeL (k : Int) m = (List.range' k m).map fun i : Nat => PV.int (i : Int)
  | 0, _ => rfl
  | m + 1, k => by
    show PV.int (k : Int) :: rangeL ((k : Int) + 1) m = PV.int (k : Int) :: (List.range' (k + 1) m).map fun i : Nat => PV.int (i : Int)
    rw [show ((k : Int) + 1) = ((k + 1 : Nat) : Int) by omega, rangeL_r m (k + 1)]
theorem rg1 (n : Nat) (h : n ≤ 1000) : range2op (.int 1) (.int (n : Int)) = some ((List.range' 1 (n - 1)).map fun i : Nat => PV.int (i : Int)) := (range2_nat 1 n (by omega) (by omega)).trans (congrArg some (rangeL_r (n - 1) 1))
theorem evI_r2 {cf : CF} {a b : E} {r : Env} {s : Store} {M N : Int} {xs : List PV} (h1 : ev cf a r s = .ok (.int M) s) (h2 : ev cf b r s = .ok (.int N) s) (rg : range2op (.int M) (.int N) = some xs) : evI cf (.range2 a b) r s = .ok xs s := by
  simp [h1, h2, rg]
theorem ev_len {cf : CF} {i : Nat} {x : PV} {r : Env} {s : Store} {L : PV} (hi : r[i]? = some (some x)) (len : blt1 .len x = some L) : ev cf (.blt .len (.cons (.var i) .nil)) r s = .ok L s := by
  simp [hi, len]
theorem enumL_r (f : Nat → PV) : ∀ (m k : Nat), enumL (k : Int) ((List.range' k m).map f) = (List.range' k m).map fun i : Nat => PV.tup [.int (i : Int), f i]
  | 0, _ => rfl
  | m + 1, k => by
    show PV.tup [.int (k : Int), f k] :: enumL ((k : Int) + 1) ((List.range' (k + 1) m).map f) = PV.tup [.int (k : Int), f k] :: (List.range' (k + 1) m).map fun i : Nat => PV.tup [.int (i : Int), f i]
    rw [show ((k : Int) + 1) = ((k + 1 : Nat) : Int) by omega, enumL_r f m (k + 1)]
def mid (a b : List Nat) (i : Nat) : List Nat := ((a ++ b).drop i).take a.length
abbrev Tr := List Nat × List Nat × Nat
def crossP (cs : List (List Nat)) (n : Nat) (a b : List Nat) : List Tr := ((List.range' 1 (n - 1)).filter fun i => cs.contains (mid a b i)).map fun i => (a, b, i)
def crossL (n : Nat) (cs : List (List Nat)) : List Tr := cs.flatMap fun a => cs.flatMap fun b => crossP cs n a b
def trV (t : Tr) : PV := .tup [.str t.1, .str t.2.1, .int (t.2.2 : Int)]
def cdV (cs : List (List Nat)) : PV := .tup (cs.map .str)
/-- words of one length -/
structure Ws (n : Nat) (cs : List (List Nat)) : Prop where
  n1 : 1 ≤ n
  n2 : n ≤ 12
  wd : ∀ c ∈ cs, c.length = n ∧ HD c
theorem mid_sl {a b : List Nat} {i : Nat} (h : a.length ≤ 12) (hb : b.length ≤ 12) : slV (.str (a ++ b)) (some (i : Int)) (some ((i : Int) + (a.length : Int))) = some (.str (mid a b i)) := by
  rw [show ((i : Int) + (a.length : Int)) = ((i + a.length : Nat) : Int) by omega, slS_mid i (i + a.length) (by rw [List.length_append]; show _ ≤ 16777216; omega)]
  rw [show i + a.length - i = a.length by omega]
  rfl
theorem across_e {cf : CF} {r0 r1 : Option PV} {both x : List Nat} {i N : Int} {s : Store} (h : slV (.str both) (some i) (some (i + N)) = some (.str x)) : ev cf (.slice (.var 2) (.var 4) (.bin .add (.var 4) (.var 3))) [r0, r1, some (.str both), some (.int N), some (.int i)] s = .ok (.str x) s := by
  simp [h, partOf]
theorem across_gen {cf : CF} {a b both : PV} {N : Int} {l : PV} {s : Store} (e1 : binop .add a b = some both) (e2 : blt1 .len a = some (.int N)) (e3 : ev cf c6_0 [some a, some b, some both, some (.int N), none] s = .ok l s) : runFn cf ⟨2, 5, b6⟩ [a, b] s = .ok l s := by
  rw [b6_eq]
  have z2 : 2 ≤ SZ := by decide
  simp [-ev_comp, runFn, e1, e2, e3, z2]
theorem across_ok (k : Nat) (a b : List Nat) (s : Store) (h : a.length ≤ 12) (hb : b.length ≤ 12) : C (k + 1) 6 [.str a, .str b] s = .ok (.lst ((List.range' 1 (a.length - 1)).map fun i => .str (mid a b i))) s := by
  show runFn (C k) ⟨2, 5, b6⟩ _ s = _
  refine across_gen (o_addS' (by omega) (by omega)) (o_lenS (by omega)) ?_
  have eI : evI (C k) (.range2 (.con (.int 1)) (.var 3)) [some (.str a), some (.str b), some (.str (a ++ b)), some (.int (a.length : Int)), none] s = .ok ((List.range' 1 (a.length - 1)).map fun i : Nat => PV.int (i : Int)) s := evI_r2 rfl rfl (rg1 a.length (by omega))
  have := comp_map (cf := C k) (vs := [4]) (t := .name 4) (e := .slice (.var 2) (.var 4) (.bin .add (.var 4) (.var 3))) (g := fun v => match v with | .int i => .str (mid a b i.toNat) | _ => .non) eI (fun v hv => by
    obtain ⟨i, hi, rfl⟩ := List.mem_map.mp hv
    exact ⟨_, rfl, across_e (mid_sl (a := a) (b := b) (i := i) h hb)⟩) (by rw [List.length_map, List.length_range']; omega)
  rw [List.map_map] at this
  exact this
/-! ### the words, as keys of a dict -/
def dicV (cs : List (List Nat)) : PV := .dct (cs.map .str) (cs.map fun _ => .bl true)
theorem pairs_words : ∀ cs : List (List Nat), pairsL (cs.map fun c => .tup [.str c, .bl true]) = some (cs.map fun c => (Ky.str c, PV.bl true))
  | [] => rfl
  | c :: cs => by
    show (pairsL (cs.map fun c => .tup [.str c, .bl true])).map _ = _
    rw [pairs_words cs]
    rfl
theorem mem_ky {x : List Nat} {cs : List (List Nat)} : Ky.str x ∈ cs.map Ky.str ↔ x ∈ cs := by
  constructor
  · intro h
    obtain ⟨y, hy, e⟩ := List.mem_map.mp h
    injection e with e
    rw [← e]; exact hy
  · exact fun h => List.mem_map.mpr ⟨x, h, rfl⟩
theorem once_words : ∀ {cs : List (List Nat)}, cs.Nodup → onceB (cs.map .str) = true
  | [], _ => rfl
  | c :: cs, h => by
    obtain ⟨h1, h2⟩ := List.nodup_cons.mp h
    show (!decide (Ky.str c ∈ cs.map Ky.str) && onceB (cs.map .str)) = true
    rw [once_words h2, decide_eq_false (fun z => h1 (mem_ky.mp z))]
    rfl
theorem dict_words {cs : List (List Nat)} (h : cs.Nodup) (hl : cs.length ≤ 1000) : dictV (.lst (cs.map fun c => .tup [.str c, .bl true])) = some (dicV cs) := by
  show (pairsL (cs.map fun c => .tup [.str c, .bl true])).bind _ = _
  rw [pairs_words]
  show (if (onceB ((cs.map fun c => (Ky.str c, PV.bl true)).map (·.1)) && decide ((cs.map fun c => (Ky.str c, PV.bl true)).length ≤ 1000)) = true then some (PV.dct ((cs.map fun c => (Ky.str c, PV.bl true)).map (·.1)) ((cs.map fun c => (Ky.str c, PV.bl true)).map (·.2))) else none) = _
  rw [List.map_map, List.map_map, List.length_map]
  have e : onceB (cs.map ((fun x : Ky × PV => x.1) ∘ fun c => (Ky.str c, PV.bl true))) = true := once_words h
  rw [e, decide_eq_true hl]
  rfl
theorem in_words (x : List Nat) (cs : List (List Nat)) : cmpop .in_ (.str x) (dicV cs) = some (cs.contains x) := by
  show some (decide (Ky.str x ∈ cs.map Ky.str)) = _
  congr 1
  rw [Bool.eq_iff_iff, decide_eq_true_eq, mem_ky]
  simp
theorem in_tup (x : List Nat) (cs : List (List Nat)) : cmpop .in_ (.str x) (cdV cs) = some (cs.contains x) := by
  have d := isDs_strs (fun x => x) cs
  have e := depths_strs (fun x => x) cs
  show (if isD (.str x) && isDs (cs.map .str) && decide (depth (.str x) ≤ 40) && decide (depths (cs.map .str) ≤ 40) then some (isIn (.str x) (cs.map .str)) else none) = _
  rw [d, e, isIn_strs]
  rfl
theorem rising_nodup {cs : List (List Nat)} (h : rising cs = true) : cs.Nodup := List.Pairwise.imp (fun {a b} (q : a < b) (e : a = b) => M3.lt_irr (e ▸ q)) (M3.rising_pw.mp h)
/-! ### the program's crossings -/
theorem crossP_len (cs : List (List Nat)) (n : Nat) (a b : List Nat) : (crossP cs n a b).length ≤ n - 1 := by
  unfold crossP
  rw [List.length_map]
  have := List.length_filter_le (fun i => cs.contains (mid a b i)) (List.range' 1 (n - 1))
  rw [List.length_range'] at this
  exact this
theorem all_comp (k : Nat) {n : Nat} {cs : List (List Nat)} (h : Ws n cs) {a b : List Nat} (ha : a ∈ cs) (hb : b ∈ cs) (r0 r3 r5 r6 : Option PV) (s : Store) : ev (C (k + 1)) c7_1 [r0, some (.str a), some (dicV cs), r3, some (.str b), r5, r6] s = .ok (.lst ((crossP cs n a b).map trV)) s := by
  have n2 := h.n2
  obtain ⟨la, _⟩ := h.wd a ha
  obtain ⟨lb, _⟩ := h.wd b hb
  have ac := across_ok k a b s (by omega) (by omega)
  rw [la] at ac
  have eI : evI (C (k + 1)) (.enum2 (.call 6 (.cons (.var 1) (.cons (.var 4) .nil))) (.con (.int 1))) [r0, some (.str a), some (dicV cs), r3, some (.str b), r5, r6] s = .ok ((List.range' 1 (n - 1)).map fun i : Nat => PV.tup [.int (i : Int), .str (mid a b i)]) s := by
    have e := enumL_r (fun i => PV.str (mid a b i)) (n - 1) 1
    have e : enumL 1 ((List.range' 1 (n - 1)).map fun i => PV.str (mid a b i)) = _ := e
    rw [← e]
    generalize ((List.range' 1 (n - 1)).map fun i => PV.str (mid a b i)) = L at ac ⊢
    have l1 : lim62 1 = true := by decide
    simp [ac, itemsOf, l1]
  have := comp_filter (cf := C (k + 1)) (vs := [6, 5]) (t := .tup (.cons (.name 6) (.cons (.name 5) .nil))) (c := .cmp .in_ (.var 5) (.var 2)) (e := .tup (.cons (.var 1) (.cons (.var 4) (.cons (.var 6) .nil)))) (p := fun v => match v with | .tup [_, .str x] => cs.contains x | _ => false) (g := fun v => match v with | .tup [i, _] => .tup [.str a, .str b, i] | _ => .non) eI (fun v hv => by
    obtain ⟨i, hi, rfl⟩ := List.mem_map.mp hv
    have q := in_words (mid a b i) cs
    refine ⟨_, rfl, ?_, fun _ => ?_⟩
    · show _ = Res.ok (PV.bl (cs.contains (mid a b i))) s
      generalize cs.contains (mid a b i) = bb at q
      simp [PyI.wipe, q]
    · show _ = Res.ok (PV.tup [.str a, .str b, .int (i : Int)]) s
      generalize (i : Int) = j
      simp [PyI.wipe, show 3 ≤ SZ by decide]) (by rw [List.length_map, List.length_range']; omega)
  rw [List.filter_map, List.map_map] at this
  unfold crossP
  rw [List.map_map]
  exact this
theorem all_in (k : Nat) {n : Nat} {cs : List (List Nat)} (h : Ws n cs) {a : List Nat} (ha : a ∈ cs) (r0 r5 r6 : Option PV) (s : Store) : ∀ (bs : List (List Nat)) (acc : List PV) (r4 : Option PV), (∀ b ∈ bs, b ∈ cs) → acc.length + 11 * bs.length ≤ 100000 →
    ∃ q4, forL (fun x r s => (Res.ofO (asg (.name 4) x r) s).bind fun r s => exs (C (k + 1)) y7_0 r s) (bs.map .str) [r0, some (.str a), some (dicV cs), some (.lst acc), r4, r5, r6] s = .ok (.next [r0, some (.str a), some (dicV cs), some (.lst (acc ++ (bs.flatMap fun b => crossP cs n a b).map trV)), q4, r5, r6]) s
  | [], acc, r4, _, _ => ⟨r4, by rw [List.map_nil, forL_nil, List.flatMap_nil, List.map_nil, List.append_nil]⟩
  | b :: bs, acc, r4, hb, hl => by
    rw [List.length_cons] at hl
    have n2 := h.n2
    have cm := all_comp k h ha (hb b List.mem_cons_self) r0 (some (.lst acc)) r5 r6 s
    have cl := crossP_len cs n a b
    have ad := o_addL' (x := acc) (y := (crossP cs n a b).map trV) (by omega) (by rw [List.length_map]; omega)
    have st : exs (C (k + 1)) y7_0 [r0, some (.str a), some (dicV cs), some (.lst acc), some (.str b), r5, r6] s = .ok (.next [r0, some (.str a), some (dicV cs), some (.lst (acc ++ (crossP cs n a b).map trV)), some (.str b), r5, r6]) s := by
      generalize (crossP cs n a b).map trV = L at cm ad
      simp [-ev_comp, -o_addL, y7_0, cm, ad]
    obtain ⟨q4, ih⟩ := all_in k h ha r0 r5 r6 s bs (acc ++ (crossP cs n a b).map trV) (some (.str b)) (fun c hc => hb c (List.mem_cons_of_mem _ hc)) (by rw [List.length_append, List.length_map]; omega)
    refine ⟨q4, ?_⟩
    rw [List.map_cons, forL_cons, show asg (.name 4) (.str b) [r0, some (.str a), some (dicV cs), some (.lst acc), r4, r5, r6] = some [r0, some (.str a), some (dicV cs), some (.lst acc), some (.str b), r5, r6] from rfl, Res.ofO_some, Res.bind_ok, st, Res.bind_ok]
    show forL _ _ _ s = _
    rw [ih, List.flatMap_cons, List.map_append, List.append_assoc]
theorem flat_len (cs : List (List Nat)) (n : Nat) (a : List Nat) : ∀ bs : List (List Nat), (bs.flatMap fun b => crossP cs n a b).length ≤ (n - 1) * bs.length
  | [] => by simp
  | b :: bs => by
    rw [List.flatMap_cons, List.length_append, List.length_cons]
    have h1 := crossP_len cs n a b
    have h2 := flat_len cs n a bs
    rw [Nat.mul_succ]
    omega
theorem all_out (k : Nat) {n : Nat} {cs : List (List Nat)} (h : Ws n cs) (hz : cs.length ≤ 40) (r5 r6 : Option PV) (s : Store) : ∀ (as : List (List Nat)) (acc : List PV) (r1 r4 : Option PV), (∀ a ∈ as, a ∈ cs) → acc.length + 440 * as.length ≤ 90000 →
    ∃ q1 q4, forL (fun x r s => (Res.ofO (asg (.name 1) x r) s).bind fun r s => exs (C (k + 1)) y7_1 r s) (as.map .str) [some (cdV cs), r1, some (dicV cs), some (.lst acc), r4, r5, r6] s = .ok (.next [some (cdV cs), q1, some (dicV cs), some (.lst (acc ++ (as.flatMap fun a => cs.flatMap fun b => crossP cs n a b).map trV)), q4, r5, r6]) s
  | [], acc, r1, r4, _, _ => ⟨r1, r4, by rw [List.map_nil, forL_nil, List.flatMap_nil, List.map_nil, List.append_nil]⟩
  | a :: as, acc, r1, r4, ha, hl => by
    rw [List.length_cons] at hl
    have n2 := h.n2
    obtain ⟨q4, lp⟩ := all_in k h (ha a List.mem_cons_self) (some (cdV cs)) r5 r6 s cs acc r4 (fun _ hb => hb) (by omega)
    have fl := flat_len cs n a cs
    have fl2 : (cs.flatMap fun b => crossP cs n a b).length ≤ 440 := Nat.le_trans fl (Nat.le_trans (Nat.mul_le_mul (show n - 1 ≤ 11 by omega) hz) (by omega))
    have st : exs (C (k + 1)) y7_1 [some (cdV cs), some (.str a), some (dicV cs), some (.lst acc), r4, r5, r6] s = .ok (.next [some (cdV cs), some (.str a), some (dicV cs), some (.lst (acc ++ (cs.flatMap fun b => crossP cs n a b).map trV)), q4, r5, r6]) s := by
      have lp2 : ex (C (k + 1)) s7_0 [some (cdV cs), some (.str a), some (dicV cs), some (.lst acc), r4, r5, r6] s = .ok (.next [some (cdV cs), some (.str a), some (dicV cs), some (.lst (acc ++ (cs.flatMap fun b => crossP cs n a b).map trV)), q4, r5, r6]) s := by
        unfold s7_0
        rw [ex_for_]
        exact lp
      simp [-ex_for_, y7_1, lp2]
    obtain ⟨q1, p4, ih⟩ := all_out k h hz r5 r6 s as (acc ++ (cs.flatMap fun b => crossP cs n a b).map trV) (some (.str a)) q4 (fun c hc => ha c (List.mem_cons_of_mem _ hc)) (by rw [List.length_append, List.length_map]; omega)
    refine ⟨q1, p4, ?_⟩
    rw [List.map_cons, forL_cons, show asg (.name 1) (.str a) [some (cdV cs), r1, some (dicV cs), some (.lst acc), r4, r5, r6] = some [some (cdV cs), some (.str a), some (dicV cs), some (.lst acc), r4, r5, r6] from rfl, Res.ofO_some, Res.bind_ok, st, Res.bind_ok]
    show forL _ _ _ s = _
    rw [ih, List.flatMap_cons, List.map_append, List.append_assoc]
theorem pair_comp {cf : CF} {cs : List (List Nat)} {i : Nat} {r : Env} {s : Store} (hi : r[0]? = some (some (cdV cs))) (hl : cs.length ≤ 1000) (hw : ∀ v : PV, ∃ r1, asg (.name i) v (wipe r [i]) = some r1 ∧ r1[i]? = some (some v)) : ev cf (.comp [i] (.name i) (.seq (.var 0)) (.con (.bl true)) (.tup (.cons (.var i) (.cons (.con (.bl true)) .nil)))) r s = .ok (.lst (cs.map fun c => .tup [.str c, .bl true])) s := by
  have eI : evI cf (.seq (.var 0)) r s = .ok (cs.map .str) s := by
    simp [hi, cdV, itemsOf]
  have := comp_map (cf := cf) (vs := [i]) (t := .name i) (e := .tup (.cons (.var i) (.cons (.con (.bl true)) .nil))) (g := fun v => .tup [v, .bl true]) eI (fun v hv => by
    obtain ⟨r1, h1, h2⟩ := hw v
    exact ⟨r1, h1, by simp [h2, show 2 ≤ SZ by decide]⟩) (by rw [List.length_map]; omega)
  rw [List.map_map] at this
  exact this
theorem all_gen {cf : CF} {code d pl : PV} {L : List PV} {q1 q4 : Option PV} {s : Store} (e1 : ev cf c7_0 [some code, none, none, none, none, none, none] s = .ok pl s) (e2 : dictV pl = some d) (lp : ex cf s7_1 [some code, none, some d, some (.lst []), none, none, none] s = .ok (.next [some code, q1, some d, some (.lst L), q4, none, none]) s) : runFn cf ⟨1, 7, b7⟩ [code] s = .ok (.lst L) s := by
  rw [b7_eq]
  have z2 : 2 ≤ SZ := by decide
  have z0 : 0 ≤ SZ := by decide
  simp [-ev_comp, -ex_for_, runFn, e1, e2, lp, z2, z0]
theorem allcross_ok (k : Nat) {n : Nat} {cs : List (List Nat)} (h : Ws n cs) (hn : cs.Nodup) (hz : cs.length ≤ 40) (s : Store) : C (k + 2) 7 [cdV cs] s = .ok (.lst ((crossL n cs).map trV)) s := by
  show runFn (C (k + 1)) ⟨1, 7, b7⟩ _ s = _
  obtain ⟨q1, q4, lp⟩ := all_out k h hz none none s cs [] none none (fun _ ha => ha) (by simp; omega)
  refine all_gen (q1 := q1) (q4 := q4) (pair_comp rfl (by omega) fun v => ⟨_, rfl, rfl⟩) (dict_words hn (by omega)) ?_
  unfold s7_1
  rw [ex_for_]
  exact lp
theorem needcode_ok (k : Nat) (v : PV) (s : Store) (h : Ok v) (hc : codeB v = true) : C (k + 3) 5 [v] s = .ok .non s := by
  show runFn (C (k + 2)) ⟨1, 1, b5⟩ _ s = _
  have a := fitscode_ok k v s h
  rw [hc] at a
  simp [runFn, b5, a]
theorem crossings_ok (k : Nat) {n : Nat} {cs : List (List Nat)} (h : Ws n cs) (hn : cs.Nodup) (hz : cs.length ≤ 40) (hk : Ok (cdV cs)) (hc : codeB (cdV cs) = true) (s : Store) : C (k + 4) 8 [cdV cs] s = .ok (.tup ((crossL n cs).map trV)) s := by
  show runFn (C (k + 3)) ⟨1, 1, b8⟩ _ s = _
  have a1 := needcode_ok k (cdV cs) s hk hc
  have a2 := allcross_ok (k + 1) h hn hz s
  simp [runFn, b8, a1, a2]
/-! ### the law's -/
theorem law_comp (cf : CF) {n : Nat} {cs : List (List Nat)} (h : Ws n cs) {a b : List Nat} (ha : a ∈ cs) (hb : b ∈ cs) (r1 r5 : Option PV) (s : Store) : ev cf c20_0 [some (cdV cs), r1, some (.str a), some (.str b), some (.str (a ++ b)), r5] s = .ok (.lst ((crossP cs n a b).map trV)) s := by
  have n2 := h.n2
  obtain ⟨la, _⟩ := h.wd a ha
  obtain ⟨lb, _⟩ := h.wd b hb
  have ln := o_lenS (x := a) (by omega)
  have eI : evI cf (.range2 (.con (.int 1)) (.blt .len (.cons (.var 2) .nil))) [some (cdV cs), r1, some (.str a), some (.str b), some (.str (a ++ b)), r5] s = .ok ((List.range' 1 (n - 1)).map fun i : Nat => PV.int (i : Int)) s := by
    have rg := rg1 a.length (by omega)
    rw [la] at rg
    exact evI_r2 rfl (by rw [← la]; exact ev_len rfl ln) rg
  have := comp_filter (cf := cf) (vs := [5]) (t := .name 5) (c := .cmp .in_ (.slice (.var 4) (.var 5) (.bin .add (.var 5) (.blt .len (.cons (.var 2) .nil)))) (.var 0)) (e := .tup (.cons (.var 2) (.cons (.var 3) (.cons (.var 5) .nil)))) (p := fun v => match v with | .int i => cs.contains (mid a b i.toNat) | _ => false) (g := fun v => .tup [.str a, .str b, v]) eI (fun v hv => by
    obtain ⟨i, hi, rfl⟩ := List.mem_map.mp hv
    have q := in_tup (mid a b i) cs
    have sl := mid_sl (a := a) (b := b) (i := i) (by omega) (by omega)
    refine ⟨_, rfl, ?_, fun _ => ?_⟩
    · show _ = Res.ok (PV.bl (cs.contains (mid a b i))) s
      generalize cs.contains (mid a b i) = bb at q
      generalize (a.length : Int) = N at sl ln
      generalize (i : Int) = j at sl
      simp [PyI.wipe, sl, ln, q, partOf]
    · generalize (i : Int) = j
      simp [PyI.wipe, show 3 ≤ SZ by decide]) (by rw [List.length_map, List.length_range']; omega)
  rw [List.filter_map, List.map_map] at this
  unfold crossP
  rw [List.map_map]
  exact this
theorem law_in (k : Nat) {n : Nat} {cs : List (List Nat)} (h : Ws n cs) {a : List Nat} (ha : a ∈ cs) (r5 : Option PV) (s : Store) : ∀ (bs : List (List Nat)) (acc : List PV) (r3 r4 : Option PV), (∀ b ∈ bs, b ∈ cs) → acc.length + 11 * bs.length ≤ 100000 →
    ∃ q3 q4, forL (fun x r s => (Res.ofO (asg (.name 3) x r) s).bind fun r s => exs (C k) y20_0 r s) (bs.map .str) [some (cdV cs), some (.lst acc), some (.str a), r3, r4, r5] s = .ok (.next [some (cdV cs), some (.lst (acc ++ (bs.flatMap fun b => crossP cs n a b).map trV)), some (.str a), q3, q4, r5]) s
  | [], acc, r3, r4, _, _ => ⟨r3, r4, by rw [List.map_nil, forL_nil, List.flatMap_nil, List.map_nil, List.append_nil]⟩
  | b :: bs, acc, r3, r4, hb, hl => by
    rw [List.length_cons] at hl
    have n2 := h.n2
    have cm := law_comp (C k) h ha (hb b List.mem_cons_self) (some (.lst acc)) r5 s
    have cl := crossP_len cs n a b
    obtain ⟨la, _⟩ := h.wd a ha
    obtain ⟨lb, _⟩ := h.wd b (hb b List.mem_cons_self)
    have ab := o_addS' (x := a) (y := b) (by omega) (by omega)
    have ad := o_addL' (x := acc) (y := (crossP cs n a b).map trV) (by omega) (by rw [List.length_map]; omega)
    have st : exs (C k) y20_0 [some (cdV cs), some (.lst acc), some (.str a), some (.str b), r4, r5] s = .ok (.next [some (cdV cs), some (.lst (acc ++ (crossP cs n a b).map trV)), some (.str a), some (.str b), some (.str (a ++ b)), r5]) s := by
      generalize (crossP cs n a b).map trV = L at cm ad
      generalize a ++ b = ab' at cm ab
      simp [-ev_comp, -o_addL, -o_addS, y20_0, cm, ad, ab]
    obtain ⟨q3, q4, ih⟩ := law_in k h ha r5 s bs (acc ++ (crossP cs n a b).map trV) (some (.str b)) (some (.str (a ++ b))) (fun c hc => hb c (List.mem_cons_of_mem _ hc)) (by rw [List.length_append, List.length_map]; omega)
    refine ⟨q3, q4, ?_⟩
    rw [List.map_cons, forL_cons, show asg (.name 3) (.str b) [some (cdV cs), some (.lst acc), some (.str a), r3, r4, r5] = some [some (cdV cs), some (.lst acc), some (.str a), some (.str b), r4, r5] from rfl, Res.ofO_some, Res.bind_ok, st, Res.bind_ok]
    show forL _ _ _ s = _
    rw [ih, List.flatMap_cons, List.map_append, List.append_assoc]
theorem law_out (k : Nat) {n : Nat} {cs : List (List Nat)} (h : Ws n cs) (hz : cs.length ≤ 40) (r5 : Option PV) (s : Store) : ∀ (as : List (List Nat)) (acc : List PV) (r2 r3 r4 : Option PV), (∀ a ∈ as, a ∈ cs) → acc.length + 440 * as.length ≤ 90000 →
    ∃ q2 q3 q4, forL (fun x r s => (Res.ofO (asg (.name 2) x r) s).bind fun r s => exs (C k) y20_1 r s) (as.map .str) [some (cdV cs), some (.lst acc), r2, r3, r4, r5] s = .ok (.next [some (cdV cs), some (.lst (acc ++ (as.flatMap fun a => cs.flatMap fun b => crossP cs n a b).map trV)), q2, q3, q4, r5]) s
  | [], acc, r2, r3, r4, _, _ => ⟨r2, r3, r4, by rw [List.map_nil, forL_nil, List.flatMap_nil, List.map_nil, List.append_nil]⟩
  | a :: as, acc, r2, r3, r4, ha, hl => by
    rw [List.length_cons] at hl
    have n2 := h.n2
    obtain ⟨q3, q4, lp⟩ := law_in k h (ha a List.mem_cons_self) r5 s cs acc r3 r4 (fun _ hb => hb) (by omega)
    have fl := flat_len cs n a cs
    have fl2 : (cs.flatMap fun b => crossP cs n a b).length ≤ 440 := Nat.le_trans fl (Nat.le_trans (Nat.mul_le_mul (show n - 1 ≤ 11 by omega) hz) (by omega))
    have st : exs (C k) y20_1 [some (cdV cs), some (.lst acc), some (.str a), r3, r4, r5] s = .ok (.next [some (cdV cs), some (.lst (acc ++ (cs.flatMap fun b => crossP cs n a b).map trV)), some (.str a), q3, q4, r5]) s := by
      have lp2 : ex (C k) s20_0 [some (cdV cs), some (.lst acc), some (.str a), r3, r4, r5] s = .ok (.next [some (cdV cs), some (.lst (acc ++ (cs.flatMap fun b => crossP cs n a b).map trV)), some (.str a), q3, q4, r5]) s := by
        unfold s20_0
        rw [ex_for_]
        exact lp
      simp [-ex_for_, y20_1, lp2]
    obtain ⟨q2, p3, p4, ih⟩ := law_out k h hz r5 s as (acc ++ (cs.flatMap fun b => crossP cs n a b).map trV) (some (.str a)) q3 q4 (fun c hc => ha c (List.mem_cons_of_mem _ hc)) (by rw [List.length_append, List.length_map]; omega)
    refine ⟨q2, p3, p4, ?_⟩
    rw [List.map_cons, forL_cons, show asg (.name 2) (.str a) [some (cdV cs), some (.lst acc), r2, r3, r4, r5] = some [some (cdV cs), some (.lst acc), some (.str a), r3, r4, r5] from rfl, Res.ofO_some, Res.bind_ok, st, Res.bind_ok]
    show forL _ _ _ s = _
    rw [ih, List.flatMap_cons, List.map_append, List.append_assoc]
theorem lawcross_ok (k : Nat) {n : Nat} {cs : List (List Nat)} (h : Ws n cs) (hz : cs.length ≤ 40) (s : Store) : C (k + 1) 20 [cdV cs] s = .ok (.tup ((crossL n cs).map trV)) s := by
  show runFn (C k) ⟨1, 6, b20⟩ _ s = _
  obtain ⟨q2, q3, q4, lp⟩ := law_out k h hz none s cs [] none none none (fun _ ha => ha) (by simp; omega)
  have lp2 : ex (C k) s20_1 [some (cdV cs), some (.lst []), none, none, none, none] s = .ok (.next [some (cdV cs), some (.lst ((crossL n cs).map trV)), q2, q3, q4, none]) s := by
    unfold s20_1
    rw [ex_for_]
    exact lp
  rw [b20_eq]
  simp [-ex_for_, runFn, lp2]
end K18

set_option maxRecDepth 100000
set_option maxHeartbeats 4000000
/-! L18d: whether a code shows its beginning. -/
namespace K18
open PyI
def isT (v : PV) : Prop := ∃ xs, v = .tup xs
theorem find_in (k : Nat) (cs : List (List Nat)) (a b : PV) (r0 : Option PV) (s : Store) : ∀ (ws : List (List Nat × Int)) (r4 r5 : Option PV),
    if (ws.any fun w => cs.contains w.1) = true then ∃ v, isT v ∧ forL (fun x r s => (Res.ofO (asg (.tup (.cons (.name 5) (.cons (.name 4) .nil))) x r) s).bind fun r s => exs (C k) y10_0 r s) (ws.map fun w => .tup [.int w.2, .str w.1]) [r0, some (dicV cs), some a, some b, r4, r5] s = .ok (.ret v) s
    else ∃ q4 q5, forL (fun x r s => (Res.ofO (asg (.tup (.cons (.name 5) (.cons (.name 4) .nil))) x r) s).bind fun r s => exs (C k) y10_0 r s) (ws.map fun w => .tup [.int w.2, .str w.1]) [r0, some (dicV cs), some a, some b, r4, r5] s = .ok (.next [r0, some (dicV cs), some a, some b, q4, q5]) s
  | [], r4, r5 => by
    rw [if_neg (by simp)]
    exact ⟨r4, r5, rfl⟩
  | (w, i) :: ws, r4, r5 => by
    have q := in_words w cs
    have ih := find_in k cs a b r0 s ws (some (.str w)) (some (.int i))
    rw [List.any_cons, List.map_cons, forL_cons, show asg (.tup (.cons (.name 5) (.cons (.name 4) .nil))) (.tup [.int i, .str w]) [r0, some (dicV cs), some a, some b, r4, r5] = some [r0, some (dicV cs), some a, some b, some (.str w), some (.int i)] from rfl, Res.ofO_some, Res.bind_ok]
    show if (cs.contains w || _) = true then _ else _
    cases e : cs.contains w with
    | true =>
      rw [e] at q
      rw [Bool.true_or, if_pos rfl]
      refine ⟨.tup [a, b, .int i], ⟨_, rfl⟩, ?_⟩
      have st : exs (C k) y10_0 [r0, some (dicV cs), some a, some b, some (.str w), some (.int i)] s = .ok (.ret (.tup [a, b, .int i])) s := by
        simp [y10_0, q, show 3 ≤ SZ by decide]
      rw [st]
      rfl
    | false =>
      rw [e] at q
      have st : exs (C k) y10_0 [r0, some (dicV cs), some a, some b, some (.str w), some (.int i)] s = .ok (.next [r0, some (dicV cs), some a, some b, some (.str w), some (.int i)]) s := by
        simp [y10_0, q]
      rw [st, Bool.false_or]
      exact ih
theorem mids_any (cs : List (List Nat)) (n : Nat) (a b : List Nat) : (((List.range' 1 (n - 1)).map fun i => ((mid a b i, (i : Int)) : List Nat × Int)).any fun w => cs.contains w.1) = !(crossP cs n a b).isEmpty := by
  unfold crossP
  rw [List.isEmpty_map, filter_empty, List.any_map, List.not_all_eq_any_not]
  congr 1
  funext i
  simp
theorem find_mid (k : Nat) {n : Nat} {cs : List (List Nat)} (h : Ws n cs) {a : List Nat} (ha : a ∈ cs) (r0 : Option PV) (s : Store) : ∀ (bs : List (List Nat)) (r3 r4 r5 : Option PV), (∀ b ∈ bs, b ∈ cs) →
    if (bs.any fun b => !(crossP cs n a b).isEmpty) = true then ∃ v, isT v ∧ forL (fun x r s => (Res.ofO (asg (.name 3) x r) s).bind fun r s => exs (C (k + 1)) y10_1 r s) (bs.map .str) [r0, some (dicV cs), some (.str a), r3, r4, r5] s = .ok (.ret v) s
    else ∃ q3 q4 q5, forL (fun x r s => (Res.ofO (asg (.name 3) x r) s).bind fun r s => exs (C (k + 1)) y10_1 r s) (bs.map .str) [r0, some (dicV cs), some (.str a), r3, r4, r5] s = .ok (.next [r0, some (dicV cs), some (.str a), q3, q4, q5]) s
  | [], r3, r4, r5, _ => by
    rw [if_neg (by simp)]
    exact ⟨r3, r4, r5, rfl⟩
  | b :: bs, r3, r4, r5, hb => by
    have n2 := h.n2
    obtain ⟨la, _⟩ := h.wd a ha
    obtain ⟨lb, _⟩ := h.wd b (hb b List.mem_cons_self)
    have ac := across_ok k a b s (by omega) (by omega)
    rw [la] at ac
    have eI : evI (C (k + 1)) (.enum2 (.call 6 (.cons (.var 2) (.cons (.var 3) .nil))) (.con (.int 1))) [r0, some (dicV cs), some (.str a), some (.str b), r4, r5] s = .ok (((List.range' 1 (n - 1)).map fun i => ((mid a b i, (i : Int)) : List Nat × Int)).map fun w => .tup [.int w.2, .str w.1]) s := by
      have e := enumL_r (fun i => PV.str (mid a b i)) (n - 1) 1
      have e : enumL 1 ((List.range' 1 (n - 1)).map fun i => PV.str (mid a b i)) = _ := e
      rw [List.map_map]
      show _ = Res.ok ((List.range' 1 (n - 1)).map fun i : Nat => PV.tup [.int (i : Int), .str (mid a b i)]) s
      rw [← e]
      generalize ((List.range' 1 (n - 1)).map fun i => PV.str (mid a b i)) = L at ac ⊢
      have l1 : lim62 1 = true := by decide
      simp [ac, itemsOf, l1]
    have fi := find_in (k + 1) cs (.str a) (.str b) r0 s ((List.range' 1 (n - 1)).map fun i => ((mid a b i, (i : Int)) : List Nat × Int)) r4 r5
    rw [mids_any] at fi
    have ih := fun r4 r5 => find_mid k h ha r0 s bs (some (.str b)) r4 r5 fun c hc => hb c (List.mem_cons_of_mem _ hc)
    rw [List.any_cons, List.map_cons, forL_cons, show asg (.name 3) (.str b) [r0, some (dicV cs), some (.str a), r3, r4, r5] = some [r0, some (dicV cs), some (.str a), some (.str b), r4, r5] from rfl, Res.ofO_some, Res.bind_ok]
    cases e : (!(crossP cs n a b).isEmpty) with
    | true =>
      rw [e, if_pos rfl] at fi
      obtain ⟨v, hv, lp⟩ := fi
      rw [Bool.true_or, if_pos rfl]
      refine ⟨v, hv, ?_⟩
      have st : exs (C (k + 1)) y10_1 [r0, some (dicV cs), some (.str a), some (.str b), r4, r5] s = .ok (.ret v) s := by
        have lp2 : ex (C (k + 1)) s10_0 [r0, some (dicV cs), some (.str a), some (.str b), r4, r5] s = .ok (.ret v) s := by
          unfold s10_0
          rw [ex_for_, eI, Res.bind_ok]
          exact lp
        simp [-ex_for_, y10_1, lp2]
      rw [st]
      rfl
    | false =>
      rw [e, if_neg (by decide)] at fi
      obtain ⟨q4, q5, lp⟩ := fi
      have st : exs (C (k + 1)) y10_1 [r0, some (dicV cs), some (.str a), some (.str b), r4, r5] s = .ok (.next [r0, some (dicV cs), some (.str a), some (.str b), q4, q5]) s := by
        have lp2 : ex (C (k + 1)) s10_0 [r0, some (dicV cs), some (.str a), some (.str b), r4, r5] s = .ok (.next [r0, some (dicV cs), some (.str a), some (.str b), q4, q5]) s := by
          unfold s10_0
          rw [ex_for_, eI, Res.bind_ok]
          exact lp
        simp [-ex_for_, y10_1, lp2]
      rw [st, Bool.false_or]
      exact ih q4 q5
theorem find_out (k : Nat) {n : Nat} {cs : List (List Nat)} (h : Ws n cs) (s : Store) : ∀ (as : List (List Nat)) (r2 r3 r4 r5 : Option PV), (∀ a ∈ as, a ∈ cs) →
    if (as.any fun a => cs.any fun b => !(crossP cs n a b).isEmpty) = true then ∃ v, isT v ∧ forL (fun x r s => (Res.ofO (asg (.name 2) x r) s).bind fun r s => exs (C (k + 1)) y10_2 r s) (as.map .str) [some (cdV cs), some (dicV cs), r2, r3, r4, r5] s = .ok (.ret v) s
    else ∃ q2 q3 q4 q5, forL (fun x r s => (Res.ofO (asg (.name 2) x r) s).bind fun r s => exs (C (k + 1)) y10_2 r s) (as.map .str) [some (cdV cs), some (dicV cs), r2, r3, r4, r5] s = .ok (.next [some (cdV cs), some (dicV cs), q2, q3, q4, q5]) s
  | [], r2, r3, r4, r5, _ => by
    rw [if_neg (by simp)]
    exact ⟨r2, r3, r4, r5, rfl⟩
  | a :: as, r2, r3, r4, r5, ha => by
    have fi := find_mid k h (ha a List.mem_cons_self) (some (cdV cs)) s cs r3 r4 r5 fun _ hb => hb
    have ih := fun r3 r4 r5 => find_out k h s as (some (.str a)) r3 r4 r5 fun c hc => ha c (List.mem_cons_of_mem _ hc)
    rw [List.any_cons, List.map_cons, forL_cons, show asg (.name 2) (.str a) [some (cdV cs), some (dicV cs), r2, r3, r4, r5] = some [some (cdV cs), some (dicV cs), some (.str a), r3, r4, r5] from rfl, Res.ofO_some, Res.bind_ok]
    cases e : (cs.any fun b => !(crossP cs n a b).isEmpty) with
    | true =>
      rw [e, if_pos rfl] at fi
      obtain ⟨v, hv, lp⟩ := fi
      rw [Bool.true_or, if_pos rfl]
      refine ⟨v, hv, ?_⟩
      have st : exs (C (k + 1)) y10_2 [some (cdV cs), some (dicV cs), some (.str a), r3, r4, r5] s = .ok (.ret v) s := by
        have lp2 : ex (C (k + 1)) s10_1 [some (cdV cs), some (dicV cs), some (.str a), r3, r4, r5] s = .ok (.ret v) s := by
          unfold s10_1
          rw [ex_for_]
          exact lp
        simp [-ex_for_, y10_2, lp2]
      rw [st]
      rfl
    | false =>
      rw [e, if_neg (by decide)] at fi
      obtain ⟨q3, q4, q5, lp⟩ := fi
      have st : exs (C (k + 1)) y10_2 [some (cdV cs), some (dicV cs), some (.str a), r3, r4, r5] s = .ok (.next [some (cdV cs), some (dicV cs), some (.str a), q3, q4, q5]) s := by
        have lp2 : ex (C (k + 1)) s10_1 [some (cdV cs), some (dicV cs), some (.str a), r3, r4, r5] s = .ok (.next [some (cdV cs), some (dicV cs), some (.str a), q3, q4, q5]) s := by
          unfold s10_1
          rw [ex_for_]
          exact lp
        simp [-ex_for_, y10_2, lp2]
      rw [st, Bool.false_or]
      exact ih q3 q4 q5
theorem flat_empty {α β : Type} (f : α → List β) : ∀ xs : List α, (xs.flatMap f).isEmpty = xs.all fun x => (f x).isEmpty
  | [] => rfl
  | x :: xs => by
    have ih := flat_empty f xs
    rw [List.flatMap_cons, List.all_cons, ← ih]
    cases f x <;> rfl
theorem cross_empty (n : Nat) (cs : List (List Nat)) : (crossL n cs).isEmpty = !(cs.any fun a => cs.any fun b => !(crossP cs n a b).isEmpty) := by
  unfold crossL
  rw [flat_empty, List.not_any_eq_all_not]
  congr 1
  funext a
  rw [flat_empty, List.not_any_eq_all_not]
  congr 1
  funext b
  simp
theorem shows_genR {cf : CF} {code d pl v : PV} {s : Store} (e1 : ev cf c10_0 [some code, none, none, none, none, none] s = .ok pl s) (e2 : dictV pl = some d) (lp : ex cf s10_2 [some code, some d, none, none, none, none] s = .ok (.ret v) s) : runFn cf ⟨1, 6, b10⟩ [code] s = .ok v s := by
  rw [b10_eq]
  simp [-ev_comp, -ex_for_, runFn, e1, e2, lp]
theorem shows_genN {cf : CF} {code d pl : PV} {q2 q3 q4 q5 : Option PV} {s : Store} (e1 : ev cf c10_0 [some code, none, none, none, none, none] s = .ok pl s) (e2 : dictV pl = some d) (lp : ex cf s10_2 [some code, some d, none, none, none, none] s = .ok (.next [some code, some d, q2, q3, q4, q5]) s) : runFn cf ⟨1, 6, b10⟩ [code] s = .ok .non s := by
  rw [b10_eq]
  simp [-ev_comp, -ex_for_, runFn, e1, e2, lp]
theorem first_ok (k : Nat) {n : Nat} {cs : List (List Nat)} (h : Ws n cs) (hn : cs.Nodup) (hz : cs.length ≤ 1000) (s : Store) : ∃ v, C (k + 2) 10 [cdV cs] s = .ok v s ∧ cmpop .isN v .non = some (crossL n cs).isEmpty := by
  have fo := find_out k h s cs none none none none fun _ ha => ha
  have cm : ev (C (k + 1)) c10_0 [some (cdV cs), none, none, none, none, none] s = .ok (.lst (cs.map fun c => .tup [.str c, .bl true])) s := pair_comp rfl hz fun v => ⟨_, rfl, rfl⟩
  have dw := dict_words hn hz
  rw [cross_empty]
  cases e : (cs.any fun a => cs.any fun b => !(crossP cs n a b).isEmpty) with
  | true =>
    rw [e, if_pos rfl] at fo
    obtain ⟨v, ⟨xs, rfl⟩, lp⟩ := fo
    refine ⟨.tup xs, ?_, rfl⟩
    show runFn (C (k + 1)) ⟨1, 6, b10⟩ _ s = _
    refine shows_genR cm dw ?_
    unfold s10_2
    rw [ex_for_]
    exact lp
  | false =>
    rw [e, if_neg (by decide)] at fo
    obtain ⟨q2, q3, q4, q5, lp⟩ := fo
    refine ⟨.non, ?_, rfl⟩
    show runFn (C (k + 1)) ⟨1, 6, b10⟩ _ s = _
    refine shows_genN cm dw (q2 := q2) (q3 := q3) (q4 := q4) (q5 := q5) ?_
    unfold s10_2
    rw [ex_for_]
    exact lp
theorem shows_ok (k : Nat) {n : Nat} {cs : List (List Nat)} (h : Ws n cs) (hn : cs.Nodup) (hz : cs.length ≤ 1000) (hk : Ok (cdV cs)) (hc : codeB (cdV cs) = true) (s : Store) : C (k + 4) 11 [cdV cs] s = .ok (.bl (crossL n cs).isEmpty) s := by
  show runFn (C (k + 3)) ⟨1, 1, b11⟩ _ s = _
  have a1 := needcode_ok k (cdV cs) s hk hc
  obtain ⟨v, a2, a3⟩ := first_ok (k + 1) h hn hz s
  generalize (crossL n cs).isEmpty = bb at a3
  simp [-o_isN, runFn, b11, a1, a2, a3]
/-! ### by heads and tails -/
def tailB (n : Nat) (cs : List (List Nat)) (x : List Nat) : Bool := cs.any fun w => (List.range' 1 (n - 1)).any fun i => w.drop i == x
def headB (n : Nat) (cs : List (List Nat)) (x : List Nat) : Bool := cs.any fun w => (List.range' 1 (n - 1)).any fun i => w.take i == x
def splitB (n : Nat) (cs : List (List Nat)) (w : List Nat) : Bool := (List.range' 1 (n - 1)).any fun i => tailB n cs (w.take i) && headB n cs (w.drop i)
def showsB (n : Nat) (cs : List (List Nat)) : Bool := !(cs.any (splitB n cs))
theorem mid_eq {n : Nat} {a b : List Nat} (ha : a.length = n) (hb : b.length = n) {i : Nat} (hi : i ≤ n) : mid a b i = a.drop i ++ b.take i := by
  unfold mid
  rw [List.drop_append_of_le_length (by omega), List.take_append, List.length_drop]
  rw [List.take_of_length_le (by rw [List.length_drop]; omega)]
  congr 2
  omega
theorem shows_eq {n : Nat} {cs : List (List Nat)} (h : Ws n cs) : showsB n cs = (crossL n cs).isEmpty := by
  rw [cross_empty]
  unfold showsB
  congr 1
  rw [Bool.eq_iff_iff]
  constructor
  · intro e
    obtain ⟨w, hw, e⟩ := List.any_eq_true.mp e
    obtain ⟨i, hi, e⟩ := List.any_eq_true.mp e
    rw [Bool.and_eq_true] at e
    obtain ⟨a, ha, e1⟩ := List.any_eq_true.mp e.1
    obtain ⟨j, hj, e1⟩ := List.any_eq_true.mp e1
    obtain ⟨b, hb, e2⟩ := List.any_eq_true.mp e.2
    obtain ⟨l, hl, e2⟩ := List.any_eq_true.mp e2
    have e1 := eq_of_beq e1
    have e2 := eq_of_beq e2
    have hi := List.mem_range'_1.mp hi
    have hj := List.mem_range'_1.mp hj
    have hl := List.mem_range'_1.mp hl
    have lw := (h.wd w hw).1
    have la := (h.wd a ha).1
    have lb := (h.wd b hb).1
    have l1 := congrArg List.length e1
    have l2 := congrArg List.length e2
    rw [List.length_drop, List.length_take] at l1
    rw [List.length_take, List.length_drop] at l2
    refine List.any_eq_true.mpr ⟨a, ha, List.any_eq_true.mpr ⟨b, hb, ?_⟩⟩
    rw [Bool.not_eq_true', List.isEmpty_eq_false_iff]
    intro z
    have hm : (a, b, n - i) ∈ crossP cs n a b := by
      refine List.mem_map.mpr ⟨n - i, List.mem_filter.mpr ⟨List.mem_range'_1.mpr ⟨by omega, by omega⟩, ?_⟩, rfl⟩
      rw [mid_eq la lb (by omega), show n - i = j by omega, e1, show j = l by omega, e2, List.take_append_drop]
      simpa using hw
    rw [z] at hm
    cases hm
  · intro e
    obtain ⟨a, ha, e⟩ := List.any_eq_true.mp e
    obtain ⟨b, hb, e⟩ := List.any_eq_true.mp e
    rw [Bool.not_eq_true', List.isEmpty_eq_false_iff] at e
    obtain ⟨t, ht⟩ := List.exists_mem_of_ne_nil _ e
    obtain ⟨i, hi, rfl⟩ := List.mem_map.mp ht
    obtain ⟨hi, hc⟩ := List.mem_filter.mp hi
    have hi := List.mem_range'_1.mp hi
    have la := (h.wd a ha).1
    have lb := (h.wd b hb).1
    rw [mid_eq la lb (by omega)] at hc
    have hw : a.drop i ++ b.take i ∈ cs := by simpa using hc
    refine List.any_eq_true.mpr ⟨_, hw, List.any_eq_true.mpr ⟨n - i, List.mem_range'_1.mpr ⟨by omega, by omega⟩, ?_⟩⟩
    rw [Bool.and_eq_true]
    constructor
    · refine List.any_eq_true.mpr ⟨a, ha, List.any_eq_true.mpr ⟨i, List.mem_range'_1.mpr ⟨by omega, by omega⟩, ?_⟩⟩
      rw [List.take_append_of_le_length (by rw [List.length_drop]; omega), List.take_of_length_le (by rw [List.length_drop]; omega)]
      simp
    · refine List.any_eq_true.mpr ⟨b, hb, List.any_eq_true.mpr ⟨i, List.mem_range'_1.mpr ⟨by omega, by omega⟩, ?_⟩⟩
      rw [List.drop_append_of_le_length (by rw [List.length_drop]; omega), List.drop_of_length_le (by rw [List.length_drop]; omega)]
      simp
end K18

set_option maxRecDepth 100000
set_option maxHeartbeats 4000000
/-! L18e: heads and tails in dicts; drawn codes. -/
namespace K18
open PyI
/-- a dict of which the keys are known -/
def Dk (P : List Nat → Prop) (N : Nat) (d : PV) : Prop := ∃ K X, d = .dct K X ∧ K.length ≤ N ∧ ∀ x, Ky.str x ∈ K ↔ P x
theorem putKs_len (k : Ky) (K : List Ky) : (putKs k K).length ≤ K.length + 1 := by
  unfold putKs
  split
  · omega
  · rw [List.length_append]; simp
theorem putKs_mem (w x : List Nat) (K : List Ky) : Ky.str x ∈ putKs (.str w) K ↔ Ky.str x ∈ K ∨ x = w := by
  unfold putKs
  split
  · rename_i h
    constructor
    · exact .inl
    · rintro (h2 | rfl)
      · exact h2
      · exact h
  · rw [List.mem_append, List.mem_singleton]
    constructor
    · rintro (h2 | h2)
      · exact .inl h2
      · injection h2 with h2; exact .inr h2
    · rintro (h2 | rfl)
      · exact .inl h2
      · exact .inr rfl
theorem put_step {cf : CF} {r0 : Option PV} {w wd wt : List Nat} {i : Int} {K2 K3 : List Ky} {X2 X3 : List PV} {s : Store} (h1 : slV (.str w) (some i) none = some (.str wd)) (h2 : slV (.str w) none (some i) = some (.str wt)) (k2 : K2.length < 100000) (k3 : K3.length < 100000) :
    exs cf y17_0 [r0, some (.str w), some (.dct K2 X2), some (.dct K3 X3), some (.int i)] s = .ok (.next [r0, some (.str w), some (.dct (putKs (.str wd) K2) (putXs (.str wd) (.bl true) K2 X2)), some (.dct (putKs (.str wt) K3) (putXs (.str wt) (.bl true) K3 X3)), some (.int i)]) s := by
  simp [y17_0, h1, h2, partOf, kyP, k2, k3]
theorem put_in (k : Nat) (w : List Nat) (hw : w.length ≤ 12) (r0 : Option PV) (s : Store) : ∀ (is : List Nat) (P2 P3 : List Nat → Prop) (N : Nat) (d2 d3 : PV) (r4 : Option PV), Dk P2 N d2 → Dk P3 N d3 → N + is.length ≤ 90000 →
    ∃ e2 e3 q4, forL (fun x r s => (Res.ofO (asg (.name 4) x r) s).bind fun r s => exs (C k) y17_0 r s) (is.map fun i : Nat => PV.int (i : Int)) [r0, some (.str w), some d2, some d3, r4] s = .ok (.next [r0, some (.str w), some e2, some e3, q4]) s ∧ Dk (fun x => P2 x ∨ ∃ i ∈ is, w.drop i = x) (N + is.length) e2 ∧ Dk (fun x => P3 x ∨ ∃ i ∈ is, w.take i = x) (N + is.length) e3
  | [], P2, P3, N, d2, d3, r4, h2, h3, _ => ⟨d2, d3, r4, rfl, by simpa using h2, by simpa using h3⟩
  | i :: is, P2, P3, N, d2, d3, r4, h2, h3, hN => by
    rw [List.length_cons] at hN
    obtain ⟨K2, X2, rfl, l2, m2⟩ := h2
    obtain ⟨K3, X3, rfl, l3, m3⟩ := h3
    have st := put_step (cf := C k) (r0 := r0) (s := s) (X2 := X2) (X3 := X3) (slS_drop (x := w) i (show _ ≤ 16777216 by omega)) (slS_take (x := w) i (show _ ≤ 16777216 by omega)) (show K2.length < 100000 by omega) (show K3.length < 100000 by omega)
    have n2 : Dk (fun x => P2 x ∨ x = w.drop i) (N + 1) (.dct (putKs (.str (w.drop i)) K2) (putXs (.str (w.drop i)) (.bl true) K2 X2)) := ⟨_, _, rfl, by have := putKs_len (.str (w.drop i)) K2; omega, fun x => by rw [putKs_mem, m2]⟩
    have n3 : Dk (fun x => P3 x ∨ x = w.take i) (N + 1) (.dct (putKs (.str (w.take i)) K3) (putXs (.str (w.take i)) (.bl true) K3 X3)) := ⟨_, _, rfl, by have := putKs_len (.str (w.take i)) K3; omega, fun x => by rw [putKs_mem, m3]⟩
    obtain ⟨e2, e3, q4, ih, i2, i3⟩ := put_in k w hw r0 s is _ _ (N + 1) _ _ (some (.int (i : Int))) n2 n3 (by omega)
    refine ⟨e2, e3, q4, ?_, ?_, ?_⟩
    · rw [List.map_cons, forL_cons, show asg (.name 4) (.int (i : Int)) [r0, some (.str w), some (.dct K2 X2), some (.dct K3 X3), r4] = some [r0, some (.str w), some (.dct K2 X2), some (.dct K3 X3), some (.int (i : Int))] from rfl, Res.ofO_some, Res.bind_ok, st, Res.bind_ok]
      exact ih
    · obtain ⟨K, X, rfl, l, m⟩ := i2
      refine ⟨K, X, rfl, by rw [List.length_cons]; omega, fun x => ?_⟩
      rw [m]
      constructor
      · rintro ((h | rfl) | ⟨j, hj, e⟩)
        · exact .inl h
        · exact .inr ⟨i, List.mem_cons_self, rfl⟩
        · exact .inr ⟨j, List.mem_cons_of_mem _ hj, e⟩
      · rintro (h | ⟨j, hj, e⟩)
        · exact .inl (.inl h)
        · rcases List.mem_cons.mp hj with rfl | hj
          · exact .inl (.inr e.symm)
          · exact .inr ⟨j, hj, e⟩
    · obtain ⟨K, X, rfl, l, m⟩ := i3
      refine ⟨K, X, rfl, by rw [List.length_cons]; omega, fun x => ?_⟩
      rw [m]
      constructor
      · rintro ((h | rfl) | ⟨j, hj, e⟩)
        · exact .inl h
        · exact .inr ⟨i, List.mem_cons_self, rfl⟩
        · exact .inr ⟨j, List.mem_cons_of_mem _ hj, e⟩
      · rintro (h | ⟨j, hj, e⟩)
        · exact .inl (.inl h)
        · rcases List.mem_cons.mp hj with rfl | hj
          · exact .inl (.inr e.symm)
          · exact .inr ⟨j, hj, e⟩
theorem put_out (k : Nat) {n : Nat} {cs : List (List Nat)} (h : Ws n cs) (r0 : Option PV) (s : Store) : ∀ (ws : List (List Nat)) (P2 P3 : List Nat → Prop) (N : Nat) (d2 d3 : PV) (r1 r4 : Option PV), (∀ w ∈ ws, w ∈ cs) → Dk P2 N d2 → Dk P3 N d3 → N + 11 * ws.length ≤ 90000 →
    ∃ e2 e3 q1 q4 N', forL (fun x r s => (Res.ofO (asg (.name 1) x r) s).bind fun r s => exs (C k) y17_1 r s) (ws.map .str) [r0, r1, some d2, some d3, r4] s = .ok (.next [r0, q1, some e2, some e3, q4]) s ∧ Dk (fun x => P2 x ∨ tailB n ws x = true) N' e2 ∧ Dk (fun x => P3 x ∨ headB n ws x = true) N' e3
  | [], P2, P3, N, d2, d3, r1, r4, _, h2, h3, _ => ⟨d2, d3, r1, r4, N, rfl, by simpa [tailB] using h2, by simpa [headB] using h3⟩
  | w :: ws, P2, P3, N, d2, d3, r1, r4, hw, h2, h3, hN => by
    rw [List.length_cons] at hN
    have n2 := h.n2
    obtain ⟨lw, _⟩ := h.wd w (hw w List.mem_cons_self)
    have hl : (List.range' 1 (n - 1)).length = n - 1 := List.length_range'
    obtain ⟨e2, e3, q4, lp, g2, g3⟩ := put_in k w (by omega) r0 s (List.range' 1 (n - 1)) P2 P3 N d2 d3 r4 h2 h3 (by omega)
    have ln := o_lenS (x := w) (by omega)
    have st : exs (C k) y17_1 [r0, some (.str w), some d2, some d3, r4] s = .ok (.next [r0, some (.str w), some e2, some e3, q4]) s := by
      have lp2 : ex (C k) s17_0 [r0, some (.str w), some d2, some d3, r4] s = .ok (.next [r0, some (.str w), some e2, some e3, q4]) s := by
        unfold s17_0
        have rg := rg1 w.length (by omega)
        have eI : evI (C k) (.range2 (.con (.int 1)) (.blt .len (.cons (.var 1) .nil))) [r0, some (.str w), some d2, some d3, r4] s = .ok ((List.range' 1 (w.length - 1)).map fun i : Nat => PV.int (i : Int)) s := evI_r2 rfl (ev_len rfl ln) rg
        rw [lw] at eI
        rw [ex_for_, eI, Res.bind_ok]
        exact lp
      simp [-ex_for_, y17_1, lp2]
    obtain ⟨f2, f3, q1, p4, N', ih, i2, i3⟩ := put_out k h r0 s ws _ _ _ e2 e3 (some (.str w)) q4 (fun c hc => hw c (List.mem_cons_of_mem _ hc)) g2 g3 (by rw [hl]; omega)
    refine ⟨f2, f3, q1, p4, N', ?_, ?_, ?_⟩
    · rw [List.map_cons, forL_cons, show asg (.name 1) (.str w) [r0, r1, some d2, some d3, r4] = some [r0, some (.str w), some d2, some d3, r4] from rfl, Res.ofO_some, Res.bind_ok, st, Res.bind_ok]
      exact ih
    · obtain ⟨K, X, rfl, l, m⟩ := i2
      refine ⟨K, X, rfl, l, fun x => ?_⟩
      rw [m]
      show _ ↔ P2 x ∨ ((w :: ws).any fun w => (List.range' 1 (n - 1)).any fun i => w.drop i == x) = true
      rw [List.any_cons, Bool.or_eq_true]
      constructor
      · rintro ((h | ⟨i, hi, e⟩) | h)
        · exact .inl h
        · exact .inr (.inl (List.any_eq_true.mpr ⟨i, hi, by rw [e]; exact beq_self_eq_true _⟩))
        · exact .inr (.inr h)
      · rintro (h | h | h)
        · exact .inl (.inl h)
        · obtain ⟨i, hi, e⟩ := List.any_eq_true.mp h
          exact .inl (.inr ⟨i, hi, eq_of_beq e⟩)
        · exact .inr h
    · obtain ⟨K, X, rfl, l, m⟩ := i3
      refine ⟨K, X, rfl, l, fun x => ?_⟩
      rw [m]
      show _ ↔ P3 x ∨ ((w :: ws).any fun w => (List.range' 1 (n - 1)).any fun i => w.take i == x) = true
      rw [List.any_cons, Bool.or_eq_true]
      constructor
      · rintro ((h | ⟨i, hi, e⟩) | h)
        · exact .inl h
        · exact .inr (.inl (List.any_eq_true.mpr ⟨i, hi, by rw [e]; exact beq_self_eq_true _⟩))
        · exact .inr (.inr h)
      · rintro (h | h | h)
        · exact .inl (.inl h)
        · obtain ⟨i, hi, e⟩ := List.any_eq_true.mp h
          exact .inl (.inr ⟨i, hi, eq_of_beq e⟩)
        · exact .inr h
theorem in_dk {P : List Nat → Prop} {N : Nat} {d : PV} (h : Dk P N d) {b : List Nat → Bool} (hb : ∀ x, P x ↔ b x = true) (x : List Nat) : cmpop .in_ (.str x) d = some (b x) := by
  obtain ⟨K, X, rfl, _, m⟩ := h
  show some (decide (Ky.str x ∈ K)) = _
  congr 1
  rw [Bool.eq_iff_iff, decide_eq_true_eq, m, hb]
theorem split_comp (cf : CF) {n : Nat} {cs : List (List Nat)} (h : Ws n cs) {w : List Nat} (hw : w ∈ cs) {d2 d3 : PV} (h2 : ∀ x, cmpop .in_ (.str x) d2 = some (tailB n cs x)) (h3 : ∀ x, cmpop .in_ (.str x) d3 = some (headB n cs x)) (r0 r4 : Option PV) (s : Store) :
    ∃ l, ev cf c17_0 [r0, some (.str w), some d2, some d3, r4] s = .ok (.lst l) s ∧ cmpop .ne (.lst l) (.lst []) = some (splitB n cs w) := by
  have n2 := h.n2
  obtain ⟨lw, _⟩ := h.wd w hw
  have ln := o_lenS (x := w) (by omega)
  have eI : evI cf (.range2 (.con (.int 1)) (.blt .len (.cons (.var 1) .nil))) [r0, some (.str w), some d2, some d3, r4] s = .ok ((List.range' 1 (w.length - 1)).map fun i : Nat => PV.int (i : Int)) s := evI_r2 rfl (ev_len rfl ln) (rg1 w.length (by omega))
  rw [lw] at eI
  have := comp_filter (cf := cf) (vs := [4]) (t := .name 4) (c := .and (.cmp .in_ (.slice (.var 1) (.con .non) (.var 4)) (.var 2)) (.cmp .in_ (.slice (.var 1) (.var 4) (.con .non)) (.var 3))) (e := .var 4) (p := fun v => match v with | .int i => tailB n cs (w.take i.toNat) && headB n cs (w.drop i.toNat) | _ => false) (g := fun v => v) eI (fun v hv => by
    obtain ⟨i, hi, rfl⟩ := List.mem_map.mp hv
    refine ⟨_, rfl, ?_, fun _ => by simp [PyI.wipe]⟩
    have s1 := slS_drop (x := w) i (show _ ≤ 16777216 by omega)
    have s2 := slS_take (x := w) i (show _ ≤ 16777216 by omega)
    have q2 := h2 (w.take i)
    have q3 := h3 (w.drop i)
    show _ = Res.ok (PV.bl (tailB n cs (w.take i) && headB n cs (w.drop i))) s
    generalize tailB n cs (w.take i) = t2 at q2
    generalize headB n cs (w.drop i) = t3 at q3
    generalize w.take i = wt at s2 q2
    generalize w.drop i = wd at s1 q3
    generalize (i : Int) = j at s1 s2
    cases t2 with
    | true => simp [PyI.wipe, s1, s2, q2, q3, partOf]
    | false => simp [PyI.wipe, s1, s2, q2, q3, partOf]) (by rw [List.length_map, List.length_range']; omega)
  rw [List.map_id', List.filter_map] at this
  refine ⟨_, this, ?_⟩
  rw [o_neNilL (isDs_of fun v hv => by obtain ⟨i, _, rfl⟩ := List.mem_map.mp hv; rfl) (Nat.le_trans (depths_of (n := 0) fun v hv => by obtain ⟨i, _, rfl⟩ := List.mem_map.mp hv; exact Nat.le_refl _) (by omega)), List.isEmpty_map, filter_empty]
  congr 1
  unfold splitB
  rw [List.not_all_eq_any_not]
  congr 1
  funext i
  simp
theorem shows17_gen {cf : CF} {code d2 d3 : PV} {l : List PV} {q1 q4 : Option PV} {z : Bool} {s : Store} (lp : ex cf s17_1 [some code, none, some (.dct [] []), some (.dct [] []), none] s = .ok (.next [some code, q1, some d2, some d3, q4]) s) (cm : ev cf c17_1 [some code, q1, some d2, some d3, q4] s = .ok (.lst l) s) (e : cmpop .eq (.lst l) (.lst []) = some z) : runFn cf ⟨1, 5, b17⟩ [code] s = .ok (.bl z) s := by
  rw [b17_eq]
  simp [-ev_comp, -ex_for_, runFn, lp, cm, e]
theorem lawshows_ok (k : Nat) {n : Nat} {cs : List (List Nat)} (h : Ws n cs) (hz : cs.length ≤ 1000) (s : Store) : C (k + 1) 17 [cdV cs] s = .ok (.bl (showsB n cs)) s := by
  show runFn (C k) ⟨1, 5, b17⟩ _ s = _
  have d0 : Dk (fun _ => False) 0 (.dct [] []) := ⟨[], [], rfl, Nat.le_refl _, fun x => by simp⟩
  obtain ⟨e2, e3, q1, q4, N, lp, g2, g3⟩ := put_out k h (some (cdV cs)) s cs _ _ 0 _ _ none none (fun _ hw => hw) d0 d0 (by omega)
  have t2 := in_dk g2 (b := tailB n cs) fun x => ⟨fun z => z.elim (fun z => z.elim) _root_.id, .inr⟩
  have t3 := in_dk g3 (b := headB n cs) fun x => ⟨fun z => z.elim (fun z => z.elim) _root_.id, .inr⟩
  have cm := comp_filter (cf := C k) (vs := [1]) (t := .name 1) (it := .seq (.var 0)) (c := .cmp .ne c17_0 (.lst .nil)) (e := .var 1) (r := [some (cdV cs), q1, some e2, some e3, q4]) (s := s) (xs := cs.map .str) (p := fun v => match v with | .str w => splitB n cs w | _ => false) (g := fun v => v) rfl (fun v hv => by
    obtain ⟨w, hw, rfl⟩ := List.mem_map.mp hv
    obtain ⟨l, f1, f2⟩ := split_comp (C k) h hw t2 t3 (some (cdV cs)) q4 s
    refine ⟨_, rfl, ?_, fun _ => by simp [PyI.wipe]⟩
    show _ = Res.ok (PV.bl (splitB n cs w)) s
    generalize splitB n cs w = bb at f2
    simp [-ev_comp, PyI.wipe, f1, f2]) (by rw [List.length_map]; omega)
  rw [List.map_id', List.filter_map] at cm
  refine shows17_gen (d2 := e2) (d3 := e3) (q1 := q1) (q4 := q4) ?_ cm ?_
  · unfold s17_1
    rw [ex_for_]
    exact lp
  · have d := isDs_strs (fun x => x) (cs.filter (splitB n cs))
    have e := depths_strs (fun x => x) (cs.filter (splitB n cs))
    show cmpop .eq (.lst ((cs.filter (splitB n cs)).map .str)) (.lst []) = _
    rw [o_eqNilL d (by rw [e]; omega), List.isEmpty_map, filter_empty]
    unfold showsB
    rw [List.not_any_eq_all_not]
end K18

set_option maxRecDepth 100000
set_option maxHeartbeats 4000000
/-! L18f: codes made over; what is drawn. -/
namespace K18
open PyI
/-! ### crossings as a set -/
theorem mem_cross {n : Nat} {cs : List (List Nat)} {a b : List Nat} {i : Nat} : (a, b, i) ∈ crossL n cs ↔ a ∈ cs ∧ b ∈ cs ∧ (1 ≤ i ∧ i < n) ∧ mid a b i ∈ cs := by
  unfold crossL crossP
  constructor
  · intro h
    obtain ⟨a', ha, h⟩ := List.mem_flatMap.mp h
    obtain ⟨b', hb, h⟩ := List.mem_flatMap.mp h
    obtain ⟨j, hj, e⟩ := List.mem_map.mp h
    obtain ⟨hj1, hc⟩ := List.mem_filter.mp hj
    have hj2 := List.mem_range'_1.mp hj1
    cases e
    exact ⟨ha, hb, ⟨hj2.1, by omega⟩, by simpa using hc⟩
  · rintro ⟨ha, hb, hi, hc⟩
    exact List.mem_flatMap.mpr ⟨a, ha, List.mem_flatMap.mpr ⟨b, hb, List.mem_map.mpr ⟨i, List.mem_filter.mpr ⟨List.mem_range'_1.mpr ⟨hi.1, by omega⟩, by simpa using hc⟩, rfl⟩⟩⟩
theorem cross_nodup {n : Nat} {cs : List (List Nat)} (h : cs.Nodup) : (crossL n cs).Nodup := by
  unfold crossL
  refine List.pairwise_flatMap.mpr ⟨fun a ha => List.pairwise_flatMap.mpr ⟨fun b hb => ?_, ?_⟩, ?_⟩
  · unfold crossP
    refine List.pairwise_map.mpr (List.Pairwise.imp (fun {i j} hne e => hne ?_) (List.Pairwise.filter _ (List.nodup_range' (step := 1) (s := 1) (n := n - 1))))
    cases e
    rfl
  · refine List.Pairwise.imp (fun {b b'} hne x hx y hy e => hne ?_) h
    obtain ⟨i, _, rfl⟩ := List.mem_map.mp hx
    obtain ⟨j, _, rfl⟩ := List.mem_map.mp hy
    cases e
    rfl
  · refine List.Pairwise.imp (fun {a a'} hne x hx y hy e => hne ?_) h
    obtain ⟨b, _, hx⟩ := List.mem_flatMap.mp hx
    obtain ⟨b', _, hy⟩ := List.mem_flatMap.mp hy
    obtain ⟨i, _, rfl⟩ := List.mem_map.mp hx
    obtain ⟨j, _, rfl⟩ := List.mem_map.mp hy
    cases e
    rfl
def revT (n : Nat) (t : Tr) : Tr := (t.2.1.reverse, t.1.reverse, n - t.2.2)
theorem mid_rev {n : Nat} {a b : List Nat} (ha : a.length = n) (hb : b.length = n) {i : Nat} (hi : i ≤ n) : mid b.reverse a.reverse (n - i) = (mid a b i).reverse := by
  rw [mid_eq (n := n) (by rw [List.length_reverse, hb]) (by rw [List.length_reverse, ha]) (by omega), mid_eq ha hb hi, List.reverse_append, List.drop_reverse, List.take_reverse]
  rw [show b.length - (n - i) = i by omega, show a.length - (n - i) = i by omega]
theorem back_len {n : Nat} {cs bs : List (List Nat)} (h : Ws n cs) (hc : cs.Nodup) (hb : bs.Nodup) (hm : ∀ x, x ∈ bs ↔ x.reverse ∈ cs) : (crossL n bs).length = (crossL n cs).length := by
  have e : (crossL n bs).length = ((crossL n cs).map (revT n)).length := by
    refine List.Perm.length_eq ((List.perm_ext_iff_of_nodup (cross_nodup hb) ?_).mpr fun t => ?_)
    · refine List.pairwise_map.mpr (List.Pairwise.imp_of_mem (fun {t u} ht hu hne e => hne ?_) (cross_nodup hc))
      obtain ⟨a, b, i⟩ := t
      obtain ⟨a', b', j⟩ := u
      obtain ⟨_, _, hi, _⟩ := mem_cross.mp ht
      obtain ⟨_, _, hj, _⟩ := mem_cross.mp hu
      have e : (b.reverse, a.reverse, n - i) = (b'.reverse, a'.reverse, n - j) := e
      injection e with e1 e
      injection e with e2 e3
      have e1 := List.reverse_inj.mp e1
      have e2 := List.reverse_inj.mp e2
      subst e1 e2
      rw [show i = j by omega]
    · obtain ⟨a, b, i⟩ := t
      constructor
      · intro ht
        obtain ⟨ha, hb, hi, hc⟩ := mem_cross.mp ht
        have ha := (hm a).mp ha
        have hb := (hm b).mp hb
        have hc := (hm _).mp hc
        have la := (h.wd _ ha).1
        have lb := (h.wd _ hb).1
        rw [List.length_reverse] at la lb
        refine List.mem_map.mpr ⟨(b.reverse, a.reverse, n - i), mem_cross.mpr ⟨hb, ha, ⟨by omega, by omega⟩, ?_⟩, ?_⟩
        · rw [mid_rev la lb (by omega)]
          exact hc
        · show (a.reverse.reverse, b.reverse.reverse, n - (n - i)) = _
          rw [List.reverse_reverse, List.reverse_reverse, show n - (n - i) = i by omega]
      · intro ht
        obtain ⟨⟨a', b', j⟩, ht, e⟩ := List.mem_map.mp ht
        obtain ⟨ha, hb, hi, hc⟩ := mem_cross.mp ht
        have e : (b'.reverse, a'.reverse, n - j) = (a, b, i) := e
        injection e with e1 e
        injection e with e2 e3
        subst e1 e2 e3
        have la := (h.wd _ ha).1
        have lb := (h.wd _ hb).1
        refine mem_cross.mpr ⟨(hm _).mpr (by rw [List.reverse_reverse]; exact hb), (hm _).mpr (by rw [List.reverse_reverse]; exact ha), ⟨by omega, by omega⟩, (hm _).mpr ?_⟩
        rw [mid_rev la lb (by omega), List.reverse_reverse]
        exact hc
  rw [e, List.length_map]
theorem len_empty {α β : Type} {l : List α} {m : List β} (h : l.length = m.length) : l.isEmpty = m.isEmpty := by
  cases l <;> cases m <;> first | rfl | cases h
def exS (c : Nat) : Nat := if c = 35 then 46 else 35
def exW (w : List Nat) : List Nat := w.map exS
theorem exW_exW {w : List Nat} (h : HD w) : exW (exW w) = w := by
  unfold exW
  rw [List.map_map]
  conv => rhs; rw [← List.map_id w]
  refine List.map_congr_left fun c hc => ?_
  rcases h c hc with rfl | rfl <;> rfl
theorem exW_HD (w : List Nat) : HD (exW w) := by
  intro c hc
  obtain ⟨d, _, rfl⟩ := List.mem_map.mp hc
  unfold exS
  split
  · exact .inr rfl
  · exact .inl rfl
theorem mid_ex {n : Nat} {a b : List Nat} (ha : a.length = n) (hb : b.length = n) {i : Nat} (hi : i ≤ n) : mid (exW a) (exW b) i = exW (mid a b i) := by
  rw [mid_eq (n := n) (by unfold exW; rw [List.length_map, ha]) (by unfold exW; rw [List.length_map, hb]) hi, mid_eq ha hb hi]
  unfold exW
  rw [List.map_append, List.map_drop, List.map_take]
theorem other_empty {n : Nat} {cs os : List (List Nat)} (h : Ws n cs) (ho : ∀ x ∈ os, HD x) (hm : ∀ x, HD x → (x ∈ os ↔ exW x ∈ cs)) : (crossL n os).isEmpty = (crossL n cs).isEmpty := by
  rw [Bool.eq_iff_iff, List.isEmpty_iff, List.isEmpty_iff, List.eq_nil_iff_forall_not_mem, List.eq_nil_iff_forall_not_mem]
  have q : ∀ a ∈ os, a.length = n ∧ exW a ∈ cs := fun a ha => by
    have := (hm a (ho a ha)).mp ha
    have l := (h.wd _ this).1
    unfold exW at l
    rw [List.length_map] at l
    exact ⟨l, this⟩
  constructor
  · rintro e ⟨a, b, i⟩ ht
    obtain ⟨ha, hb, hi, hc⟩ := mem_cross.mp ht
    have la := h.wd _ ha
    have lb := h.wd _ hb
    refine e (exW a, exW b, i) (mem_cross.mpr ⟨(hm _ (exW_HD a)).mpr (by rw [exW_exW la.2]; exact ha), (hm _ (exW_HD b)).mpr (by rw [exW_exW lb.2]; exact hb), hi, ?_⟩)
    rw [mid_ex la.1 lb.1 (by omega)]
    exact (hm _ (exW_HD _)).mpr (by rw [exW_exW (h.wd _ hc).2]; exact hc)
  · rintro e ⟨a, b, i⟩ ht
    obtain ⟨ha, hb, hi, hc⟩ := mem_cross.mp ht
    obtain ⟨la, ha'⟩ := q a ha
    obtain ⟨lb, hb'⟩ := q b hb
    refine e (exW a, exW b, i) (mem_cross.mpr ⟨ha', hb', hi, ?_⟩)
    rw [mid_ex la lb (by omega)]
    exact (q _ hc).2
theorem part_empty {n : Nat} {cs ps : List (List Nat)} (hp : ∀ x ∈ ps, x ∈ cs) (h : (crossL n cs).isEmpty = true) : (crossL n ps).isEmpty = true := by
  rw [List.isEmpty_iff, List.eq_nil_iff_forall_not_mem] at h ⊢
  rintro ⟨a, b, i⟩ ht
  obtain ⟨ha, hb, hi, hc⟩ := mem_cross.mp ht
  exact h (a, b, i) (mem_cross.mpr ⟨hp _ ha, hp _ hb, hi, hp _ hc⟩)
/-! ### codes -/
structure Cd (n : Nat) (cs : List (List Nat)) : Prop where
  ws : Ws n cs
  up : rising cs = true
  l1 : 1 ≤ cs.length
  l2 : cs.length ≤ 40
theorem Ws.ok {n : Nat} {cs : List (List Nat)} (h : Ws n cs) (hz : cs.length ≤ 1000) : Ok (cdV cs) := by
  have n2 := h.n2
  refine ⟨?_, ?_⟩
  · unfold cdV
    rw [sm, Bool.and_eq_true, decide_eq_true_eq, sms_iff, List.length_map]
    refine ⟨hz, fun x hx => ?_⟩
    obtain ⟨c, hc, rfl⟩ := List.mem_map.mp hx
    rw [sm, decide_eq_true_eq, (h.wd c hc).1]
    omega
  · unfold cdV
    rw [depth, depths_strs (fun x => x)]
    omega
theorem Ws.code {n : Nat} {cs : List (List Nat)} (h : Ws n cs) (hu : rising cs = true) (l1 : 1 ≤ cs.length) (l2 : cs.length ≤ 200) : codeB (cdV cs) = true := by
  show (lenB 1 200 (.tup (cs.map .str)) && (cs.map .str).all wordV && sameLen (cs.map .str) && rising ((cs.map .str).map strOf)) = true
  have e : (cs.map PV.str).map strOf = cs := by
    rw [List.map_map]
    conv => rhs; rw [← List.map_id cs]
    exact List.map_congr_left fun _ _ => rfl
  rw [e, hu, Bool.and_true, Bool.and_eq_true, Bool.and_eq_true]
  refine ⟨⟨?_, ?_⟩, ?_⟩
  · show (decide (1 ≤ (cs.map PV.str).length) && decide ((cs.map PV.str).length ≤ 200)) = true
    rw [List.length_map, decide_eq_true l1, decide_eq_true l2]
    rfl
  · rw [List.all_eq_true]
    intro x hx
    obtain ⟨c, hc, rfl⟩ := List.mem_map.mp hx
    obtain ⟨lc, hd⟩ := h.wd c hc
    have n1 := h.n1
    have n2 := h.n2
    show wordB 1 12 [35, 46] c = true
    unfold wordB
    rw [Bool.and_eq_true, Bool.and_eq_true, decide_eq_true_eq, decide_eq_true_eq, List.all_eq_true]
    exact ⟨⟨by omega, by omega⟩, fun d hd' => by rcases hd d hd' with rfl | rfl <;> rfl⟩
  · cases cs with
    | nil => rfl
    | cons c r =>
      show ((c :: r).map PV.str).all (fun y => lenOf y == lenOf (.str c)) = true
      rw [List.all_eq_true]
      intro x hx
      obtain ⟨d, hd, rfl⟩ := List.mem_map.mp hx
      show (d.length == c.length) = true
      rw [(h.wd d hd).1, (h.wd c List.mem_cons_self).1]
      exact beq_self_eq_true _
theorem Cd.nd {n : Nat} {cs : List (List Nat)} (h : Cd n cs) : cs.Nodup := rising_nodup h.up
theorem Cd.ok {n : Nat} {cs : List (List Nat)} (h : Cd n cs) : Ok (cdV cs) := h.ws.ok (by have := h.l2; omega)
theorem Cd.code {n : Nat} {cs : List (List Nat)} (h : Cd n cs) : codeB (cdV cs) = true := h.ws.code h.up h.l1 (by have := h.l2; omega)
theorem sort_code {n : Nat} {cs : List (List Nat)} (h : Ws n cs) (hn : cs.Nodup) (l1 : 1 ≤ cs.length) (l2 : cs.length ≤ 40) : Cd n (sortS cs) := ⟨⟨h.n1, h.n2, fun c hc => h.wd c (sort_mem.mp hc)⟩, sort_rising hn, by rw [sort_len]; exact l1, by rw [sort_len]; exact l2⟩
theorem ded_len : ∀ l : List (List Nat), (dedS l).length ≤ l.length
  | [] => Nat.le_refl _
  | x :: r => by
    have ih := ded_len r
    unfold dedS
    split
    · simp
    · rename_i y t e
      rw [e] at ih
      split
      · simp only [List.length_cons] at ih ⊢; omega
      · simp only [List.length_cons] at ih ⊢; omega
theorem ord_code {n : Nat} {cs : List (List Nat)} (h : Ws n cs) (l1 : 1 ≤ cs.length) (l2 : cs.length ≤ 40) : Cd n (dedS (sortS cs)) := by
  have hm : ∀ k, k ∈ dedS (sortS cs) ↔ k ∈ cs := fun k => M3.ord_mem cs k
  refine ⟨⟨h.n1, h.n2, fun c hc => h.wd c ((hm c).mp hc)⟩, M3.rising_pw.mpr (M3.ord_lt cs), ?_, ?_⟩
  · obtain ⟨c, hc⟩ := List.exists_mem_of_length_pos (show 0 < cs.length by omega)
    exact List.length_pos_of_mem ((hm c).mpr hc)
  · have := ded_len (sortS cs)
    rw [sort_len] at this
    omega
/-! ### texts joined -/
theorem join_fold : ∀ (l : List (List Nat)) (a : Array Nat), ((l.map mkS).foldl (fun acc p => acc ++ (mkS []).cps ++ p.cps) a).toList = a.toList ++ l.flatten
  | [], a => by simp
  | x :: l, a => by
    rw [List.map_cons, List.foldl_cons, join_fold l]
    simp [mkS]
theorem join_flat (l : List (List Nat)) : (PySem.Txt.join (mkS []) (l.map mkS)).cps.toList = l.flatten := by
  cases l with
  | nil => rfl
  | cons x r =>
    show (((r.map mkS).foldl (fun acc p => acc ++ (mkS []).cps ++ p.cps) (mkS x).cps)).toList = _
    rw [join_fold]
    simp [mkS]
theorem sum_ones : ∀ l : List (List Nat), (∀ x ∈ l, x.length = 1) → ((l.map mkS).map (·.length)).sum = l.length
  | [], _ => rfl
  | x :: l, h => by
    rw [List.map_cons, List.map_cons, List.sum_cons, sum_ones l fun y hy => h y (List.mem_cons_of_mem _ hy), List.length_cons]
    have : (mkS x).length = x.length := by simp [mkS, PySem.Str.length]
    rw [this, h x List.mem_cons_self]
    omega
theorem flat_ones : ∀ l : List (List Nat), (∀ x ∈ l, x.length = 1) → l.flatten.length = l.length
  | [], _ => rfl
  | x :: l, h => by
    rw [List.flatten_cons, List.length_append, flat_ones l fun y hy => h y (List.mem_cons_of_mem _ hy), h x List.mem_cons_self, List.length_cons]
    omega
theorem join_ok {l : List (List Nat)} (h : ∀ x ∈ l, x.length = 1 ∧ HD x) (hl : l.length ≤ 1000) : mtop .join (.str []) [.lst (l.map .str)] = some (.str l.flatten) := by
  show (strsOf (l.map .str)).bind _ = _
  rw [strsOf_map]
  show (if ((l.map mkS).map (·.length)).sum + (l.map mkS).length * (mkS []).length ≤ SZ && okS (PySem.Txt.join (mkS []) (l.map mkS)).cps.toList then some (PV.str (PySem.Txt.join (mkS []) (l.map mkS)).cps.toList) else none) = _
  rw [join_flat, sum_ones l fun x hx => (h x hx).1]
  have z : (mkS []).length = 0 := rfl
  rw [z, Nat.mul_zero, decide_eq_true (show l.length + 0 ≤ 16777216 by omega)]
  have : okS l.flatten = true := by
    unfold okS
    rw [List.all_eq_true]
    intro c hc
    obtain ⟨x, hx, hc⟩ := List.mem_flatten.mp hc
    rcases (h x hx).2 c hc with rfl | rfl <;> rfl
  rw [this]
  rfl
theorem flat_HD {l : List (List Nat)} (h : ∀ x ∈ l, HD x) : HD l.flatten := fun c hc => by
  obtain ⟨x, hx, hc⟩ := List.mem_flatten.mp hc
  exact h x hx c hc
/-! ### a drawn code -/
theorem some_ok (k : Nat) {xs : List PV} (h0 : xs ≠ []) (hl : xs.length < 1073741824) {s : Store} (hs : StA s) : ∃ (x : PV) (s' : Store), C (k + 2) 15 [.loc 0, .lst xs] s = .ok x s' ∧ x ∈ xs ∧ StA s' := by
  obtain ⟨a, b, rfl, ha⟩ := hs
  obtain ⟨x, a', b', e, hx, ha'⟩ := (somes k).1 xs h0 hl a b ha
  exact ⟨x, _, e, hx, a', b', rfl, ha'⟩
theorem signs_of : ∀ {ys : List PV}, (∀ y ∈ ys, y = .str [35] ∨ y = .str [46]) → ∃ l : List (List Nat), ys = l.map .str ∧ ∀ x ∈ l, x.length = 1 ∧ HD x
  | [], _ => ⟨[], rfl, fun _ h => by cases h⟩
  | y :: ys, h => by
    obtain ⟨l, rfl, hl⟩ := signs_of fun z hz => h z (List.mem_cons_of_mem _ hz)
    rcases h y List.mem_cons_self with rfl | rfl
    · exact ⟨[35] :: l, rfl, fun x hx => by
        rcases List.mem_cons.mp hx with rfl | hx
        · exact ⟨rfl, fun c hc => .inl (List.mem_singleton.mp hc)⟩
        · exact hl x hx⟩
    · exact ⟨[46] :: l, rfl, fun x hx => by
        rcases List.mem_cons.mp hx with rfl | hx
        · exact ⟨rfl, fun c hc => .inr (List.mem_singleton.mp hc)⟩
        · exact hl x hx⟩
theorem word_draw (k : Nat) (N : Int) (xs : List PV) (rg : range1op (.int N) = some xs) (hn : xs.length ≤ 12) (r1 r2 r3 r5 r6 : Option PV) {s : Store} (hs : StA s) : ∃ (w : List Nat) (s' : Store), ev (C (k + 2)) (.meth .join (.con (.str [])) (.cons c16_0 .nil)) [some (.loc 0), r1, r2, r3, some (.int N), r5, r6] s = .ok (.str w) s' ∧ w.length = xs.length ∧ HD w ∧ StA s' := by
  obtain ⟨ys, s', e, hs', hl, hy⟩ := compL_all (f := fun x s => (Res.ofO (asg (.name 6) x (wipe [some (.loc 0), r1, r2, r3, some (.int N), r5, r6] [6])) s).bind fun r1 s =>
      (ev (C (k + 2)) (.con (.bl true)) r1 s).bind fun b s => (Res.ofO (truth b) s).bind fun z s => if z then (ev (C (k + 2)) (.call 15 (.cons (.var 0) (.cons (.lst (.cons (.con (.str [35])) (.cons (.con (.str [46])) .nil))) .nil))) r1 s).bind fun y s => .ok (some y) s else .ok none s) (I := StA) (Q := fun y => y = .str [35] ∨ y = .str [46]) (xs := xs) (s := s) (fun x hx s hs => by
    obtain ⟨y, s1, e1, hy, hs1⟩ := some_ok k (xs := [.str [35], .str [46]]) (by simp) (by simp) hs
    refine ⟨y, s1, ?_, hs1, by simpa using hy⟩
    simp [PyI.wipe, e1, show 2 ≤ SZ by decide]) hs
  obtain ⟨l, rfl, hl2⟩ := signs_of hy
  rw [List.length_map] at hl
  have cm : ev (C (k + 2)) c16_0 [some (.loc 0), r1, r2, r3, some (.int N), r5, r6] s = .ok (.lst (l.map .str)) s' := by
    unfold c16_0
    rw [ev_comp, show evI (C (k + 2)) (.range1 (.var 4)) [some (.loc 0), r1, r2, r3, some (.int N), r5, r6] s = .ok xs s from evI_rg rfl rg, Res.bind_ok]
    have z : (l.map PV.str).length ≤ SZ := by rw [List.length_map, hl]; show _ ≤ 16777216; omega
    simp only [e, Res.bind_ok]
    rw [if_pos z]
  have jn := join_ok hl2 (by omega)
  refine ⟨l.flatten, s', ?_, by rw [flat_ones l fun x hx => (hl2 x hx).1, hl], flat_HD fun x hx => (hl2 x hx).2, hs'⟩
  simp [-ev_comp, cm, jn]
theorem words_loop (k : Nat) (n : Nat) (N : Int) (ns : List PV) (rg : range1op (.int N) = some ns) (hns : ns.length = n) (hn : n ≤ 12) (r1 r2 r6 : Option PV) : ∀ (xs : List PV) (ws : List (List Nat)) (r3 : Option PV) (s : Store), StA s → ws.length + xs.length ≤ 100 → (∀ w ∈ ws, w.length = n ∧ HD w) →
    ∃ (vs : List (List Nat)) (q3 : Option PV) (s' : Store), forL (fun x r s => (Res.ofO (asg (.name 3) x r) s).bind fun r s => exs (C (k + 2)) y16_0 r s) xs [some (.loc 0), r1, r2, r3, some (.int N), some (.lst (ws.map .str)), r6] s = .ok (.next [some (.loc 0), r1, r2, q3, some (.int N), some (.lst (vs.map .str)), r6]) s' ∧ StA s' ∧ vs.length = ws.length + xs.length ∧ ∀ w ∈ vs, w.length = n ∧ HD w
  | [], ws, r3, s, hs, _, hw => ⟨ws, r3, s, rfl, hs, rfl, hw⟩
  | x :: xs, ws, r3, s, hs, hl, hw => by
    rw [List.length_cons] at hl
    obtain ⟨w, s1, e1, lw, hd, hs1⟩ := word_draw k N ns rg (by omega) r1 r2 (some x) (some (.lst (ws.map .str))) r6 hs
    obtain ⟨vs, q3, s', ih, hs', lv, hv⟩ := words_loop k n N ns rg hns hn r1 r2 r6 xs (ws ++ [w]) (some x) s1 hs1 (by rw [List.length_append]; simp; omega) (fun v hv => by
      rcases List.mem_append.mp hv with hv | hv
      · exact hw v hv
      · rw [List.mem_singleton.mp hv]; exact ⟨lw.trans hns, hd⟩)
    refine ⟨vs, q3, s', ?_, hs', by rw [lv, List.length_append, List.length_cons]; simp; omega, hv⟩
    have st : exs (C (k + 2)) y16_0 [some (.loc 0), r1, r2, some x, some (.int N), some (.lst (ws.map .str)), r6] s = .ok (.next [some (.loc 0), r1, r2, some x, some (.int N), some (.lst ((ws ++ [w]).map .str)), r6]) s1 := by
      have z : (ws.map PV.str).length < SZ := by rw [List.length_map]; show _ < 16777216; omega
      rw [List.map_append]
      show _ = Res.ok (Fl.next [some (.loc 0), r1, r2, some x, some (.int N), some (.lst (ws.map .str ++ [.str w])), r6]) s1
      generalize ws.map PV.str = L at e1 z
      simp [-ev_meth, y16_0, e1, z]
    rw [forL_cons, show asg (.name 3) x [some (.loc 0), r1, r2, r3, some (.int N), some (.lst (ws.map .str)), r6] = some [some (.loc 0), r1, r2, some x, some (.int N), some (.lst (ws.map .str)), r6] from rfl, Res.ofO_some, Res.bind_ok, st, Res.bind_ok]
    exact ih
theorem code_draw_gen {cf : CF} {L M : PV} {a b : Int} {xs : List PV} {vs : PV} {S : List PV} {q3 q6 : Option PV} {s0 s1 s2 s3 : Store} (e1 : cf 14 [.loc 0, L] s0 = .ok (.int a) s1) (e2 : cf 14 [.loc 0, M] s1 = .ok (.int b) s2) (rg : range1op (.int (1 + b)) = some xs)
    (lp : forL (fun x r s => (Res.ofO (asg (.name 3) x r) s).bind fun r s => exs cf y16_0 r s) xs [some (.loc 0), some L, some M, none, some (.int (1 + a)), some (.lst []), none] s2 = .ok (.next [some (.loc 0), some L, some M, q3, some (.int (1 + a)), some vs, q6]) s3) (ss : ssetV vs = some (.lst S)) : runFn cf ⟨3, 7, b16⟩ [.loc 0, L, M] s0 = .ok (.tup S) s3 := by
  have z0 : 0 ≤ SZ := by decide
  have lp2 : ex cf s16_0 [some (.loc 0), some L, some M, none, some (.int (1 + a)), some (.lst []), none] s1 = .ok (.next [some (.loc 0), some L, some M, q3, some (.int (1 + a)), some vs, q6]) s3 := by
    unfold s16_0
    rw [ex_for_]
    have eI : evI cf (.range1 (.bin .add (.con (.int 1)) (.call 14 (.cons (.var 0) (.cons (.var 2) .nil))))) [some (.loc 0), some L, some M, none, some (.int (1 + a)), some (.lst []), none] s1 = .ok xs s2 := by
      simp [e2, rg]
    rw [eI, Res.bind_ok]
    exact lp
  rw [b16_eq]
  simp [-ex_for_, runFn, setsEnv, e1, lp2, ss, z0]
theorem code_draw (k : Nat) (longest most : Int) (h1 : 1 ≤ longest) (h2 : longest ≤ 12) (h3 : 1 ≤ most) (h4 : most ≤ 12) {s : Store} (hs : StA s) : ∃ (n : Nat) (cs : List (List Nat)) (s' : Store), C (k + 3) 16 [.loc 0, .int longest, .int most] s = .ok (cdV cs) s' ∧ StA s' ∧ Cd n cs ∧ cs.length ≤ 12 := by
  obtain ⟨a, s1, e1, a1, a2, hs1⟩ := roll (k + 1) longest (by omega) (by omega) hs
  obtain ⟨b, s2, e2, b1, b2, hs2⟩ := roll (k + 1) most (by omega) (by omega) hs1
  obtain ⟨n, hn⟩ : ∃ n : Nat, 1 + a = (n : Int) := ⟨(1 + a).toNat, by omega⟩
  obtain ⟨m, hm⟩ : ∃ m : Nat, 1 + b = (m : Int) := ⟨(1 + b).toNat, by omega⟩
  obtain ⟨vs, q3, s3, lp, hs3, lv, hv⟩ := words_loop k n (n : Int) (rangeL 0 n) (range1_nat n (by omega)) (rangeL_lenN 0 n) (by omega) (some (.int longest)) (some (.int most)) none (rangeL 0 m) [] none s2 hs2 (by rw [rangeL_lenN]; simp; omega) (fun _ h => by cases h)
  rw [rangeL_lenN] at lv
  rw [← hn] at lp
  simp only [List.length_nil, Nat.zero_add] at lv
  have w : Ws n vs := ⟨by omega, by omega, hv⟩
  refine ⟨n, dedS (sortS vs), s3, ?_, hs3, ord_code w (by omega) (by omega), ?_⟩
  · show runFn (C (k + 2)) ⟨3, 7, b16⟩ _ s = _
    exact code_draw_gen e1 e2 (by rw [hm]; exact range1_nat m (by omega)) lp (sset_strs (fun e => by rw [e] at lv; simp at lv; omega) (by omega))
  · have := ded_len (sortS vs)
    rw [sort_len] at this
    omega
end K18

set_option maxRecDepth 100000
set_option maxHeartbeats 4000000
/-! L18g: codes that show their beginning, drawn. -/
namespace K18
open PyI
theorem whileL_s {c : Env → Store → Res Bool} {f : Env → Store → Res Fl} {n : Nat} {r : Env} {s : Store} : whileL c f (n + 1) r s = (c r s).bind fun k s => if k then (f r s).bind fun fl s => match fl with
      | .next r => whileL c f n r s
      | .cont r => whileL c f n r s
      | .brk r => .ok (.next r) s
      | .ret v => .ok (.ret v) s
    else .ok (.next r) s := rfl
theorem ixN_nat {n i : Nat} (h : i < n) : ixN n (i : Int) = some i := by
  unfold ixN
  rw [if_pos (by omega), if_pos (by omega)]
  simp
theorem erase_map (ws : List (List Nat)) (i : Nat) : (ws.map PV.str).eraseIdx i = (ws.eraseIdx i).map .str := by
  induction ws generalizing i with
  | nil => rfl
  | cons w ws ih =>
    cases i with
    | zero => rfl
    | succ i =>
      show PV.str w :: (ws.map PV.str).eraseIdx i = PV.str w :: (ws.eraseIdx i).map .str
      rw [ih]
theorem pop_step {cf : CF} {r1 r4 : Option PV} {L : List PV} {f : List PV} {N i : Int} {w : PV} {m : Nat} {z : Bool} {f2 : List PV} {s s1 : Store} (len : blt1 .len (.lst L) = some (.int N)) (e1 : cf 14 [.loc 0, .int N] s = .ok (.int i) s1) (ix : ixN L.length i = some m) (hw : L[m]? = some w) (li : lim63 i = true) (ad : binop .add (.tup f) (.tup [w]) = some (.tup f2)) (e2 : cf 17 [.tup f2] s1 = .ok (.bl z) s1) :
    exs cf y18_0 [some (.loc 0), r1, some (.lst L), some (.tup f), r4] s = .ok (.next [some (.loc 0), r1, some (.lst (L.eraseIdx m)), some (.tup (if z = true then f2 else f)), some w]) s1 := by
  have z1 : 1 ≤ SZ := by decide
  cases z with
  | true => simp [-o_addT, -o_lenL, y18_0, len, e1, ix, hw, li, ad, e2, lendOk, listFree, z1]
  | false => simp [-o_addT, -o_lenL, y18_0, len, e1, ix, hw, li, ad, e2, lendOk, listFree, z1]
theorem ne_nil {cf : CF} {r0 r1 r3 r4 : Option PV} {L : List PV} {z : Bool} {s : Store} (h : cmpop .ne (.lst L) (.lst []) = some z) : ((ev cf (.lend [2] (.cmp .ne (.var 2) (.lst .nil))) [r0, r1, some (.lst L), r3, r4] s).bind fun x s => Res.ofO (truth x) s) = .ok z s := by
  have z0 : 0 ≤ SZ := by decide
  simp [h, lendOk, listFree, z0]
theorem ne_strs (ws : List (List Nat)) : cmpop .ne (.lst (ws.map .str)) (.lst []) = some (!ws.isEmpty) := by
  have d := isDs_strs (fun x => x) ws
  have e := depths_strs (fun x => x) ws
  rw [o_neNilL d (by rw [e]; omega), List.isEmpty_map]
theorem shown_loop (k : Nat) {n : Nat} {cs : List (List Nat)} (h : Ws n cs) (r1 : Option PV) : ∀ (m : Nat) (fuel : Nat) (left fs : List (List Nat)) (r4 : Option PV) (s : Store), left.length ≤ m → m < fuel → StA s → left.length + fs.length ≤ 40 → (∀ w ∈ left, w ∈ cs) → (∀ w ∈ fs, w ∈ cs) → (left ++ fs).Nodup →
    ∃ (gs : List (List Nat)) (q4 : Option PV) (s' : Store), whileL (fun r s => (ev (C (k + 1)) (.lend [2] (.cmp .ne (.var 2) (.lst .nil))) r s).bind fun x s => Res.ofO (truth x) s) (fun r s => exs (C (k + 1)) y18_0 r s) fuel [some (.loc 0), r1, some (.lst (left.map .str)), some (.tup (fs.map .str)), r4] s = .ok (.next [some (.loc 0), r1, some (.lst []), some (.tup (gs.map .str)), q4]) s' ∧ StA s' ∧ gs.length ≤ left.length + fs.length ∧ (∀ w ∈ gs, w ∈ cs) ∧ gs.Nodup
  | m, fuel, [], fs, r4, s, _, hf, hs, _, _, hfs, hnd => by
    obtain ⟨f, rfl⟩ : ∃ f, fuel = f + 1 := ⟨fuel - 1, by omega⟩
    refine ⟨fs, r4, s, ?_, hs, by simp, hfs, by simpa using hnd⟩
    have c := ne_nil (cf := C (k + 1)) (r0 := some (.loc 0)) (r1 := r1) (r3 := some (.tup (fs.map .str))) (r4 := r4) (s := s) (ne_strs [])
    rw [whileL_s]
    rw [c, Res.bind_ok]
    rfl
  | 0, fuel, w :: ws, fs, r4, s, hm, _, _, _, _, _, _ => by simp at hm
  | m + 1, fuel, w0 :: ws0, fs, r4, s, hm, hf, hs, hl, hlw, hfs, hnd => by
    obtain ⟨f, rfl⟩ : ∃ f, fuel = f + 1 := ⟨fuel - 1, by omega⟩
    generalize hL : w0 :: ws0 = left at *
    have lp : 0 < left.length := by rw [← hL]; simp
    have le : left.isEmpty = false := by rw [← hL]; rfl
    have c := ne_nil (cf := C (k + 1)) (r0 := some (.loc 0)) (r1 := r1) (r3 := some (.tup (fs.map .str))) (r4 := r4) (s := s) (ne_strs left)
    rw [le] at c
    have len : blt1 .len (.lst (left.map PV.str)) = some (.int (left.length : Int)) := by
      have : blt1 .len (.lst (left.map PV.str)) = some (.int ((left.map PV.str).length : Int)) := rfl
      rw [this, List.length_map]
    obtain ⟨i, s1, e1, i1, i2, hs1⟩ := roll k (left.length : Int) (by omega) (by omega) hs
    obtain ⟨j, hj⟩ : ∃ j : Nat, i = (j : Int) := ⟨i.toNat, by omega⟩
    have hjl : j < left.length := by omega
    have ix : ixN (left.map PV.str).length i = some j := by rw [hj, List.length_map]; exact ixN_nat hjl
    have hw : (left.map PV.str)[j]? = some (.str left[j]) := by rw [List.getElem?_map, List.getElem?_eq_getElem hjl]; rfl
    have li : lim63 i = true := lim63_of (by omega) (by omega)
    have ad := o_addT' (x := fs.map PV.str) (y := [.str left[j]]) (by rw [List.length_map]; omega) (by simp)
    have ad : binop .add (.tup (fs.map PV.str)) (.tup [.str left[j]]) = some (.tup ((fs ++ [left[j]]).map .str)) := by rw [ad, List.map_append]; rfl
    have wj : left[j] ∈ cs := hlw _ (List.getElem_mem hjl)
    have hf2 : ∀ w ∈ fs ++ [left[j]], w ∈ cs := fun w hw => by
      rcases List.mem_append.mp hw with hw | hw
      · exact hfs w hw
      · rw [List.mem_singleton.mp hw]; exact wj
    have w2 : Ws n (fs ++ [left[j]]) := ⟨h.n1, h.n2, fun w hw => h.wd w (hf2 w hw)⟩
    have e2 := lawshows_ok k w2 (by rw [List.length_append]; simp; omega) s1
    have st := pop_step (r1 := r1) (r4 := r4) len e1 ix hw li ad e2
    rw [erase_map] at st
    have lel : (left.eraseIdx j).length = left.length - 1 := List.length_eraseIdx_of_lt hjl
    have sub : ∀ w ∈ left.eraseIdx j, w ∈ left := fun w hw => List.mem_of_mem_eraseIdx hw
    have nd1 := List.nodup_append.mp hnd
    have nde : (left.eraseIdx j).Nodup := List.Nodup.sublist (List.eraseIdx_sublist left j) nd1.1
    have nj : left[j] ∉ left.eraseIdx j := by
      intro z
      obtain ⟨q, hq, e⟩ := List.getElem_of_mem z
      rw [List.getElem_eraseIdx] at e
      split at e
      · have := (List.getElem_inj nd1.1).mp e; omega
      · have := (List.getElem_inj nd1.1).mp e; omega
    cases z : showsB n (fs ++ [left[j]]) with
    | true =>
      rw [z] at st
      simp only [if_true] at st
      obtain ⟨gs, q4, s', ih, hs', gl, gm, gn⟩ := shown_loop k h r1 m f (left.eraseIdx j) (fs ++ [left[j]]) (some (.str left[j])) s1 (by omega) (by omega) hs1 (by rw [List.length_append]; simp; omega) (fun w hw => hlw w (sub w hw)) hf2 (by
        rw [List.nodup_append]
        refine ⟨nde, ?_, ?_⟩
        · rw [List.nodup_append]
          exact ⟨nd1.2.1, by simp, fun a ha b hb e => by
            rw [List.mem_singleton.mp hb] at e
            exact nd1.2.2 _ (List.getElem_mem hjl) a ha e.symm⟩
        · intro a ha b hb e
          rcases List.mem_append.mp hb with hb | hb
          · exact nd1.2.2 a (sub a ha) b hb e
          · rw [List.mem_singleton.mp hb] at e
            exact nj (e ▸ ha))
      refine ⟨gs, q4, s', ?_, hs', by rw [List.length_append] at gl; simp at gl; omega, gm, gn⟩
      rw [whileL_s]
      rw [c, Res.bind_ok, Bool.not_false, if_pos rfl]
      rw [st, Res.bind_ok]
      exact ih
    | false =>
      rw [z] at st
      rw [if_neg (by decide)] at st
      obtain ⟨gs, q4, s', ih, hs', gl, gm, gn⟩ := shown_loop k h r1 m f (left.eraseIdx j) fs (some (.str left[j])) s1 (by omega) (by omega) hs1 (by omega) (fun w hw => hlw w (sub w hw)) hfs (by
        rw [List.nodup_append]
        exact ⟨nde, nd1.2.1, fun a ha b hb e => nd1.2.2 a (sub a ha) b hb e⟩)
      refine ⟨gs, q4, s', ?_, hs', by omega, gm, gn⟩
      rw [whileL_s]
      rw [c, Res.bind_ok, Bool.not_false, if_pos rfl]
      rw [st, Res.bind_ok]
      exact ih
theorem sorted_tup (gs : List (List Nat)) : blt1 .sorted (.tup (gs.map .str)) = some (.lst ((sortS gs).map .str)) := by
  show (strsOf (gs.map .str)).map _ = _
  rw [strsOf_map]
  rfl
theorem shown_gen {cf : CF} {code : PV} {L gs S : List PV} {q4 : Option PV} {s s1 : Store} (e0 : blt1 .list code = some (.lst L))
    (lp : ex cf s18_0 [some (.loc 0), some code, some (.lst L), some (.tup []), none] s = .ok (.next [some (.loc 0), some code, some (.lst []), some (.tup gs), q4]) s1) (e1 : blt1 .sorted (.tup gs) = some (.lst S)) : runFn cf ⟨2, 5, b18⟩ [.loc 0, code] s = .ok (.tup S) s1 := by
  have z0 : 0 ≤ SZ := by decide
  rw [b18_eq]
  simp [-ex_while_, runFn, setsEnv, e0, lp, e1, z0]
theorem shown_draw (k : Nat) {n : Nat} {cs : List (List Nat)} (h : Cd n cs) {s : Store} (hs : StA s) : ∃ (gs : List (List Nat)) (s' : Store), C (k + 2) 18 [.loc 0, cdV cs] s = .ok (cdV gs) s' ∧ StA s' ∧ (gs = [] ∨ Cd n gs) ∧ gs.length ≤ cs.length := by
  have l2 := h.l2
  obtain ⟨gs, q4, s', lp, hs', gl, gm, gn⟩ := shown_loop k h.ws (some (cdV cs)) cs.length FUEL cs [] none s (Nat.le_refl _) (show cs.length < 1000000 by omega) hs (by simp; omega) (fun _ hw => hw) (fun _ hw => by cases hw) (by rw [List.append_nil]; exact h.nd)
  simp only [List.length_nil, Nat.add_zero] at gl
  refine ⟨sortS gs, s', ?_, hs', ?_, by rw [sort_len]; exact gl⟩
  · show runFn (C (k + 1)) ⟨2, 5, b18⟩ _ s = _
    refine shown_gen (L := cs.map .str) (q4 := q4) rfl ?_ (sorted_tup gs)
    unfold s18_0
    rw [ex_while_]
    exact lp
  · by_cases e : gs = []
    · left
      rw [e]
      rfl
    · right
      exact sort_code ⟨h.ws.n1, h.ws.n2, fun c hc => h.ws.wd c (gm c hc)⟩ gn (List.length_pos_iff.mpr e) (by omega)
end K18

set_option maxRecDepth 100000
set_option maxHeartbeats 4000000
/-! L18h: one code, judged. -/
namespace K18
open PyI
theorem step_str {x : List Nat} (h : x.length ≤ 1000) : stepV (.str x) none none = some (.str x.reverse) := if_pos (show _ ≤ 16777216 by omega)
theorem flat_ex : ∀ w : List Nat, (w.map fun c => [exS c]).flatten = exW w
  | [] => rfl
  | c :: w => by
    rw [List.map_cons, List.flatten_cons, flat_ex w]
    rfl
theorem sorted_strs {xs : List (List Nat)} (h0 : xs ≠ []) (hl : xs.length < 64) : blt1 .sorted (.lst (xs.map .str)) = some (.lst ((sortS xs).map .str)) := by
  cases xs with
  | nil => exact absurd rfl h0
  | cons x r =>
    show (match intsOf ((x :: r).map .str) with
      | some l => some (PV.lst ((sortI l).map .int))
      | none => (match strsOf ((x :: r).map .str) with
        | some l => if l.length < 64 then some (.lst ((sortS l).map .str)) else none
        | none => none)) = _
    rw [strsOf_map]
    show (if (x :: r).length < 64 then some (PV.lst ((sortS (x :: r)).map .str)) else none) = _
    rw [if_pos hl]
theorem compL_sub {f : PV → Store → Res (Option PV)} {I : Store → Prop} : ∀ {xs : List (List Nat)} {s : Store}, (∀ x ∈ xs, ∀ s, I s → ∃ (z : Bool) (s' : Store), f (.str x) s = .ok (if z = true then some (.str x) else none) s' ∧ I s') → I s → ∃ (ys : List (List Nat)) (s' : Store), compL f (xs.map .str) s = .ok (ys.map .str) s' ∧ I s' ∧ ys.Sublist xs
  | [], s, _, hI => ⟨[], s, rfl, hI, List.Sublist.refl _⟩
  | x :: xs, s, h, hI => by
    obtain ⟨z, s1, e1, hI1⟩ := h x List.mem_cons_self s hI
    obtain ⟨ys, s2, e2, hI2, hq⟩ := compL_sub (xs := xs) (fun z hz => h z (List.mem_cons_of_mem _ hz)) hI1
    cases z with
    | true =>
      refine ⟨x :: ys, s2, ?_, hI2, hq.cons_cons x⟩
      rw [List.map_cons, compL, e1, Res.bind_ok, e2]
      rfl
    | false =>
      refine ⟨ys, s2, ?_, hI2, hq.cons x⟩
      rw [List.map_cons, compL, e1, Res.bind_ok, e2]
      rfl
theorem trs_d (l : List Tr) : isDs (l.map trV) = true ∧ depths (l.map trV) ≤ 1 := ⟨isDs_of fun v hv => by obtain ⟨t, _, rfl⟩ := List.mem_map.mp hv; rfl, depths_of fun v hv => by obtain ⟨t, _, rfl⟩ := List.mem_map.mp hv; exact Nat.le_refl _⟩
theorem trs_eq (l : List Tr) : cmpop .eq (.tup (l.map trV)) (.tup []) = some l.isEmpty := by
  rw [o_eqNilT (trs_d l).1 (Nat.le_trans (trs_d l).2 (by omega)), List.isEmpty_map]
theorem neBB (b : Bool) : cmpop .ne (.bl b) (.bl b) = some false := by cases b <;> rfl
theorem back_comp {cf : CF} {cs : List (List Nat)} (h : ∀ c ∈ cs, c.length ≤ 1000) (hz : cs.length ≤ 1000) (r0 r2 r3 r4 r5 r6 r7 r8 r9 r10 r11 : Option PV) (s : Store) : ev cf c22_0 [r0, some (cdV cs), r2, r3, r4, r5, r6, r7, r8, r9, r10, r11] s = .ok (.lst ((cs.map List.reverse).map .str)) s := by
  have eI : evI cf (.seq (.var 1)) [r0, some (cdV cs), r2, r3, r4, r5, r6, r7, r8, r9, r10, r11] s = .ok (cs.map .str) s := rfl
  have := comp_map (cf := cf) (vs := [10]) (t := .name 10) (e := .step (.var 10) (.con .non) (.con .non)) (g := fun v => match v with | .str x => .str x.reverse | _ => .non) eI (fun v hv => by
    obtain ⟨c, hc, rfl⟩ := List.mem_map.mp hv
    have q := step_str (h c hc)
    exact ⟨_, rfl, by simp [PyI.wipe, partOf, q]⟩) (by rw [List.length_map]; omega)
  rw [List.map_map] at this
  rw [List.map_map]
  exact this
theorem sign_comp {cf : CF} {w : List Nat} (hd : HD w) (hz : w.length ≤ 1000) (r0 r1 r2 r3 r4 r5 r6 r7 r8 r9 r11 : Option PV) (s : Store) : ev cf (.meth .join (.con (.str [])) (.cons c22_1 .nil)) [r0, r1, r2, r3, r4, r5, r6, r7, r8, r9, some (.str w), r11] s = .ok (.str (exW w)) s := by
  have eI : evI cf (.seq (.var 10)) [r0, r1, r2, r3, r4, r5, r6, r7, r8, r9, some (.str w), r11] s = .ok (w.map fun c => .str [c]) s := rfl
  have cm : ev cf c22_1 [r0, r1, r2, r3, r4, r5, r6, r7, r8, r9, some (.str w), r11] s = .ok (.lst ((w.map fun c => [exS c]).map .str)) s := by
    have := comp_map (cf := cf) (vs := [11]) (t := .name 11) (e := .ite (.cmp .eq (.var 11) (.con (.str [35]))) (.con (.str [46])) (.con (.str [35]))) (g := fun v => match v with | .str [c] => .str [exS c] | _ => .non) eI (fun v hv => by
      obtain ⟨c, hc, rfl⟩ := List.mem_map.mp hv
      refine ⟨_, rfl, ?_⟩
      rcases hd c hc with rfl | rfl
      · have q : cmpop .eq (.str [35]) (.str [35]) = some true := rfl
        show _ = Res.ok (PV.str [46]) s
        simp [PyI.wipe, q]
      · have q : cmpop .eq (.str [46]) (.str [35]) = some false := rfl
        show _ = Res.ok (PV.str [35]) s
        simp [PyI.wipe, q]) (by rw [List.length_map]; omega)
    rw [List.map_map] at this
    rw [List.map_map]
    exact this
  have jn := join_ok (l := w.map fun c => [exS c]) (fun x hx => by
    obtain ⟨c, hc, rfl⟩ := List.mem_map.mp hx
    refine ⟨rfl, fun d hd => ?_⟩
    rw [List.mem_singleton.mp hd]
    unfold exS
    split
    · exact .inr rfl
    · exact .inl rfl) (by rw [List.length_map]; exact hz)
  have fl := flat_ex w
  rw [fl] at jn
  generalize (w.map fun c => [exS c]).map PV.str = L at cm jn
  simp [-ev_comp, cm, jn]

theorem other_comp {cf : CF} {cs : List (List Nat)} (h : ∀ c ∈ cs, c.length ≤ 1000 ∧ HD c) (hz : cs.length ≤ 1000) (r0 r2 r3 r4 r5 r6 r7 r8 r9 r10 r11 : Option PV) (s : Store) : ev cf c22_2 [r0, some (cdV cs), r2, r3, r4, r5, r6, r7, r8, r9, r10, r11] s = .ok (.lst ((cs.map exW).map .str)) s := by
  have eI : evI cf (.seq (.var 1)) [r0, some (cdV cs), r2, r3, r4, r5, r6, r7, r8, r9, r10, r11] s = .ok (cs.map .str) s := rfl
  have := comp_map (cf := cf) (vs := [10]) (t := .name 10) (e := .meth .join (.con (.str [])) (.cons c22_1 .nil)) (g := fun v => match v with | .str x => .str (exW x) | _ => .non) eI (fun v hv => by
    obtain ⟨c, hc, rfl⟩ := List.mem_map.mp hv
    exact ⟨_, rfl, sign_comp (h c hc).2 (h c hc).1 r0 (some (cdV cs)) r2 r3 r4 r5 r6 r7 r8 r9 r11 s⟩) (by rw [List.length_map]; omega)
  rw [List.map_map] at this
  rw [List.map_map]
  exact this
theorem near_e {cf : CF} {rs P S : List PV} {at' : Int} {x : PV} {r0 r2 r3 r4 r5 r7 r8 r10 r11 : Option PV} {s : Store} (f1 : slV (.tup rs) none (some at') = some (.tup P)) (f2 : slV (.tup rs) (some (at' + 1)) none = some (.tup S)) (l1 : P.length ≤ 100) (l2 : S.length ≤ 100) :
    ev cf (.bin .add (.bin .add (.slice (.var 1) (.con .non) (.var 6)) (.tup (.cons (.var 9) .nil))) (.slice (.var 1) (.bin .add (.var 6) (.con (.int 1))) (.con .non))) [r0, some (.tup rs), r2, r3, r4, r5, some (.int at'), r7, r8, some x, r10, r11] s = .ok (.tup (P ++ [x] ++ S)) s := by
  have a3 := o_addT' (x := P) (y := [x]) (by omega) (by simp)
  have a4 := o_addT' (x := P ++ [x]) (y := S) (by simp; omega) (by omega)
  have z1 : 1 ≤ SZ := by decide
  generalize (P ++ [x] ++ S) = q3 at a4 ⊢
  generalize (P ++ [x]) = q2 at a3 a4
  simp [-o_addT, f1, f2, a3, a4, partOf, z1]
theorem odds_it {cf : CF} {rs : List PV} {w w1 w2 w3 w4 : List Nat} {at' N : Int} {r0 r2 r3 r4 r5 r7 r8 r9 r10 r11 : Option PV} {s : Store} (e1 : subS s (.tup rs) (.int at') = some (.str w)) (e2 : binop .add (.str w) (.str [35]) = some (.str w1)) (e3 : slV (.str w) (some 1) none = some (.str w2)) (e4 : binop .add (.str [120]) (.str w2) = some (.str w3)) (e5 : blt1 .len (.str w) = some (.int N)) (e6 : binop .mul (.str [32]) (.int N) = some (.str w4)) :
    evI cf (.seq (.tup (.cons (.con .non) (.cons (.con (.str [])) (.cons (.bin .add (.sub (.var 1) (.var 6)) (.con (.str [35]))) (.cons (.slice (.sub (.var 1) (.var 6)) (.con (.int 1)) (.con .non)) (.cons (.bin .add (.con (.str [120])) (.slice (.sub (.var 1) (.var 6)) (.con (.int 1)) (.con .non))) (.cons (.bin .mul (.con (.str [32])) (.blt .len (.cons (.sub (.var 1) (.var 6)) .nil))) (.cons (.con (.int 0)) (.cons (.tup (.cons (.sub (.var 1) (.var 6)) .nil)) .nil)))))))))) [r0, some (.tup rs), r2, r3, r4, r5, some (.int at'), r7, r8, r9, r10, r11] s = .ok [.non, .str [], .str w1, .str w2, .str w3, .str w4, .int 0, .tup [.str w]] s := by
  have z1 : 1 ≤ SZ := by decide
  have z8 : 8 ≤ SZ := by decide
  simp [-o_addS, -o_subT, e1, e2, e3, e4, e5, e6, itemsOf, partOf, z1, z8]
theorem more_it {cf : CF} {rs O : List PV} {w : PV} {rv rl la : List PV} {t1 t2 G : List PV} {at' : Int} {r0 r2 r3 r4 r5 r8 r9 r10 r11 : Option PV} {s : Store} (g1 : stepV (.tup rs) none none = some (.tup rv)) (g2 : slV (.tup rs) (some (-1)) none = some (.tup la)) (g3 : binop .add (.tup rs) (.tup la) = some (.tup rl)) (e1 : subS s (.tup rs) (.int at') = some w) (g4 : binop .add (.tup rs) (.tup [.str [46]]) = some (.tup t1)) (g5 : binop .add (.tup [.str [35]]) (.tup rs) = some (.tup t2)) (g6 : binop .add (.lst O) (.lst [.tup rv, .tup rl, .lst rs, .tup [], .non, w, .tup t1, .tup t2]) = some (.lst G)) :
    evI cf (.seq (.bin .add (.var 7) (.lst (.cons (.step (.var 1) (.con .non) (.con .non)) (.cons (.bin .add (.var 1) (.slice (.var 1) (.un .neg (.con (.int 1))) (.con .non))) (.cons (.blt .list (.cons (.var 1) .nil)) (.cons (.tup .nil) (.cons (.con .non) (.cons (.sub (.var 1) (.var 6)) (.cons (.bin .add (.var 1) (.tup (.cons (.con (.str [46])) .nil))) (.cons (.bin .add (.tup (.cons (.con (.str [35])) .nil)) (.var 1)) .nil))))))))))) [r0, some (.tup rs), r2, r3, r4, r5, some (.int at'), some (.lst O), r8, r9, r10, r11] s = .ok G s := by
  have z0 : 0 ≤ SZ := by decide
  have z1 : 1 ≤ SZ := by decide
  have z8 : 8 ≤ SZ := by decide
  have g7 : blt1 .list (.tup rs) = some (.lst rs) := rfl
  simp [-o_addT, -o_addL, -o_subT, g1, g2, g3, e1, g4, g5, g6, g7, itemsOf, partOf, z0, z1, z8]
theorem judge (k : Nat) (v : PV) (hv : Ok v) (r0 r1 r2 r3 r4 r5 r6 r7 r9 r10 r11 : Option PV) (s : Store) : exs (C (k + 3)) y22_0 [r0, r1, r2, r3, r4, r5, r6, r7, some v, r9, r10, r11] s = .ok (.next [r0, r1, r2, r3, r4, r5, r6, r7, some v, r9, r10, r11]) s := by
  have a1 := iscode_ok k v s hv
  have a2 := lawcode_ok (k + 1) v s hv
  have a3 := like 0 (k + 1) (.bl (codeB v)) s rfl (Nat.le_refl _)
  generalize codeB v = bb at a1 a2 a3
  simp [y22_0, a1, a2, a3]
theorem judge_loop (k : Nat) (r0 r1 r2 r3 r4 r5 r6 r7 r9 r10 r11 : Option PV) (s : Store) : ∀ (xs : List PV) (r8 : Option PV), (∀ v ∈ xs, Ok v) → ∃ q8, forL (fun x r s => (Res.ofO (asg (.name 8) x r) s).bind fun r s => exs (C (k + 3)) y22_0 r s) xs [r0, r1, r2, r3, r4, r5, r6, r7, r8, r9, r10, r11] s = .ok (.next [r0, r1, r2, r3, r4, r5, r6, r7, q8, r9, r10, r11]) s
  | [], r8, _ => ⟨r8, rfl⟩
  | x :: xs, r8, h => by
    obtain ⟨q8, ih⟩ := judge_loop k r0 r1 r2 r3 r4 r5 r6 r7 r9 r10 r11 s xs (some x) fun v hv => h v (List.mem_cons_of_mem _ hv)
    refine ⟨q8, ?_⟩
    rw [forL_cons, show asg (.name 8) x [r0, r1, r2, r3, r4, r5, r6, r7, r8, r9, r10, r11] = some [r0, r1, r2, r3, r4, r5, r6, r7, some x, r9, r10, r11] from rfl, Res.ofO_some, Res.bind_ok, judge k x (h x List.mem_cons_self), Res.bind_ok]
    exact ih
theorem right_gen {cf : CF} {code X : PV} {A A2 B B2 XB Pt O : List PV} {N at' m : Int} {z zp : Bool} {q8 : Option PV} {s0 s1 s2 : Store}
    (e20 : cf 20 [code] s0 = .ok X s0) (q : cmpop .eq X (.tup []) = some z) (e9 : cf 9 [code] s0 = .ok (.bl true) s0) (e8 : cf 8 [code] s0 = .ok X s0) (e11 : cf 11 [code] s0 = .ok (.bl z) s0)
    (e13 : cf 13 [.lst [.bl true, X, .bl z], .lst [.bl true, X, .bl z]] s0 = .ok (.bl true) s0) (e17 : cf 17 [code] s0 = .ok (.bl z) s0)
    (c0 : ev cf c22_0 [some (.loc 0), some code, some X, none, none, none, none, none, none, none, none, none] s0 = .ok (.lst A) s0) (sA : blt1 .sorted (.lst A) = some (.lst A2))
    (c2 : ev cf c22_2 [some (.loc 0), some code, some X, some (.tup A2), none, none, none, none, none, none, none, none] s0 = .ok (.lst B) s0) (sB : blt1 .sorted (.lst B) = some (.lst B2))
    (e11b : cf 11 [.tup A2] s0 = .ok (.bl z) s0) (e11o : cf 11 [.tup B2] s0 = .ok (.bl z) s0) (e8b : cf 8 [.tup A2] s0 = .ok (.tup XB) s0) (lb : blt1 .len (.tup XB) = some (.int m)) (lx : blt1 .len X = some (.int m))
    (e13b : cf 13 [.lst [.bl z, .bl z, .int m], .lst [.bl z, .bl z, .int m]] s0 = .ok (.bl true) s0)
    (c3 : ev cf c22_3 [some (.loc 0), some code, some X, some (.tup A2), some (.tup B2), none, none, none, none, none, none, none] s0 = .ok (.lst Pt) s1)
    (np : cmpop .ne (.tup Pt) (.tup []) = some zp) (e11p : zp = true → z = true → cf 11 [.tup Pt] s1 = .ok (.bl true) s1)
    (ln : blt1 .len code = some (.int N)) (e14 : cf 14 [.loc 0, .int N] s1 = .ok (.int at') s2)
    (c4 : ev cf c22_4 [some (.loc 0), some code, some X, some (.tup A2), some (.tup B2), some (.tup Pt), some (.int at'), none, none, none, none, none] s2 = .ok (.lst O) s2)
    (lp : ex cf s22_0 [some (.loc 0), some code, some X, some (.tup A2), some (.tup B2), some (.tup Pt), some (.int at'), some (.lst O), none, none, none, none] s2 = .ok (.next [some (.loc 0), some code, some X, some (.tup A2), some (.tup B2), some (.tup Pt), some (.int at'), some (.lst O), q8, none, none, none]) s2) :
    runFn cf ⟨2, 12, b22⟩ [.loc 0, code] s0 = .ok (.bl true) s2 := by
  rw [b22_eq]
  have z0 : 0 ≤ SZ := by decide
  have z3 : 3 ≤ SZ := by decide
  have nb := neBB z
  have ib : cmpop .isNotB (.bl true) (.bl true) = some false := rfl
  cases zp with
  | false => simp [-ev_comp, -ex_for_, -o_lenT, runFn, e20, q, e9, e8, e11, e13, e17, c0, sA, c2, sB, e11b, e11o, e8b, lb, lx, e13b, c3, np, ln, e14, c4, lp, nb, z0, z3]
  | true =>
    cases z with
    | false => simp [-ev_comp, -ex_for_, -o_lenT, runFn, e20, q, e9, e8, e11, e13, e17, c0, sA, c2, sB, e11b, e11o, e8b, lb, lx, e13b, c3, np, ln, e14, c4, lp, nb, z0, z3]
    | true =>
      have e11p := e11p rfl rfl
      simp [-ev_comp, -ex_for_, -o_lenT, runFn, e20, q, e9, e8, e11, e13, e17, c0, sA, c2, sB, e11b, e11o, e8b, lb, lx, e13b, c3, np, e11p, ib, ln, e14, c4, lp, nb, z0, z3]
theorem part_comp (k : Nat) {cs : List (List Nat)} (hz : cs.length ≤ 1000) (r2 r3 r4 r5 r6 r7 r8 r9 r10 r11 : Option PV) {s : Store} (hs : StA s) : ∃ (ps : List (List Nat)) (s' : Store), ev (C (k + 1)) c22_3 [some (.loc 0), some (cdV cs), r2, r3, r4, r5, r6, r7, r8, r9, r10, r11] s = .ok (.lst (ps.map .str)) s' ∧ StA s' ∧ ps.Sublist cs := by
  obtain ⟨ps, s', e, hs', sub⟩ := compL_sub (f := fun x s => (Res.ofO (asg (.name 10) x (wipe [some (.loc 0), some (cdV cs), r2, r3, r4, r5, r6, r7, r8, r9, r10, r11] [10])) s).bind fun r1 s =>
      (ev (C (k + 1)) (.cmp .eq (.call 14 (.cons (.var 0) (.cons (.con (.int 2)) .nil))) (.con (.int 0))) r1 s).bind fun b s => (Res.ofO (truth b) s).bind fun z s => if z then (ev (C (k + 1)) (.var 10) r1 s).bind fun y s => .ok (some y) s else .ok none s) (I := StA) (xs := cs) (s := s) (fun x hx s hs => by
    obtain ⟨i, s1, e1, _, _, hs1⟩ := roll k 2 (by omega) (by omega) hs
    refine ⟨decide (i = 0), s1, ?_, hs1⟩
    by_cases h : i = 0
    · subst h
      simp [PyI.wipe, e1]
    · simp [PyI.wipe, e1, h]) hs
  refine ⟨ps, s', ?_, hs', sub⟩
  unfold c22_3
  rw [ev_comp, show evI (C (k + 1)) (.seq (.var 1)) [some (.loc 0), some (cdV cs), r2, r3, r4, r5, r6, r7, r8, r9, r10, r11] s = .ok (cs.map .str) s from rfl, Res.bind_ok]
  have z : (ps.map PV.str).length ≤ SZ := by
    rw [List.length_map]
    have := sub.length_le
    show _ ≤ 16777216
    omega
  simp only [e, Res.bind_ok]
  rw [if_pos z]
theorem word_bt {w : List Nat} (h : w.length ≤ 250) : Bt 1 (.str w) := ⟨by rw [sm, decide_eq_true_eq]; exact h, Nat.zero_le _⟩
theorem right_ok (k : Nat) {n : Nat} {cs : List (List Nat)} (h : Cd n cs) (hz : cs.length ≤ 12) {s : Store} (hs : StA s) : ∃ s', C (k + 6) 22 [.loc 0, cdV cs] s = .ok (.bl true) s' ∧ StA s' := by
  have n1 := h.ws.n1
  have n2 := h.ws.n2
  have l1 := h.l1
  have wd := h.ws.wd
  -- back
  have bw : Ws n (cs.map List.reverse) := ⟨n1, n2, fun c hc => by
    obtain ⟨d, hd, rfl⟩ := List.mem_map.mp hc
    exact ⟨by rw [List.length_reverse]; exact (wd d hd).1, fun x hx => (wd d hd).2 x (List.mem_reverse.mp hx)⟩⟩
  have bn : (cs.map List.reverse).Nodup := List.pairwise_map.mpr (List.Pairwise.imp (fun {a b} hne e => hne (List.reverse_inj.mp e)) h.nd)
  have bc := sort_code bw bn (by rw [List.length_map]; omega) (by rw [List.length_map]; omega)
  have bm : ∀ x, x ∈ sortS (cs.map List.reverse) ↔ x.reverse ∈ cs := fun x => by
    rw [sort_mem, List.mem_map]
    constructor
    · rintro ⟨d, hd, rfl⟩
      rw [List.reverse_reverse]; exact hd
    · exact fun hx => ⟨_, hx, List.reverse_reverse x⟩
  have blen := back_len h.ws h.nd bc.nd bm
  -- other
  have ow : Ws n (cs.map exW) := ⟨n1, n2, fun c hc => by
    obtain ⟨d, hd, rfl⟩ := List.mem_map.mp hc
    exact ⟨by unfold exW; rw [List.length_map]; exact (wd d hd).1, exW_HD d⟩⟩
  have on : (cs.map exW).Nodup := List.pairwise_map.mpr (List.Pairwise.imp_of_mem (fun {a b} ha hb hne e => hne (by rw [← exW_exW (wd a ha).2, ← exW_exW (wd b hb).2, e])) h.nd)
  have oc := sort_code ow on (by rw [List.length_map]; omega) (by rw [List.length_map]; omega)
  have om : ∀ x, HD x → (x ∈ sortS (cs.map exW) ↔ exW x ∈ cs) := fun x hx => by
    rw [sort_mem, List.mem_map]
    constructor
    · rintro ⟨d, hd, rfl⟩
      rw [exW_exW (wd d hd).2]; exact hd
    · exact fun hx2 => ⟨_, hx2, exW_exW hx⟩
  have oemp := other_empty h.ws (fun x hx => (oc.ws.wd x hx).2) om
  have lr : ∀ c ∈ cs, c.length ≤ 1000 := fun c hc => by have := (wd c hc).1; omega
  obtain ⟨ps, s1, c3, hs1, sub⟩ := part_comp (k + 4) (cs := cs) (by omega) (some (.tup ((crossL n cs).map trV))) (some (.tup ((sortS (cs.map List.reverse)).map .str))) (some (.tup ((sortS (cs.map exW)).map .str))) none none none none none none none hs
  obtain ⟨a, s2, e14, a1, a2, hs2⟩ := roll (k + 4) (cs.length : Int) (by omega) (by omega) hs1
  obtain ⟨i, hi⟩ : ∃ i : Nat, a = (i : Int) := ⟨a.toNat, by omega⟩
  have il : i < cs.length := by omega
  have ln : blt1 .len (cdV cs) = some (.int (cs.length : Int)) := by
    have : blt1 .len (cdV cs) = some (.int ((cs.map PV.str).length : Int)) := rfl
    rw [this, List.length_map]
  have wi := (wd cs[i] (List.getElem_mem il)).1
  have e1 : ∀ s, subS s (cdV cs) (.int a) = some (.str cs[i]) := fun s => by
    have := subT_nat s (cs.map .str) i
    rw [List.getElem?_map, List.getElem?_eq_getElem il] at this
    rw [hi]
    exact this
  have f1 : slV (cdV cs) none (some a) = some (.tup ((cs.map PV.str).take i)) := by rw [hi]; exact slT_take _ i
  have f2 : slV (cdV cs) (some (a + 1)) none = some (.tup ((cs.map PV.str).drop (i + 1))) := by
    rw [hi, show ((i : Int) + 1) = ((i + 1 : Nat) : Int) by omega]
    exact slT_drop _ (i + 1)
  have lP : ((cs.map PV.str).take i).length ≤ 12 := by rw [List.length_take, List.length_map]; omega
  have lS : ((cs.map PV.str).drop (i + 1)).length ≤ 12 := by rw [List.length_drop, List.length_map]; omega
  have bcs : ∀ x ∈ cs.map PV.str, Bt 1 x := fun x hx => by
    obtain ⟨c, hc, rfl⟩ := List.mem_map.mp hx
    exact word_bt (by have := (wd c hc).1; omega)
  have o1 := o_addS' (x := cs[i]) (y := [35]) (by omega) (by simp)
  have o2 := slS_drop (x := cs[i]) 1 (show _ ≤ 16777216 by omega)
  have o3 := o_addS' (x := [120]) (y := cs[i].drop 1) (by simp) (by rw [List.length_drop]; omega)
  have o4 := o_lenS (x := cs[i]) (by omega)
  have o5 := o_mulS [32] cs[i].length (by simp) (by omega)
  have it := odds_it (cf := C (k + 5)) (r0 := some (.loc 0)) (r2 := some (.tup ((crossL n cs).map trV))) (r3 := some (.tup ((sortS (cs.map List.reverse)).map .str))) (r4 := some (.tup ((sortS (cs.map exW)).map .str))) (r5 := some (.tup (ps.map .str))) (r7 := none) (r8 := none) (r9 := none) (r10 := none) (r11 := none) (s := s2) (e1 s2) o1 o2 o3 o4 o5
  have c4 := comp_map (cf := C (k + 5)) (vs := [9]) (t := .name 9) (e := .bin .add (.bin .add (.slice (.var 1) (.con .non) (.var 6)) (.tup (.cons (.var 9) .nil))) (.slice (.var 1) (.bin .add (.var 6) (.con (.int 1))) (.con .non))) (g := fun x => .tup ((cs.map PV.str).take i ++ [x] ++ (cs.map PV.str).drop (i + 1))) it (fun v hv => ⟨_, rfl, near_e f1 f2 (by omega) (by omega)⟩) (by simp)
  have bodds : ∀ x ∈ [PV.non, .str [], .str (cs[i] ++ [35]), .str (cs[i].drop 1), .str ([120] ++ cs[i].drop 1), .str (rep [32] cs[i].length), .int 0, .tup [.str cs[i]]], Bt 1 x := fun x hx => by
    simp only [List.mem_cons, List.not_mem_nil, or_false] at hx
    rcases hx with rfl | rfl | rfl | rfl | rfl | rfl | rfl | rfl
    · exact ⟨rfl, Nat.zero_le _⟩
    · exact word_bt (by simp)
    · exact word_bt (by simp; omega)
    · exact word_bt (by rw [List.length_drop]; omega)
    · exact word_bt (by rw [List.length_append, List.length_drop]; simp; omega)
    · exact word_bt (by rw [rep_lenN]; simp; omega)
    · exact bt_int 1 0
    · exact bt_tup (by simp) fun y hy => by
        rw [List.mem_singleton.mp hy]
        exact bt_str (by omega)
  have okO : ∀ v ∈ [PV.non, .str [], .str (cs[i] ++ [35]), .str (cs[i].drop 1), .str ([120] ++ cs[i].drop 1), .str (rep [32] cs[i].length), .int 0, .tup [.str cs[i]]].map fun x => PV.tup ((cs.map PV.str).take i ++ [x] ++ (cs.map PV.str).drop (i + 1)), Ok v := fun v hv => by
    obtain ⟨x, hx, rfl⟩ := List.mem_map.mp hv
    refine ok_bt (d := 2) (bt_tup (by simp only [List.length_append, List.length_singleton]; omega) fun y hy => ?_) (by omega)
    rcases List.mem_append.mp hy with hy | hy
    · rcases List.mem_append.mp hy with hy | hy
      · exact bcs y (List.mem_of_mem_take hy)
      · rw [List.mem_singleton.mp hy]; exact bodds x hx
    · exact bcs y (List.mem_of_mem_drop hy)
  have ne : cs.map PV.str ≠ [] := fun e => by
    have := congrArg List.length e
    rw [List.length_map, List.length_nil] at this
    omega
  have lcs : (cs.map PV.str).length ≤ 12 := by rw [List.length_map]; exact hz
  have m1 := step_tup (xs := cs.map PV.str) (by omega)
  have m2 := slT_m1 ne
  have m3 := o_addT' (x := cs.map PV.str) (y := (cs.map PV.str).drop ((cs.map PV.str).length - 1)) (by omega) (by rw [List.length_drop]; omega)
  have m4 := o_addT' (x := cs.map PV.str) (y := [.str [46]]) (by omega) (by simp)
  have m5 := o_addT' (x := [PV.str [35]]) (y := cs.map PV.str) (by simp) (by omega)
  have m6 := o_addL' (x := [PV.non, .str [], .str (cs[i] ++ [35]), .str (cs[i].drop 1), .str ([120] ++ cs[i].drop 1), .str (rep [32] cs[i].length), .int 0, .tup [.str cs[i]]].map fun x => PV.tup ((cs.map PV.str).take i ++ [x] ++ (cs.map PV.str).drop (i + 1))) (y := [.tup (cs.map PV.str).reverse, .tup (cs.map PV.str ++ (cs.map PV.str).drop ((cs.map PV.str).length - 1)), .lst (cs.map PV.str), .tup [], .non, .str cs[i], .tup (cs.map PV.str ++ [.str [46]]), .tup ([PV.str [35]] ++ cs.map PV.str)]) (by simp) (by simp)
  have it2 := more_it (cf := C (k + 5)) (r0 := some (.loc 0)) (r2 := some (.tup ((crossL n cs).map trV))) (r3 := some (.tup ((sortS (cs.map List.reverse)).map .str))) (r4 := some (.tup ((sortS (cs.map exW)).map .str))) (r5 := some (.tup (ps.map .str))) (r8 := none) (r9 := none) (r10 := none) (r11 := none) (s := s2) m1 m2 m3 (e1 s2) m4 m5 m6
  have okG : ∀ v ∈ ([PV.non, .str [], .str (cs[i] ++ [35]), .str (cs[i].drop 1), .str ([120] ++ cs[i].drop 1), .str (rep [32] cs[i].length), .int 0, .tup [.str cs[i]]].map fun x => PV.tup ((cs.map PV.str).take i ++ [x] ++ (cs.map PV.str).drop (i + 1))) ++ [.tup (cs.map PV.str).reverse, .tup (cs.map PV.str ++ (cs.map PV.str).drop ((cs.map PV.str).length - 1)), .lst (cs.map PV.str), .tup [], .non, .str cs[i], .tup (cs.map PV.str ++ [.str [46]]), .tup ([PV.str [35]] ++ cs.map PV.str)], Ok v := fun v hv => by
    rcases List.mem_append.mp hv with hv | hv
    · exact okO v hv
    · simp only [List.mem_cons, List.not_mem_nil, or_false] at hv
      rcases hv with rfl | rfl | rfl | rfl | rfl | rfl | rfl | rfl
      · exact ok_bt (d := 2) (bt_tup (by rw [List.length_reverse]; omega) fun y hy => bcs y (List.mem_reverse.mp hy)) (by omega)
      · refine ok_bt (d := 2) (bt_tup (by rw [List.length_append, List.length_drop]; omega) fun y hy => ?_) (by omega)
        rcases List.mem_append.mp hy with hy | hy
        · exact bcs y hy
        · exact bcs y (List.mem_of_mem_drop hy)
      · exact ok_bt (d := 2) (bt_lst (by omega) bcs) (by omega)
      · exact ⟨rfl, by decide⟩
      · exact ⟨rfl, Nat.zero_le _⟩
      · exact ok_bt (word_bt (by omega)) (by omega)
      · refine ok_bt (d := 2) (bt_tup (by rw [List.length_append]; simp; omega) fun y hy => ?_) (by omega)
        rcases List.mem_append.mp hy with hy | hy
        · exact bcs y hy
        · rw [List.mem_singleton.mp hy]; exact word_bt (by simp)
      · refine ok_bt (d := 2) (bt_tup (by rw [List.length_append]; simp; omega) fun y hy => ?_) (by omega)
        rcases List.mem_append.mp hy with hy | hy
        · rw [List.mem_singleton.mp hy]; exact word_bt (by simp)
        · exact bcs y hy
  obtain ⟨q8, lp⟩ := judge_loop (k + 2) (some (.loc 0)) (some (cdV cs)) (some (.tup ((crossL n cs).map trV))) (some (.tup ((sortS (cs.map List.reverse)).map .str))) (some (.tup ((sortS (cs.map exW)).map .str))) (some (.tup (ps.map .str))) (some (.int a)) (some (.lst ([PV.non, .str [], .str (cs[i] ++ [35]), .str (cs[i].drop 1), .str ([120] ++ cs[i].drop 1), .str (rep [32] cs[i].length), .int 0, .tup [.str cs[i]]].map fun x => PV.tup ((cs.map PV.str).take i ++ [x] ++ (cs.map PV.str).drop (i + 1))))) none none none s2 _ none okG
  have e13 := like 3 k (.lst [.bl true, .tup ((crossL n cs).map trV), .bl (crossL n cs).isEmpty]) s (by
    show (true && (isDs ((crossL n cs).map trV) && (true && true))) = true
    rw [(trs_d (crossL n cs)).1]; rfl) (by
    have := (trs_d (crossL n cs)).2
    show depths _ + 1 ≤ 3
    simp only [depths, depth]
    omega)
  have e17 := lawshows_ok (k + 4) h.ws (by omega) s
  rw [shows_eq h.ws] at e17
  have e11b := shows_ok (k + 1) bc.ws bc.nd (by have := bc.l2; omega) bc.ok bc.code s
  rw [len_empty blen] at e11b
  have e11o := shows_ok (k + 1) oc.ws oc.nd (by have := oc.l2; omega) oc.ok oc.code s
  rw [oemp] at e11o
  have lb : blt1 .len (.tup ((crossL n (sortS (cs.map List.reverse))).map trV)) = some (.int ((crossL n cs).length : Int)) := by
    have : blt1 .len (.tup ((crossL n (sortS (cs.map List.reverse))).map trV)) = some (.int (((crossL n (sortS (cs.map List.reverse))).map trV).length : Int)) := rfl
    rw [this, List.length_map, blen]
  have lx : blt1 .len (.tup ((crossL n cs).map trV)) = some (.int ((crossL n cs).length : Int)) := by
    have : blt1 .len (.tup ((crossL n cs).map trV)) = some (.int (((crossL n cs).map trV).length : Int)) := rfl
    rw [this, List.length_map]
  have e13b := like 3 k (.lst [.bl (crossL n cs).isEmpty, .bl (crossL n cs).isEmpty, .int ((crossL n cs).length : Int)]) s rfl (by show 1 ≤ 3; omega)
  have nes : ∀ {l : List (List Nat)}, l.length = cs.length → l ≠ [] := fun hl e => by rw [e] at hl; simp at hl; omega
  have dp := isDs_strs (fun x => x) ps
  have pp := depths_strs (fun x => x) ps
  have np : cmpop .ne (.tup (ps.map PV.str)) (.tup []) = some (!ps.isEmpty) := by rw [o_neNilT dp (by rw [pp]; omega), List.isEmpty_map]
  refine ⟨s2, ?_, hs2⟩
  show runFn (C (k + 5)) ⟨2, 12, b22⟩ _ s = _
  refine right_gen (lawcross_ok (k + 4) h.ws (by omega) s) (trs_eq _) ?_ (crossings_ok (k + 1) h.ws h.nd (by omega) h.ok h.code s) (shows_ok (k + 1) h.ws h.nd (by omega) h.ok h.code s) e13 e17
    (back_comp lr (by omega) _ _ _ _ _ _ _ _ _ _ _ s) (sorted_strs (nes (by rw [List.length_map])) (by rw [List.length_map]; omega)) (other_comp (fun c hc => ⟨lr c hc, (wd c hc).2⟩) (by omega) _ _ _ _ _ _ _ _ _ _ _ s) (sorted_strs (nes (by rw [List.length_map])) (by rw [List.length_map]; omega))
    e11b e11o (crossings_ok (k + 1) bc.ws bc.nd (by have := bc.l2; omega) bc.ok bc.code s) lb lx e13b c3 np (fun hp hzz => ?_) ln e14 c4 ?_ (q8 := q8)
  · have := iscode_ok (k + 2) (cdV cs) s h.ok
    rw [h.code] at this
    exact this
  · have hp : ps ≠ [] := fun e => by rw [e] at hp; simp at hp
    have pw : Ws n ps := ⟨n1, n2, fun c hc => wd c (sub.subset hc)⟩
    have pup : rising ps = true := M3.rising_pw.mpr ((M3.rising_pw.mp h.up).sublist sub)
    have pl := sub.length_le
    have := shows_ok (k + 1) pw (rising_nodup pup) (by omega) (pw.ok (by omega)) (pw.code pup (List.length_pos_iff.mpr hp) (by omega)) s1
    rw [part_empty (fun x hx => sub.subset hx) hzz] at this
    exact this
  · unfold cdV at lp
    unfold s22_0 cdV
    rw [ex_for_, it2, Res.bind_ok]
    exact lp
end K18

set_option maxRecDepth 100000
set_option maxHeartbeats 4000000
/-! L18i: the law. -/
namespace K18
open PyI
def E1 : PV := .tup [.str [35, 35, 46], .str [46, 35, 46]]
def E2 : PV := .tup [.str [35, 35, 46, 46], .str [35, 46, 35, 46]]
def TOLD : PV := .lst [.bl true, .bl false, .bl true, .bl false, .tup [], .tup [.tup [.str [35, 46, 35, 46], .str [35, 46, 35, 46], .int 2]]]
theorem pre_ok (r0 : Option PV) : exs (C 19) (takeS 4 b23) [r0, none, none, none, none, none, none, none, none, none, none, none] [] = .ok (.next [r0, some TOLD, none, none, none, none, some E1, some E2, none, none, none, none]) [] := by kernel_rfl
theorem turn_gen {cf : CF} {r0 r1 r3 r4 r5 r6 r7 r8 r9 r10 r11 : Option PV} {a b : Int} {code c2 sh : PV} {z : Bool} {s0 s1 s2 s3 s4 s5 s6 s7 : Store} (e1 : cf 15 [.loc 0, .lst [.int 4, .int 6, .int 12]] s0 = .ok (.int a) s1) (e2 : cf 15 [.loc 0, .lst [.int 3, .int 6, .int 9]] s1 = .ok (.int b) s2) (e3 : cf 16 [.loc 0, .int a, .int b] s2 = .ok code s3) (e4 : cf 16 [.loc 0, .int 6, .int 9] s3 = .ok c2 s4) (e5 : cf 18 [.loc 0, c2] s4 = .ok sh s5) (e6 : cf 22 [.loc 0, code] s5 = .ok (.bl true) s6) (ne : cmpop .ne sh (.tup []) = some z) (e7 : z = true → cf 22 [.loc 0, sh] s6 = .ok (.bl true) s7) (e8 : z = false → s7 = s6) :
    exs cf y23_0 [r0, r1, some (.loc 0), r3, r4, r5, r6, r7, r8, r9, r10, r11] s0 = .ok (.next [r0, r1, some (.loc 0), r3, r4, r5, r6, r7, some code, some sh, r10, r11]) s7 := by
  have z3 : 3 ≤ SZ := by decide
  have z0 : 0 ≤ SZ := by decide
  cases z with
  | true =>
    have e7 := e7 rfl
    simp [y23_0, e1, e2, e3, e4, e5, e6, ne, e7, z3, z0]
  | false =>
    have e8 := e8 rfl
    subst e8
    simp [y23_0, e1, e2, e3, e4, e5, e6, ne, z3, z0]
theorem turn_ok (k : Nat) (r0 r1 r3 r4 r5 r6 r7 r8 r9 r10 r11 : Option PV) {s : Store} (hs : StA s) : ∃ (q8 q9 : Option PV) (s' : Store), exs (C (k + 6)) y23_0 [r0, r1, some (.loc 0), r3, r4, r5, r6, r7, r8, r9, r10, r11] s = .ok (.next [r0, r1, some (.loc 0), r3, r4, r5, r6, r7, q8, q9, r10, r11]) s' ∧ StA s' := by
  obtain ⟨x, s1, e1, hx, hs1⟩ := some_ok (k + 4) (xs := [.int 4, .int 6, .int 12]) (by simp) (by simp) hs
  obtain ⟨a, rfl, a1, a2⟩ : ∃ m : Int, x = .int m ∧ 1 ≤ m ∧ m ≤ 12 := by
    simp only [List.mem_cons, List.not_mem_nil, or_false] at hx
    rcases hx with rfl | rfl | rfl <;> exact ⟨_, rfl, by decide, by decide⟩
  obtain ⟨y, s2, e2, hy, hs2⟩ := some_ok (k + 4) (xs := [.int 3, .int 6, .int 9]) (by simp) (by simp) hs1
  obtain ⟨b, rfl, b1, b2⟩ : ∃ m : Int, y = .int m ∧ 1 ≤ m ∧ m ≤ 12 := by
    simp only [List.mem_cons, List.not_mem_nil, or_false] at hy
    rcases hy with rfl | rfl | rfl <;> exact ⟨_, rfl, by decide, by decide⟩
  obtain ⟨n, cs, s3, e3, hs3, hc, hl⟩ := code_draw (k + 3) a b a1 a2 b1 b2 hs2
  obtain ⟨n2, c2, s4, e4, hs4, hc2, hl2⟩ := code_draw (k + 3) 6 9 (by decide) (by decide) (by decide) (by decide) hs3
  obtain ⟨gs, s5, e5, hs5, hg, gl⟩ := shown_draw (k + 4) hc2 hs4
  obtain ⟨s6, e6, hs6⟩ := right_ok k hc hl hs5
  have d := isDs_strs (fun x => x) gs
  have p := depths_strs (fun x => x) gs
  have ne : cmpop .ne (cdV gs) (.tup []) = some (!gs.isEmpty) := by
    unfold cdV
    rw [o_neNilT d (by rw [p]; omega), List.isEmpty_map]
  rcases hg with rfl | hg
  · exact ⟨_, _, s6, turn_gen e1 e2 e3 e4 e5 e6 ne (fun z => by cases z) (fun _ => rfl), hs6⟩
  · obtain ⟨s7, e7, hs7⟩ := right_ok k hg (by omega) hs6
    exact ⟨_, _, s7, turn_gen e1 e2 e3 e4 e5 e6 ne (fun _ => e7) (fun z => by
      have := hg.l1
      cases gs with
      | nil => simp at this
      | cons g r => cases z), hs7⟩
theorem law_gen {cf : CF} {x : PV} {r3 r8 r9 : Option PV} {s0 s1 : Store} (e1 : exs cf (takeS 4 b23) [some x, none, none, none, none, none, none, none, none, none, none, none] [] = .ok (.next [some x, some TOLD, none, none, none, none, some E1, some E2, none, none, none, none]) []) (e0 : cf 0 [x] [] = .ok (.loc 0) s0)
    (e2 : ex cf s23_0 [some x, some TOLD, some (.loc 0), none, none, none, some E1, some E2, none, none, none, none] s0 = .ok (.next [some x, some TOLD, some (.loc 0), r3, none, none, some E1, some E2, r8, r9, none, none]) s1)
    (e3 : exs cf (dropS 6 b23) [some x, some TOLD, some (.loc 0), r3, none, none, some E1, some E2, r8, r9, none, none] s1 = .ok (.ret (.bl true)) s1) : runFn cf ⟨1, 12, b23⟩ [x] [] = .ok (.bl true) s1 := by
  refine runFn_ret rfl ?_
  show exs cf b23 [some x, none, none, none, none, none, none, none, none, none, none, none] [] = _
  rw [exs_take cf 4 e1]
  have t : exs cf (takeS 2 (dropS 4 b23)) [some x, some TOLD, none, none, none, none, some E1, some E2, none, none, none, none] [] = .ok (.next [some x, some TOLD, some (.loc 0), r3, none, none, some E1, some E2, r8, r9, none, none]) s1 := by
    show exs cf (.cons (.asg (.name 2) (.call 0 (.cons (.var 0) .nil))) (.cons s23_0 .nil)) _ _ = _
    simp [-ex_for_, e0, e2]
  rw [exs_take cf 2 t]
  exact e3
end K18

set_option maxRecDepth 100000
set_option maxHeartbeats 4000000
/-! L18j: the law's end. -/
namespace K18
open PyI
theorem last_ok (r0 r1 r2 r3 r4 r5 r6 r7 r8 r9 : Option PV) (s : Store) : exs (C 19) (dropS 9 b23) [r0, r1, r2, r3, r4, r5, r6, r7, r8, r9, none, none] s = .ok (.ret (.bl true)) s := by kernel_rfl
def wordsN : Nat → List (List Nat)
  | 0 => [[]]
  | n + 1 => (wordsN n).flatMap fun w => [w ++ [35], w ++ [46]]
theorem five_ok (s : Store) : C 19 19 [.int 5] s = .ok (.lst ((wordsN 5).map .str)) s := by kernel_rfl
theorem five_cd : rising (wordsN 5) = true ∧ (wordsN 5).length = 32 ∧ ((wordsN 5).all fun w => w.length == 5 && w.all fun c => c == 35 || c == 46) = true := by decide +kernel
theorem five_len : (crossL 5 (wordsN 5)).length = 4096 := by decide +kernel
theorem five_at : (crossL 5 (wordsN 5))[0]? = some ([35, 35, 35, 35, 35], [35, 35, 35, 35, 35], 1) ∧ (crossL 5 (wordsN 5))[4]? = some ([35, 35, 35, 35, 35], [35, 35, 35, 35, 46], 1) ∧ (crossL 5 (wordsN 5))[4095]? = some ([46, 46, 46, 46, 46], [46, 46, 46, 46, 46], 4) := by decide +kernel
theorem five_code : Cd 5 (wordsN 5) := by
  obtain ⟨h1, h2, h3⟩ := five_cd
  refine ⟨⟨by decide, by decide, fun c hc => ?_⟩, h1, by omega, by omega⟩
  have := List.all_eq_true.mp h3 c hc
  rw [Bool.and_eq_true] at this
  refine ⟨eq_of_beq this.1, fun d hd => ?_⟩
  have := List.all_eq_true.mp this.2 d hd
  rw [Bool.or_eq_true, beq_iff_eq, beq_iff_eq] at this
  exact this
def T0 : PV := .tup [.str [35, 35, 35, 35, 35], .str [35, 35, 35, 35, 35], .int 1]
def T4 : PV := .tup [.str [35, 35, 35, 35, 35], .str [35, 35, 35, 35, 46], .int 1]
def TL : PV := .tup [.str [46, 46, 46, 46, 46], .str [46, 46, 46, 46, 46], .int 4]
theorem at_last {xs : List PV} {n : Nat} (h : xs.length = n + 1) (s : Store) : subS s (.tup xs) (.int (-1)) = xs[n]? := by
  show getAt xs (-1) = _
  unfold getAt ixN
  rw [if_neg (by omega), if_pos (by omega)]
  show xs[((-1 : Int) + (xs.length : Int)).toNat]? = _
  congr 1
  omega
theorem mid_gen {cf : CF} {r0 r1 r2 r3 r6 r7 r8 r9 : Option PV} {L X : List PV} {s : Store} (e19 : cf 19 [.int 5] s = .ok (.lst L) s) (e8 : cf 8 [.tup L] s = .ok (.tup X) s) (len : blt1 .len (.tup X) = some (.int 4096)) (s0 : subS s (.tup X) (.int 0) = some T0) (s4 : subS s (.tup X) (.int 4) = some T4) (sl : subS s (.tup X) (.int (-1)) = some TL) (e13 : cf 13 [.lst [T0, T4, TL], .lst [T0, T4, TL]] s = .ok (.bl true) s) :
    exs cf (takeS 3 (dropS 6 b23)) [r0, r1, r2, r3, none, none, r6, r7, r8, r9, none, none] s = .ok (.next [r0, r1, r2, r3, some (.tup L), some (.tup X), r6, r7, r8, r9, none, none]) s := by
  show exs cf (.cons (.asg (.name 4) (.blt .tuple (.cons (.call 19 (.cons (.con (.int 5)) .nil)) .nil))) (.cons (.asg (.name 5) (.call 8 (.cons (.var 4) .nil))) (.cons (.ite (.or (.cmp .ne (.blt .len (.cons (.var 5) .nil)) (.con (.int 4096))) (.not (.call 13 (.cons (.lst (.cons (.sub (.var 5) (.con (.int 0))) (.cons (.sub (.var 5) (.con (.int 4))) (.cons (.sub (.var 5) (.un .neg (.con (.int 1)))) .nil)))) (.cons (.lst (.cons (.tup (.cons (.con (.str [35, 35, 35, 35, 35])) (.cons (.con (.str [35, 35, 35, 35, 35])) (.cons (.con (.int 1)) .nil)))) (.cons (.tup (.cons (.con (.str [35, 35, 35, 35, 35])) (.cons (.con (.str [35, 35, 35, 35, 46])) (.cons (.con (.int 1)) .nil)))) (.cons (.tup (.cons (.con (.str [46, 46, 46, 46, 46])) (.cons (.con (.str [46, 46, 46, 46, 46])) (.cons (.con (.int 4)) .nil)))) .nil)))) .nil))))) (.cons (.ret (.con (.bl false))) .nil) .nil) .nil))) _ _ = _
  have z3 : 3 ≤ SZ := by decide
  unfold T0 T4 TL at *
  simp [-o_lenT, -o_subT, e19, e8, len, s0, s4, sl, e13, z3]
theorem rest_ok (r0 r1 r2 r3 r6 r7 r8 r9 : Option PV) (s : Store) : exs (C 19) (dropS 6 b23) [r0, r1, r2, r3, none, none, r6, r7, r8, r9, none, none] s = .ok (.ret (.bl true)) s := by
  have h := five_code
  have e8 := crossings_ok 15 h.ws h.nd h.l2 h.ok h.code s
  have xl : ((crossL 5 (wordsN 5)).map trV).length = 4096 := by rw [List.length_map, five_len]
  have len : blt1 .len (.tup ((crossL 5 (wordsN 5)).map trV)) = some (.int 4096) := by
    have : blt1 .len (.tup ((crossL 5 (wordsN 5)).map trV)) = some (.int (((crossL 5 (wordsN 5)).map trV).length : Int)) := rfl
    rw [this, xl]
    rfl
  obtain ⟨a0, a4, al⟩ := five_at
  have s0 : subS s (.tup ((crossL 5 (wordsN 5)).map trV)) (.int 0) = some T0 := by
    have := subT_nat s ((crossL 5 (wordsN 5)).map trV) 0
    rw [List.getElem?_map, a0] at this
    exact this
  have s4 : subS s (.tup ((crossL 5 (wordsN 5)).map trV)) (.int 4) = some T4 := by
    have := subT_nat s ((crossL 5 (wordsN 5)).map trV) 4
    rw [List.getElem?_map, a4] at this
    exact this
  have sl : subS s (.tup ((crossL 5 (wordsN 5)).map trV)) (.int (-1)) = some TL := by
    rw [at_last xl s, List.getElem?_map, al]
    rfl
  have e13 := like 3 14 (.lst [T0, T4, TL]) s rfl (by decide)
  rw [exs_take (C 19) 3 (mid_gen (five_ok s) e8 len s0 s4 sl e13)]
  exact last_ok _ _ _ _ _ _ _ _ _ _ s
theorem law_true : ∀ ns : List Int, ns.length ≤ 63 → ∃ s', callF P.tbl 20 23 [.scr (ns.map .int)] [] = .ok (.bl true) s' := by
  intro ns hns
  obtain ⟨a, b, e0, ha⟩ := cup_ok (cf := C 18) ns hns
  have e0 : C 19 0 [.scr (ns.map .int)] [] = .ok (.loc 0) [[.int a, .int b]] := e0
  let I : Env → Store → Prop := fun r s => StA s ∧ ∃ (r3 r8 r9 : Option PV), r = [some (.scr (ns.map .int)), some TOLD, some (.loc 0), r3, none, none, some E1, some E2, r8, r9, none, none]
  have loop : ∃ r' s', ex (C 19) s23_0 [some (.scr (ns.map .int)), some TOLD, some (.loc 0), none, none, none, some E1, some E2, none, none, none, none] [[.int a, .int b]] = .ok (.next r') s' ∧ I r' s' := by
    unfold s23_0
    rw [ex_for_]
    have rg : range1op (.int 3) = some (rangeL 0 3) := rfl
    simp only [evI_range1, ev_con, Res.bind_ok, rg, Res.ofO_some]
    refine forL_keep (I := I) (fun v _ r s hI => ?_) ⟨⟨a, b, rfl, ha⟩, none, none, none, rfl⟩
    obtain ⟨hs, r3, r8, r9, rfl⟩ := hI
    obtain ⟨q8, q9, s', f, hs'⟩ := turn_ok 13 (some (.scr (ns.map .int))) (some TOLD) (some v) none none (some E1) (some E2) r8 r9 none none hs
    refine ⟨_, _, ?_, hs', some v, q8, q9, rfl⟩
    rw [o_asgN, Res.ofO_some, Res.bind_ok]
    exact f
  obtain ⟨r', s', e1, _, r3, r8, r9, rfl⟩ := loop
  exact ⟨_, law_gen (pre_ok _) e0 e1 (rest_ok _ _ _ _ _ _ _ _ _)⟩
end K18

namespace K18
open PyI PySem
theorem chk : P.defs.all (chkD P) = true := by decide +kernel
abbrev R : PySem.W.OpenRow := PySem.W.OpenLaw.row PySem.Challenge.rw_knownbylight_k18_whole_codes_and_crossin
abbrev hk : PySem.W.Hook := hookP 4 P
def ob (s : PySem.W.SharedT) : AlP := obsPG 4 P (HandSHeadRun.getT s)
theorem ob_eq (s : PySem.W.SharedT) : ob s = hk.obs s.abs := obsPG_eq (HandSHeadRun.getT_eq s)
def loose : List PySem.Str := (["LightError", "InvalidWatch", "is_tuple_of", "is_rising", "is_word", "SIGNS", "LONGEST", "WORDS", "fits_code", "need_code", "across", "first_crossing", "all_crossings", "is_code", "shows_beginning"] : List PySem.Str) ++ (["crossings_of", "_law_cup", "_law_roll", "_law_some", "_law_sort", "_law_like", "_law_words", "_law_code", "_law_crossings", "_law_shows", "_law_shown", "_law_is_code", "_law_right"] : List PySem.Str)
theorem run (w : World) : HandSHeadRun.RunEq R (PySem.W.view R.prog [32]) hk ob 2000 loose w := by
  intro os
  kernel_rfl
end K18
open PySem PySem.W PySem.Calls PyProof.Rows
theorem PySem.Challenge.cw_knownbylight_k18_whole_codes_and_crossin_holds : PySem.Challenge.rw_knownbylight_k18_whole_codes_and_crossin.Holds := by
  w_on; o_law
  refine HandSHeadRun.head_any (r := OpenLaw.row PySem.Challenge.rw_knownbylight_k18_whole_codes_and_crossin) (q := view (OpenLaw.row PySem.Challenge.rw_knownbylight_k18_whole_codes_and_crossin).prog [32]) (H := K18.hk) (ob := K18.ob) (M := 2000) (loose := K18.loose) (d := HandSHeadRun.topDef (OpenLaw.row PySem.Challenge.rw_knownbylight_k18_whole_codes_and_crossin).prog 32) (kwd := []) K18.ob_eq
    (by kernel_rfl) (fun s => by kernel_rfl) K18.run (by kernel_rfl) (by kernel_rfl) (by kernel_rfl) (by rfl) (by first | assumption | decide +kernel) (by decide +kernel) ⟨rfl, rfl, rfl, rfl, rfl, by decide +kernel⟩ ?hw ?hc
  case hw => w_witness2
  case hc =>
    refine L2.walk_ofE (l := PySem.Challenge.rw_knownbylight_k18_whole_codes_and_crossin) (n := 63) (k := 20) (x := "script") (CX := L2.CX0) rfl (by decide) (by kernel_rfl) ⟨rfl, by decide, by decide⟩ ?F (fun _ _ _ _ z => z)
    intro w mg fa h Y G hmg0
    obtain ⟨K, KX, c⟩ := Y
    have hmg : mg ("law" : PySem.Str) = some (.ref fa) := by
      have e : (HandSHeadRun.topDef (OpenLaw.row PySem.Challenge.rw_knownbylight_k18_whole_codes_and_crossin).prog 32).name = ("law" : PySem.Str) := by kernel_rfl
      rw [← e]
      exact hmg0
    obtain ⟨fd, hb, hF⟩ := PyI.law_facts (Pr := (PySem.Challenge.rw_knownbylight_k18_whole_codes_and_crossin).prog) (w := w) (k := 20) (iL := 23) (d := K18.d23) KX G c K18.chk K18.binds rfl rfl hmg
    exact ⟨K, fd, _, KX, hb, fun H a ns hl hO hS => PyI.law_says K18.law_true H a ns hl hO hS, hF⟩
