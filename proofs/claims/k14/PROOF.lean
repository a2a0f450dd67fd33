import PyProof.Rows.All
import Wide.All
import OpenK.AllK
import Wide.FinOn
import PySem.Challenge.RW_turnlaced_k14_errors_apart
import PySem.PyData
import HandS.ForMost
import HandS.WordsExc
import HandS.HeadHook2
import HandS.ExcInit
import HandS.ExcField
import HandS.ExcValue
import HandS.ExcIs
import HandS.TupAny
import HandS.TupMul
import HandS.Style
import PyProof.StrOps2
import HandS.Deep
import KE.DataCmp
import KE.SortData
import KE.KExcIs
import HandS.Property
import KE.DataMinMax
import HandS.SetFor
import HandS.SortInts
import HandS.TupSets
import HandS.Dict
import HandS.More
import HandS.Conv
import HandS.Sort
import HandS.Strs
import KE.IntTextText
import KE.IntTextLaws
import KE.KIntText
import PyProof.ListStr
import HandS.IsInst
import HandS.Text
import HandS.Star
import HandS.List
import KE.KRevSl
import KE.GoesMore
import HandS.DictComp
import HandS.TryMany
import HandS.Defaults
import HandS.HeadEnd
import KE.KStateDown
import HandS.Head0
import HandS.Head1
import HandS.Head2
set_option Elab.async false
set_option linter.all false
set_option maxRecDepth 100000
set_option maxHeartbeats 4000000
/-! Mini: a small language of values (lists owned by one name, or frozen), its interpreter. Plain Lean. -/
namespace Mlg
open PySem (PyData Str)

abbrev D := PyData

/-- an object of one owner -/
inductive O where
  | lst (xs : List D)
  /-- keys: intsD and texts, or tuples of intsD -/
  | dic (t : Bool) (kvs : List (D × D))
  /-- an instance of the text's one class: its fields -/
  | ins (fs : List (Str × D))
def O.toD : O → Option D
  | .lst xs => some (.list xs)
  | .dic _ kvs => some (.dict kvs)
  | .ins _ => none

/-- what a name holds: nothing, a value that nobody changes, an object of its own, such a one while a loop walks it, a list that is only read (the script) -/
inductive Slot where
  | un | val (d : D) | own (o : O) | lck (o : O) | ro (xs : List D)
abbrev Env := List Slot

/-- what an expression gives: a value, a new object, the object of a name -/
inductive R where
  | val (d : D) | tmp (o : O) | loc (i : Nat)

inductive Res (α : Type) where
  | ok (a : α) | exc (c : Nat) (f : D) (ρ : Env) | no

@[inline] def Res.bind {α β : Type} (r : Res α) (k : α → Res β) : Res β :=
  match r with
  | .ok a => k a
  | .exc c f ρ => .exc c f ρ
  | .no => .no
instance : Monad Res := { pure := .ok, bind := Res.bind }
@[simp] theorem bind_ok {α β : Type} (a : α) (k : α → Res β) : (Res.ok a >>= k) = k a := rfl
@[simp] theorem bind_exc {α β : Type} (c f ρ) (k : α → Res β) : ((Res.exc c f ρ : Res α) >>= k) = Res.exc c f ρ := rfl
@[simp] theorem bind_no {α β : Type} (k : α → Res β) : ((Res.no : Res α) >>= k) = Res.no := rfl
@[simp] theorem pure_ok {α : Type} (a : α) : (pure a : Res α) = Res.ok a := rfl
def Res.of {α : Type} : Option α → Res α
  | some a => .ok a
  | none => .no
@[simp] theorem of_some {α : Type} (a : α) : Res.of (some a) = Res.ok a := rfl
@[simp] theorem of_none {α : Type} : Res.of (none : Option α) = Res.no := rfl

/-! ### equality, shape -/
mutual
def eqv : D → D → Bool
  | .none, .none => true
  | .bool a, .bool b => a == b
  | .bool a, .int j => (if a then 1 else 0) == j
  | .int i, .bool b => i == (if b then 1 else 0)
  | .int i, .int j => i == j
  | .str x, .str y => x == y
  | .list xs, .list ys => eqvAll xs ys
  | .tuple xs, .tuple ys => eqvAll xs ys
  | _, _ => false
def eqvAll : List D → List D → Bool
  | [], [] => true
  | x :: xs, y :: ys => eqv x y && eqvAll xs ys
  | _, _ => false
end
mutual
/-- no dict within, at most n deep, texts not too long -/
def shp : Nat → D → Bool
  | _, .none => true
  | _, .bool _ => true
  | _, .int _ => true
  | _, .str x => x.cps.toList.all fun c => decide (c < 1114112)
  | n + 1, .list xs => shpAll n xs
  | n + 1, .tuple xs => shpAll n xs
  | _, _ => false
def shpAll : Nat → List D → Bool
  | _, [] => true
  | n, x :: xs => shp n x && shpAll n xs
end
/-- an int, a text or a tuple of such: what a dict's key may be -/
def keyOk : D → Bool
  | .int _ => true
  | .str _ => true
  | .tuple xs => xs.all fun d => match d with | .int _ => true | _ => false
  | _ => false

/-- .. by the kind of a dict -/
def keyT : Bool → D → Bool
  | false, .int _ => true
  | false, .str _ => true
  | true, .tuple xs => xs.all fun d => match d with | .int _ => true | _ => false
  | _, _ => false

/-! ### operators -/
inductive Bi where | add | sub | mul | fdiv | mod | pow
  deriving DecidableEq
inductive Cm where | lt | le | gt | ge | eq | ne | inn | nin
  deriving DecidableEq
/-- the kinds that isinstance is asked of -/
inductive Ty where | int | bool | str | tuple | list | dict
  deriving DecidableEq
inductive B1 where
  | len | abs | int | str | min | max | sum | all | sorted | list | tuple | lenset | sortset | isi (t : Ty) | values
  deriving DecidableEq
inductive B2 where | min | max
  deriving DecidableEq

def lim : Nat := 1000000
/-- a sequence's items -/
def items : D → Option (List D)
  | .list xs => some xs
  | .tuple xs => some xs
  | _ => none
def intsD : List D → Option (List Int)
  | [] => some []
  | .int i :: r => (intsD r).map (i :: ·)
  | _ :: _ => none
def bools : List D → Option (List Bool)
  | [] => some []
  | .bool b :: r => (bools r).map (b :: ·)
  | _ :: _ => none
def small (xs : List D) : Bool := xs.length < lim
def rep (n : Nat) (xs : List D) : List D := (List.replicate n xs).flatten

def bin : Bi → D → D → Option R
  | .add, .int i, .int j => some (.val (.int (i + j)))
  | .add, .tuple xs, .tuple ys => if small (xs ++ ys) then some (.val (.tuple (xs ++ ys))) else none
  | .add, .list xs, .list ys => if small (xs ++ ys) then some (.tmp (.lst (xs ++ ys))) else none
  | .add, .str x, .str y => if x.cps.size + y.cps.size < lim then some (.val (.str ⟨x.cps ++ y.cps⟩)) else none
  | .sub, .int i, .int j => some (.val (.int (i - j)))
  | .mul, .int i, .int j => if i.natAbs < 2 ^ 64 ∨ j.natAbs < 2 ^ 64 then some (.val (.int (i * j))) else none
  | .mul, .tuple xs, .int j => if j = 1 then some (.val (.tuple xs)) else if xs ≠ [] ∧ 2 ≤ j ∧ j ≤ 1000 ∧ xs.length ≤ 1000 then some (.val (.tuple (rep j.toNat xs))) else none
  | .mul, .str x, .int j => if x.cps.size = 1 ∧ 2 ≤ j ∧ j ≤ 100000 then some (.val (.str ⟨(List.replicate j.toNat x.cps).foldl (· ++ ·) #[]⟩)) else none
  | .mul, .list xs, .int j => if xs.length * j.toNat < lim ∧ -1000000 < j ∧ j < 1000000 then some (.tmp (.lst (rep j.toNat xs))) else none
  | .fdiv, .int i, .int j => if 0 < j ∧ j < 1000000000 then some (.val (.int (i / j))) else none
  | .mod, .int i, .int j => if 0 < j then some (.val (.int (i % j))) else none
  | .pow, .int i, .int j => if 0 ≤ j ∧ j ≤ 1000 ∧ i.natAbs < 1000000 then some (.val (.int (i ^ j.toNat))) else none
  | _, _, _ => none

/-- the order of tuples of intsD -/
def ltInts : List Int → List Int → Bool
  | [], [] => false
  | [], _ :: _ => true
  | _ :: _, [] => false
  | x :: xs, y :: ys => if x = y then ltInts xs ys else x < y

/-- the order of intsD, and of tuples of intsD -/
def ltD : D → D → Bool
  | .int i, .int j => decide (i < j)
  | .tuple xs, .tuple ys => match intsD xs, intsD ys with
    | some a, some b => ltInts a b
    | _, _ => false
  | _, _ => false

def pairI : List D → Option (List Int × List Int)
  | [.tuple a, .tuple b] => (intsD a).bind fun x => (intsD b).map fun y => (x, y)
  | _ => none
def ltPair (p q : List Int × List Int) : Bool := if p.1 = q.1 then ltInts p.2 q.2 else ltInts p.1 q.1
/-- a greater tuple: of ints, or a pair of such -/
def gtT (xs ys : List D) : Option Bool := match intsD xs, intsD ys with
  | some a, some b => some (ltInts b a)
  | _, _ => match pairI xs, pairI ys with
    | some p, some q => some (ltPair q p)
    | _, _ => none

def cmp : Cm → D → D → Option Bool
  | .lt, .int i, .int j => some (decide (i < j))
  | .le, .int i, .int j => some (decide (i ≤ j))
  | .gt, .int i, .int j => some (decide (j < i))
  | .gt, .tuple xs, .tuple ys => gtT xs ys
  | .ge, .int i, .int j => some (decide (j ≤ i))
  | .eq, a, b => if shp 8 a && shp 8 b then some (eqv a b) else none
  | .ne, a, b => if shp 8 a && shp 8 b then some (!eqv a b) else none
  | .inn, a, .list ys => if shp 8 a && shp 8 (.list ys) then some (ys.any fun z => eqv z a) else none
  | .inn, .int i, .tuple ys => (intsD ys).map fun is => is.contains i
  | .inn, .str x, .str y => match x.cps.toList with | [c] => some (decide (c ∈ y.cps.toList)) | _ => none
  | .nin, a, .list ys => if shp 8 a && shp 8 (.list ys) then some (!ys.any fun z => eqv z a) else none
  | .nin, .int i, .tuple ys => (intsD ys).map fun is => !is.contains i
  | .nin, .str x, .str y => match x.cps.toList with | [c] => some (!decide (c ∈ y.cps.toList)) | _ => none
  | _, _, _ => none

def isTy : Ty → D → Bool
  | .int, .int _ => true
  | .int, .bool _ => true
  | .bool, .bool _ => true
  | .str, .str _ => true
  | .tuple, .tuple _ => true
  | .list, .list _ => true
  | .dict, .dict _ => true
  | _, _ => false

def insD (x : D) : List D → List D
  | [] => [x]
  | y :: ys => if ltD y x then y :: insD x ys else x :: y :: ys
/-- a sort -/
def sortD : List D → List D
  | [] => []
  | x :: xs => insD x (sortD xs)
def tupI : D → Bool
  | .tuple (x :: xs) => (intsD (x :: xs)).isSome
  | _ => false
/-- intsD alone, or tuples of intsD alone (none empty) -/
def sortable (xs : List D) : Bool := (intsD xs).isSome || xs.all tupI
def boolsT : D → Bool
  | .tuple bs => (bools bs).isSome
  | _ => false
/-- two pairs (int, tuple of truth values), the ints ascending -/
def upP : List D → Bool
  | [.tuple [.int a, b], .tuple [.int c, d]] => decide (a < c) && boolsT b && boolsT d
  | _ => false
def stepI (acc : List Int) (x : Int) : List Int := if acc.any (· == x) then acc else acc ++ [x]
/-- one of each -/
def dedupI (xs : List Int) : List Int := xs.foldl stepI []

def minI : Int → List Int → Int
  | m, [] => m
  | m, x :: xs => minI (if x < m then x else m) xs
def maxI : Int → List Int → Int
  | m, [] => m
  | m, x :: xs => maxI (if x > m then x else m) xs

def digits (fuel : Nat) (n : Nat) : List Nat := match fuel with
  | 0 => []
  | k + 1 => if n < 10 then [48 + n] else digits k (n / 10) ++ [48 + n % 10]
def strOf (n : Nat) : Str := ⟨(digits 20 n).toArray⟩
def numOf : List Nat → Option Nat
  | cs => if cs.isEmpty then none else cs.foldl (fun a c => a.bind fun n => if 48 ≤ c ∧ c ≤ 57 then some (10 * n + (c - 48)) else none) (some 0)

/-- the number of a row of figures -/
def valL (cs : List Nat) : Nat := cs.foldl (fun acc c => acc * 10 + (c - 48)) 0
def figsL (cs : List Nat) : Bool := cs.all fun c => decide (48 ≤ c) && decide (c ≤ 57)
/-- int(text), three figures or more -/
def intS (cs : List Nat) : Option R := if cs.length ≤ 9 ∧ cs ≠ [] ∧ figsL cs = true then some (.val (.int (valL cs : Nat))) else none
/-- str(i), a greater number -/
def strB (i : Int) : Option R := if 0 ≤ i ∧ i < 1000000000 then some (.val (.str (strOf i.toNat))) else none
def chars (x : Str) : List D := x.cps.toList.map fun c => .str ⟨#[c]⟩
/-- sorted(set(xs)), xs a list of ints -/
def ssI (ds : List D) : Option R := (intsD ds).bind fun is => if is.length ≤ 4000 ∧ (dedupI is).length < 64 then some (.tmp (.lst (sortD ((dedupI is).map .int)))) else none
def tupsD : List D → Option (List (List Int))
  | [] => some []
  | .tuple ds :: r => (intsD ds).bind fun is => (tupsD r).map (is :: ·)
  | _ :: _ => none
def oneMoreT (acc : List (List Int)) (x : List Int) : List (List Int) := if x ∈ acc then acc else acc ++ [x]
def dedupL (xs : List (List Int)) : List (List Int) := xs.foldl oneMoreT []
/-- len(set(xs)), xs a list of tuples of ints -/
def lsT : D → Option R
  | .list xs => (tupsD xs).bind fun ls => if ls.length < 64 then some (.val (.int (dedupL ls).length)) else none
  | _ => none
def b1 : B1 → D → Option R
  | .len, .list xs => some (.val (.int xs.length))
  | .len, .tuple xs => some (.val (.int xs.length))
  | .len, .str x => if x.cps.size < lim then some (.val (.int x.cps.size)) else none
  | .abs, .int i => some (.val (.int (if i < 0 then -i else i)))
  | .int, .int i => some (.val (.int i))
  | .int, .bool b => some (.val (.int (if b then 1 else 0)))
  | .int, .str x => match x.cps.toList with
    | [c] => if 48 ≤ c ∧ c ≤ 57 then some (.val (.int (c - 48 : Nat))) else none
    | [c, d] => if 48 ≤ c ∧ c ≤ 57 ∧ 48 ≤ d ∧ d ≤ 57 then some (.val (.int (10 * (c - 48) + (d - 48) : Nat))) else none
    | cs => intS cs
  | .str, .int i => if 0 ≤ i ∧ i < 1000 then some (.val (.str (strOf i.toNat))) else strB i
  | .min, d => ((items d).bind intsD).bind fun is => match is with | [] => none | x :: r => some (.val (.int (minI x r)))
  | .max, d => ((items d).bind intsD).bind fun is => match is with | [] => none | x :: r => some (.val (.int (maxI x r)))
  | .sum, .list ds => (intsD ds).map fun is => .val (.int is.sum)
  | .all, .list ds => (bools ds).map fun bs => .val (.bool (bs.all id))
  | .sorted, .list xs => if sortable xs then some (.tmp (.lst (sortD xs))) else if upP xs then some (.tmp (.lst xs)) else none
  | .sorted, .tuple xs => if (intsD xs).isSome then some (.tmp (.lst (sortD xs))) else none
  | .list, .list xs => some (.tmp (.lst xs))
  | .list, .tuple xs => some (.tmp (.lst xs))
  | .list, .str x => if x.cps.size < lim then some (.tmp (.lst (chars x))) else none
  | .tuple, .list xs => some (.val (.tuple xs))
  | .tuple, .tuple xs => some (.val (.tuple xs))
  | .lenset, d => (((items d).bind intsD).bind fun is => if is.length ≤ 4000 then some (.val (.int (dedupI is).length)) else none).or (lsT d)
  | .sortset, .list ds => ssI ds
  | .isi t, d => some (.val (.bool (isTy t d)))
  | _, _ => none
def b2 : B2 → D → D → Option R
  | .min, .int i, .int j => some (.val (.int (if j < i then j else i)))
  | .max, .int i, .int j => some (.val (.int (if j > i then j else i)))
  | _, _, _ => none

/-- the place of an index -/
def place (n : Nat) (i : Int) : Option Nat := if 0 ≤ i then (if i < n then some i.toNat else none) else if -(n : Int) ≤ i then some (i + n).toNat else none
def ixD : D → D → Option R
  | .list xs, .int i => (place xs.length i).bind fun j => (xs[j]?).map .val
  | .tuple xs, .int i => (place xs.length i).bind fun j => (xs[j]?).map .val
  | .str x, .int i => if x.cps.size < lim then (place x.cps.toList.length i).bind fun j => (x.cps.toList[j]?).map fun c => .val (.str ⟨#[c]⟩) else none
  | _, _ => none
/-- a slice's end, cut to the length -/
def sIx (n d : Nat) : Option Int → Nat
  | none => d
  | some v => if v < 0 then (v + (n : Int)).toNat else min v.toNat n
def cutL {α : Type} (xs : List α) (lo hi : Option Int) : List α := (xs.drop (sIx xs.length 0 lo)).take (sIx xs.length xs.length hi - sIx xs.length 0 lo)
def slD (d : D) (a b : Option Int) : Option R :=
  match d with
  | .list xs => some (.tmp (.lst (cutL xs a b)))
  | .tuple xs => some (.val (.tuple (cutL xs a b)))
  | .str x => if x.cps.size < lim then some (.val (.str ⟨(cutL x.cps.toList a b).toArray⟩)) else none
  | _ => none
def revD : D → Option R
  | .list xs => some (.tmp (.lst xs.reverse))
  | .tuple xs => some (.val (.tuple xs.reverse))
  | _ => none
/-- methods that change nothing: index, count (intsD), join, split -/
inductive M1 where | index | count | join | split
  deriving DecidableEq
def texts : List D → Option (List Str)
  | [] => some []
  | .str x :: r => (texts r).map (x :: ·)
  | _ :: _ => none
def joinL (sep : List Nat) : List Str → List Nat
  | [] => []
  | [x] => x.cps.toList
  | x :: r => x.cps.toList ++ sep ++ joinL sep r
def splitL (c : Nat) : List Nat → List (List Nat)
  | [] => [[]]
  | x :: r => if x = c then [] :: splitL c r else match splitL c r with | w :: ws => (x :: w) :: ws | [] => [[x]]
def m1 : M1 → D → D → Option R
  | .count, .list ds, .int i => (intsD ds).map fun is => .val (.int (is.count i : Nat))
  | .index, .tuple ds, .int i => (intsD ds).bind fun is => if i ∈ is then some (.val (.int (is.idxOf i : Nat))) else none
  | .join, .str s, .list ds => (texts ds).bind fun xs => if (xs.map (·.cps.size)).sum + xs.length * s.cps.size < lim then some (.val (.str ⟨(joinL s.cps.toList xs).toArray⟩)) else none
  | .split, .str x, .str s => match s.cps.toList with | [c] => if c < 256 ∧ x.cps.size < lim then some (.tmp (.lst ((splitL c x.cps.toList).map fun w => .str ⟨w.toArray⟩))) else none | _ => none
  | _, _, _ => none

/-- the kind of what a method is asked of -/
def m1k : M1 → Option D → Bool
  | .count, some (.list _) => true
  | .index, some (.tuple _) => true
  | .join, some (.str _) => true
  | .split, some (.str _) => true
  | _, _ => false

/-! ### the language -/
/-- the targets of loops: a name, names -/
inductive Tg where | nm (i : Nat) | tup (is : List Nat)
mutual
inductive E where
  | var (i : Nat) | cst (d : D) | glo (x : Nat) (d : D)
  | bin (o : Bi) (a b : E) | neg (a : E)
  | cmp (o : Cm) (a b : E) | chn (o p : Cm) (a b c : E) | isN (a : E) | ntN (a : E)
  | and (a b : E) | or (a b : E) | not (a : E) | ite (c a b : E)
  | call (f : Nat) (as : Es)
  | b1 (f : B1) (a : E) | b2 (f : B2) (a b : E) | m1 (f : M1) (a b : E)
  | ix (a i : E) | sl (a : E) (lo hi : Eo) | rev (a : E)
  | tup (es : Es) | lst (es : Es) | dnew (t : Bool) | dsp (k v : E) | din (neg : Bool) (a : E) (i : Nat) | dvals (i : Nat)
  | rg1 (l : Bool) (a : E) | rg2 (l : Bool) (a b : E)
  | lc (elt : E) (tg : Tg) (it : It) (c : Eo) (vs : List Nat)
  | lc2 (elt : E) (tg : Tg) (it : It) (tg' : Tg) (it' : It) (vs vs1 : List Nat)
  | dc (k v : E) (tg : Tg) (it : It) (c : Eo) (vs : List Nat)
  | app (i : Nat) (a : E) | pop (i : Nat) (a : Eo)
  | get (i : Nat) (k d : E)
  | er0 (c : Nat) | er1 (c : Nat) (a : E) | isE (c : Nat) (a : E) | xfd (i : Nat) (f : Str)
  | isB (neg b : Bool) (a : E) | fld (i : Nat) (f : Str) | lno (i : Nat) | mth (f i : Nat) (as : Es) | mk (f : Nat) (as : Es)
inductive Es where
  | nil | cons (e : E) (es : Es) | star (e : E) (es : Es)
inductive Eo where
  | no | so (e : E)
/-- what is walked -/
inductive It where
  | r1 (a : E) | r2 (a b : E) | r3 (a b c : E) | envar (i : Nat) | enu (a : E) | var (i : Nat) | val (a : E)
end
/-- an except suite -/
inductive U where
  | set (i : Nat) (d : D)
  | inc (i : Nat) (n : Int)
  | app (i : Nat) (d : D)
  | setF (i : Nat) (w : D) (e : Nat)
  | appF (i : Nat) (e : Nat)
mutual
inductive S where
  | asg (i : Nat) (e : E)
  | par (is : List Nat) (es : Es)
  | unp (is : List Nat) (e : E)
  | sub (i : Nat) (ix e : E)
  | swp (i : Nat) (a b c d : E)
  | aug (i : Nat) (o : Bi) (e : E)
  | exp (e : E)
  | ret (e : E)
  | cond (c : E) (a b : Ss)
  | loop (tg : Tg) (it : It) (b : Ss)
  | whil (c : E) (b : Ss)
  | rais (c : Nat) (e : Eo)
  | tri (b : Ss) (hs : List (Nat × Option Nat × U))
  | sfld (i : Nat) (f : Str) (e : E)
  | pass
  | stuck
inductive Ss where
  | nil | cons (s : S) (r : Ss)
end
structure Def where
  /-- parameters; further names; the parameters that the body stores to -/
  np : Nat
  ns : Nat
  reb : List Nat
  body : Ss

/-! ### the interpreter -/
def view : Slot → Option D
  | .un => none
  | .val d => some d
  | .own o => o.toD
  | .lck o => o.toD
  | .ro xs => some (.list xs)
def look (ρ : Env) : R → Option D
  | .val d => some d
  | .tmp o => o.toD
  | .loc i => (ρ[i]?).bind view
/-- .. not the script -/
def lookS (ρ : Env) : R → Option D
  | .val d => some d
  | .tmp o => o.toD
  | .loc i => match ρ[i]? with
    | some (.val d) => some d
    | some (.own o) => o.toD
    | some (.lck o) => o.toD
    | _ => none
/-- as a value that nobody changes any more -/
def fix (ρ : Env) : R → Option (D × Env)
  | .val d => some (d, ρ)
  | .tmp o => o.toD.map fun d => (d, ρ)
  | .loc i => match ρ[i]? with
    | some (.val d) => some (d, ρ)
    | some (.own o) => o.toD.map fun d => (d, ρ.set i (.val d))
    | _ => none
def getV (ρ : Env) (i : Nat) : Option R :=
  match ρ[i]? with
  | some (.val d) => some (.val d)
  | some (.own _) => some (.loc i)
  | some (.lck _) => some (.loc i)
  | some (.ro _) => some (.loc i)
  | _ => none
/-- the list that a name owns -/
def ownL (ρ : Env) (i : Nat) : Option (List D) :=
  match ρ[i]? with
  | some (.own (.lst xs)) => some xs
  | _ => none
/-- a name gets a value -/
def put (ρ : Env) (i : Nat) : R → Option Env
  | .val d => if i < ρ.length then some (ρ.set i (.val d)) else none
  | .tmp o => if i < ρ.length then some (ρ.set i (.own o)) else none
  | .loc j => if i < ρ.length then (fix ρ (.loc j)).map fun p => p.2.set i (.val p.1) else none
def putV (ρ : Env) (i : Nat) (d : D) : Option Env := if i < ρ.length then some (ρ.set i (.val d)) else none
def putVs : Env → List Nat → List D → Option Env
  | ρ, [], [] => some ρ
  | ρ, i :: is, d :: ds => (putV ρ i d).bind fun ρ' => putVs ρ' is ds
  | _, _, _ => none
def putTg (ρ : Env) : Tg → D → Option Env
  | .nm i, d => putV ρ i d
  | .tup is, .tuple ds => putVs ρ is ds
  | .tup _, _ => none
/-- the slots of a block's own names: free, or plain values -/
def wipeE (ρ : Env) (vs : List Nat) : Option Env :=
  match vs with
  | [] => some ρ
  | v :: r => match ρ[v]? with
    | some .un => (wipeE ρ r).map fun ρ' => ρ'.set v .un
    | some (.val _) => (wipeE ρ r).map fun ρ' => ρ'.set v .un
    | _ => none
/-- behind the block: as it was -/
def backE (ρ0 : Env) : List Nat → Env → Env
  | [], ρ => ρ
  | v :: r, ρ => match ρ0[v]? with
    | some s => (backE ρ0 r ρ).set v s
    | none => backE ρ0 r ρ

/-- what a call takes and gives: the arguments, as values or objects handed over; the answer, and the parameters behind it -/
abbrev CallT := Nat → List Slot → Res (R × List Slot)

def argOf (ρ : Env) : R → Option Slot
  | .val d => some (.val d)
  | .tmp o => some (.own o)
  | .loc i => match ρ[i]? with
    | some (.val d) => some (.val d)
    | some (.own o) => some (.own o)
    | some (.ro xs) => some (.ro xs)
    | _ => none
def argsOf (ρ : Env) : List R → Option (List Slot)
  | [] => some []
  | r :: rs => (argOf ρ r).bind fun s => (argsOf ρ rs).map (s :: ·)
/-- the objects that are lent -/
def lent (ρ : Env) : List R → List Nat
  | [] => []
  | .loc i :: rs => (match ρ[i]? with | some (.own _) => [i] | _ => []) ++ lent ρ rs
  | _ :: rs => lent ρ rs
def nodupN : List Nat → Bool
  | [] => true
  | i :: r => !r.contains i && nodupN r
def backArgs : Env → List R → List Slot → Option Env
  | ρ, [], [] => some ρ
  | ρ, .loc i :: rs, s :: ss => match ρ[i]?, s with
    | some (.own _), .own o => backArgs (ρ.set i (.own o)) rs ss
    | some (.own _), .lck o => backArgs (ρ.set i (.own o)) rs ss
    | some (.own _), .val d => backArgs (ρ.set i (.val d)) rs ss
    | some (.val _), _ => backArgs ρ rs ss
    | some (.ro _), _ => backArgs ρ rs ss
    | _, _ => none
  | ρ, _ :: rs, _ :: ss => backArgs ρ rs ss
  | _, _, _ => none
def notLoc : R → Bool
  | .loc _ => false
  | _ => true
def doCall (call : CallT) (f : Nat) (rs : List R) (ρ : Env) : Res (R × Env) :=
  match argsOf ρ rs with
  | none => .no
  | some ss =>
    if nodupN (lent ρ rs) then
      match call f ss with
      | .ok p => if notLoc p.1 = true then (Res.of (backArgs ρ rs p.2)).bind fun ρ' => .ok (p.1, ρ') else .no
      | .exc c d outs => match backArgs ρ rs outs with
        | some ρ' => .exc c d ρ'
        | none => .no
      | .no => .no
    else .no

/-! ### instances -/
def fldNames : List Str := ["now", "past", "future"]
def isIns (ρ : Env) (i : Nat) : Bool := match ρ[i]? with
  | some (.own (.ins _)) => true
  | _ => false
def putFd (f : Str) (d : D) : List (Str × D) → List (Str × D)
  | [] => [(f, d)]
  | (g, x) :: r => if g = f then (g, d) :: r else (g, x) :: putFd f d r
/-- __init__ as a call that hands the new object back -/
def mkCall (call : CallT) : CallT := fun f ss => match call f ss with
  | .ok (.val .none, .own (.ins fs) :: outs) => .ok (.tmp (.ins fs), .un :: outs)
  | .ok _ => .no
  | .exc c d outs => .exc c d outs
  | .no => .no
def fldOfE (ρ : Env) (i : Nat) (f : Str) : Option D := match ρ[i]? with
  | some (.own (.ins fs)) => fs.lookup f
  | _ => none
def setFld (ρ : Env) (i : Nat) (f : Str) (d : D) : Option Env := match ρ[i]? with
  | some (.own (.ins fs)) => if (fldNames.contains f && decide (fs.length < 900)) = true then some (ρ.set i (.own (.ins (putFd f d fs)))) else none
  | _ => none

def rangeL (lo hi : Int) : List D := (List.range (hi - lo).toNat).map fun (k : Nat) => .int (lo + k)
def rangeOk (i : Int) : Bool := -1000000 < i && i < 1000000
def stepN (lo hi c : Int) : Nat := (if lo < hi then (hi - lo - 1) / c + 1 else 0).toNat
def stepL (lo hi c : Int) : List D := (List.range (stepN lo hi c)).map fun (k : Nat) => .int (lo + k * c)
def enumL : Nat → List D → List D
  | _, [] => []
  | n, d :: r => .tuple [.int n, d] :: enumL (n + 1) r

/-- what a value has to be walked -/
def itemsW : D → Option (List D)
  | .str x => some (chars x)
  | d => items d
/-- a name's object to be walked: items, which name is locked meanwhile -/
def lockV (ρ : Env) (i : Nat) : Option ((List D × Option Nat) × Env) :=
  match ρ[i]? with
  | some (.val d) => (itemsW d).map fun xs => ((xs, none), ρ)
  | some (.own (.lst xs)) => some ((xs, some i), ρ.set i (.lck (.lst xs)))
  | some (.lck (.lst xs)) => some ((xs, none), ρ)
  | some (.ro xs) => some ((xs, none), ρ)
  | _ => none
def isStr : Option D → Bool
  | some (.str _) => true
  | _ => false
def walkR : R → Option (List D)
  | .val d => itemsW d
  | .tmp (.lst xs) => some xs
  | _ => none
def unlockE (ρ : Env) : Option Nat → Option Env
  | none => some ρ
  | some i => match ρ[i]? with
    | some (.lck o) => some (ρ.set i (.own o))
    | _ => none

def loopF (body : D → Env → Res (Env × Option R)) : List D → Env → Res (Env × Option R)
  | [], ρ => .ok (ρ, none)
  | d :: ds, ρ => match body d ρ with
    | .ok (ρ', none) => loopF body ds ρ'
    | .ok (ρ', some s) => .ok (ρ', some s)
    | .exc c f ρ' => .exc c f ρ'
    | .no => .no
/-- a comprehension's turns: the items so far, the environment -/
def loopC (turn : D → Env → Res (Option D × Env)) : List D → List D → Env → Res (List D × Env)
  | [], acc, ρ => .ok (acc, ρ)
  | d :: ds, acc, ρ => match turn d ρ with
    | .ok (some x, ρ') => if small acc then loopC turn ds (acc ++ [x]) ρ' else .no
    | .ok (none, ρ') => loopC turn ds acc ρ'
    | _ => .no
/-- .. the list handed on -/
def loopA (turn : D → List D → Env → Res (List D × Env)) : List D → List D → Env → Res (List D × Env)
  | [], acc, ρ => .ok (acc, ρ)
  | d :: ds, acc, ρ => match turn d acc ρ with
    | .ok (acc', ρ') => loopA turn ds acc' ρ'
    | _ => .no
def loopW (c : Env → Res (Bool × Env)) (b : Env → Res (Env × Option R)) : Nat → Env → Res (Env × Option R)
  | 0, _ => .no
  | n + 1, ρ => match c ρ with
    | .ok (true, ρ1) => (match b ρ1 with
      | .ok (ρ2, none) => loopW c b n ρ2
      | .ok (ρ2, some s) => .ok (ρ2, some s)
      | .exc c f ρ' => .exc c f ρ'
      | .no => .no)
    | .ok (false, ρ1) => .ok (ρ1, none)
    | .exc c f ρ' => .exc c f ρ'
    | .no => .no

def setKey (kvs : List (D × D)) (k v : D) : List (D × D) :=
  if kvs.any (eqv k ·.1) then kvs.map fun p => if eqv k p.1 then (p.1, v) else p else kvs ++ [(k, v)]
def mkDict : List D → Option (List (D × D))
  | [] => some []
  | .tuple [k, v] :: r => if keyT false k then (mkDict r).map fun kvs => (k, v) :: kvs else none
  | _ => none
def mkDictL (kvs : List (D × D)) : List (D × D) := kvs.foldl (fun a p => setKey a p.1 p.2) []

def isNone : R → Bool
  | .val .none => true
  | _ => false
/-- a result that is True or False -/
def asB : Res (R × Env) → Res (Bool × Env)
  | .ok (.val (.bool b), ρ) => .ok (b, ρ)
  | .ok _ => .no
  | .exc c f ρ => .exc c f ρ
  | .no => .no

/-! ### errors as values -/
def ecls (c : Nat) (d : D) : Option Bool := match d with
  | .dict ((.none, .int k) :: _) => some (decide (c = 100) || decide (c = 0) || decide ((c : Int) = k))
  | _ => none
def efld (f : Str) (d : D) : Option D := match d with
  | .dict [(.none, .int k), (.none, x)] => if (if k = 7 then some ("index" : Str) else if k = 13 then some ("word" : Str) else none) = some f then some x else none
  | _ => none
section
variable (call : CallT)
mutual
def eval : E → Env → Res (R × Env)
  | .var i, ρ => (Res.of (getV ρ i)).bind fun r => .ok (r, ρ)
  | .cst d, ρ => .ok (.val d, ρ)
  | .glo _ d, ρ => .ok (.val d, ρ)
  | .bin o a b, ρ => (eval a ρ).bind fun p => (eval b p.2).bind fun q =>
      match lookS q.2 p.1, lookS q.2 q.1 with
      | some x, some y => (Res.of (bin o x y)).bind fun r => .ok (r, q.2)
      | _, _ => .no
  | .neg a, ρ => (eval a ρ).bind fun p => match p.1 with
      | .val (.int i) => .ok (.val (.int (-i)), p.2)
      | _ => .no
  | .cmp o a b, ρ => (eval a ρ).bind fun p => (eval b p.2).bind fun q =>
      match look q.2 p.1, look q.2 q.1 with
      | some x, some y => (Res.of (cmp o x y)).bind fun r => .ok (.val (.bool r), q.2)
      | _, _ => .no
  | .chn o o2 a b c, ρ => (eval a ρ).bind fun p => (eval b p.2).bind fun q =>
      match look q.2 p.1, q.1 with
      | some x, .val y => (Res.of (cmp o x y)).bind fun r =>
          if r = true then (eval c q.2).bind fun s => match look s.2 s.1 with
            | some z => (Res.of (cmp o2 y z)).bind fun r2 => .ok (.val (.bool r2), s.2)
            | none => .no
          else .ok (.val (.bool false), q.2)
      | _, _ => .no
  | .isN a, ρ => (eval a ρ).bind fun p => .ok (.val (.bool (isNone p.1)), p.2)
  | .ntN a, ρ => (eval a ρ).bind fun p => .ok (.val (.bool (!isNone p.1)), p.2)
  | .er0 c, ρ => .ok (.val (.dict [(.none, .int c)]), ρ)
  | .er1 c a, ρ => (eval a ρ).bind fun p => match fix p.2 p.1 with
      | none => .no
      | some (x, ρ') => .ok (.val (.dict [(.none, .int c), (.none, x)]), ρ')
  | .isE c a, ρ => (eval a ρ).bind fun p => match p.1 with
      | .val d => (Res.of (ecls c d)).bind fun b => .ok (.val (.bool b), p.2)
      | _ => .no
  | .xfd i f, ρ => match ρ[i]? with
      | some (.val d) => (Res.of (efld f d)).bind fun x => .ok (.val x, ρ)
      | _ => .no
  | .isB neg b a, ρ => (eval a ρ).bind fun p => match p.1 with
      | .val (.bool x) => .ok (.val (.bool ((x == b) != neg)), p.2)
      | _ => .no
  | .and a b, ρ => (asB (eval a ρ)).bind fun p => if p.1 = true then eval b p.2 else .ok (.val (.bool false), p.2)
  | .or a b, ρ => (asB (eval a ρ)).bind fun p => if p.1 = true then .ok (.val (.bool true), p.2) else eval b p.2
  | .not a, ρ => (asB (eval a ρ)).bind fun p => .ok (.val (.bool (!p.1)), p.2)
  | .ite c a b, ρ => (asB (eval c ρ)).bind fun p => if p.1 = true then eval a p.2 else eval b p.2
  | .call f as, ρ => (evals as ρ).bind fun p => doCall call f p.1 p.2
  | .fld i f, ρ => (Res.of (fldOfE ρ i f)).bind fun d => .ok (.val d, ρ)
  | .lno i, ρ => match fldOfE ρ i "past" with
      | some (.tuple ds) => .ok (.val (.int ds.length), ρ)
      | _ => .no
  | .mth f i as, ρ => if isIns ρ i = true then (evals as ρ).bind fun p => if isIns p.2 i = true then doCall call f (.loc i :: p.1) p.2 else .no else .no
  | .mk f as, ρ => (evals as ρ).bind fun p => doCall (mkCall call) f (.tmp (.ins []) :: p.1) p.2
  | .b1 f a, ρ => (eval a ρ).bind fun p => match look p.2 p.1 with
      | some x => (Res.of (b1 f x)).bind fun r => .ok (r, p.2)
      | none => .no
  | .b2 f a b, ρ => (eval a ρ).bind fun p => (eval b p.2).bind fun q => match p.1, q.1 with
      | .val x, .val y => (Res.of (b2 f x y)).bind fun r => .ok (r, q.2)
      | _, _ => .no
  | .m1 f a b, ρ => (eval a ρ).bind fun p => if m1k f (look p.2 p.1) = true then (eval b p.2).bind fun q => (match look q.2 p.1, look q.2 q.1 with
      | some x, some y => (Res.of (m1 f x y)).bind fun r => .ok (r, q.2)
      | _, _ => .no) else .no
  | .ix a i, ρ => (eval a ρ).bind fun p => (eval i p.2).bind fun q => match look q.2 p.1, q.1 with
      | some x, .val y => (Res.of (ixD x y)).bind fun r => .ok (r, q.2)
      | _, _ => .no
  | .sl a lo hi, ρ => (eval a ρ).bind fun p => (evalo lo p.2).bind fun q => (evalo hi q.2).bind fun s => match look s.2 p.1 with
      | some x => (Res.of (slD x q.1 s.1)).bind fun r => .ok (r, s.2)
      | none => .no
  | .rev a, ρ => (eval a ρ).bind fun p => match look p.2 p.1 with
      | some x => (Res.of (revD x)).bind fun r => .ok (r, p.2)
      | none => .no
  | .tup es, ρ => (evalv es ρ).bind fun p => if small p.1 then .ok (.val (.tuple p.1), p.2) else .no
  | .lst es, ρ => (evalv es ρ).bind fun p => if small p.1 then .ok (.tmp (.lst p.1), p.2) else .no
  | .dnew t, ρ => .ok (.tmp (.dic t []), ρ)
  | .dsp k v, ρ => (eval k ρ).bind fun p => (eval v p.2).bind fun q => match p.1, fix q.2 q.1 with
      | .val kd, some (x, ρ') => if keyT true kd = true then .ok (.tmp (.dic true [(kd, x)]), ρ') else .no
      | _, _ => .no
  | .dvals i, ρ => match ρ[i]? with
      | some (.own (.dic false kvs)) => .ok (.tmp (.lst (kvs.map (·.2))), ρ)
      | _ => .no
  | .din neg a i, ρ => (eval a ρ).bind fun p => match p.1, p.2[i]? with
      | .val kd, some (.own (.dic t kvs)) => if keyT t kd = true then .ok (.val (.bool (neg != kvs.any (eqv kd ·.1))), p.2) else .no
      | _, _ => .no
  | .rg1 l a, ρ => (eval a ρ).bind fun p => match p.1 with
      | .val (.int i) => if rangeOk i = true then .ok (if l = true then .tmp (.lst (rangeL 0 i)) else .val (.tuple (rangeL 0 i)), p.2) else .no
      | _ => .no
  | .rg2 l a b, ρ => (eval a ρ).bind fun p => (eval b p.2).bind fun q => match p.1, q.1 with
      | .val (.int i), .val (.int j) => if (rangeOk i && rangeOk j) = true then .ok (if l = true then .tmp (.lst (rangeL i j)) else .val (.tuple (rangeL i j)), q.2) else .no
      | _, _ => .no
  | .lc elt tg it c vs, ρ => (walk it ρ).bind fun p => match wipeE p.2 vs with
      | none => .no
      | some ρ1 => (loopC (fun d ρ => match putTg ρ tg d with
          | none => .no
          | some ρ2 => (test c ρ2).bind fun t =>
            if t.1 then (eval elt t.2).bind fun r => match fix r.2 r.1 with
              | none => .no
              | some (x, ρ4) => (Res.of (wipeE ρ4 vs)).bind fun ρ5 => .ok (some x, ρ5)
            else (Res.of (wipeE t.2 vs)).bind fun ρ5 => .ok (none, ρ5)) p.1.1 [] ρ1).bind fun q =>
          (Res.of (unlockE (backE p.2 vs q.2) p.1.2)).bind fun ρ' => .ok (.tmp (.lst q.1), ρ')
  | .lc2 elt tg it tg' it' vs vs1, ρ => (walk it ρ).bind fun p => match wipeE p.2 vs with
      | none => .no
      | some ρ1 => (loopA (fun d acc ρ => match putTg ρ tg d with
          | none => .no
          | some ρ2 => (walk it' ρ2).bind fun p' => match p'.1.2, wipeE p'.2 vs1 with
            | none, some ρ3 => (loopC (fun d ρ => match putTg ρ tg' d with
                | none => .no
                | some ρ2 => (Res.ok (true, ρ2)).bind fun (t : Bool × Env) =>
                  if t.1 then (eval elt t.2).bind fun r => match fix r.2 r.1 with
                    | none => .no
                    | some (x, ρ4) => (Res.of (wipeE ρ4 vs1)).bind fun ρ5 => .ok (some x, ρ5)
                  else (Res.of (wipeE t.2 vs1)).bind fun ρ5 => .ok (none, ρ5)) p'.1.1 acc ρ3).bind fun q' => (Res.of (wipeE q'.2 vs)).bind fun ρ8 => .ok (q'.1, ρ8)
            | _, _ => .no) p.1.1 [] ρ1).bind fun q =>
          (Res.of (unlockE (backE p.2 vs q.2) p.1.2)).bind fun ρ' => .ok (.tmp (.lst q.1), ρ')
  | .dc k v tg it c vs, ρ => (walk it ρ).bind fun p => match wipeE p.2 vs with
      | none => .no
      | some ρ1 => (loopC (fun d ρ => match putTg ρ tg d with
          | none => .no
          | some ρ2 => (test c ρ2).bind fun t =>
            if t.1 then (eval k t.2).bind fun r => match r.1 with
              | .val kd => (eval v r.2).bind fun r' => match fix r'.2 r'.1 with
                | none => .no
                | some (x, ρ4) => if keyT false kd then (Res.of (wipeE ρ4 vs)).bind fun ρ5 => .ok (some (.tuple [kd, x]), ρ5) else .no
              | _ => .no
            else (Res.of (wipeE t.2 vs)).bind fun ρ5 => .ok (none, ρ5)) p.1.1 [] ρ1).bind fun q =>
          (Res.of (unlockE (backE p.2 vs q.2) p.1.2)).bind fun ρ' => (Res.of (mkDict q.1)).bind fun kvs => .ok (.tmp (.dic false (mkDictL kvs)), ρ')
  | .app i a, ρ => if (ownL ρ i).isSome = true then (eval a ρ).bind fun p => match fix p.2 p.1 with
      | none => .no
      | some (x, ρ') => match ownL ρ' i with
        | some xs => if small xs then .ok (.val .none, ρ'.set i (.own (.lst (xs ++ [x])))) else .no
        | none => .no
      else .no
  | .pop i a, ρ => if (ownL ρ i).isSome = true then (evalo a ρ).bind fun p => match ownL p.2 i with
      | some xs => (match p.1 with
        | none => (match xs[xs.length - 1]? with | some x => .ok (.val x, p.2.set i (.own (.lst xs.dropLast))) | none => .no)
        | some j => if 0 ≤ j ∧ j < 1000000 then (match xs[j.toNat]? with | some x => .ok (.val x, p.2.set i (.own (.lst (xs.eraseIdx j.toNat)))) | none => .no) else .no)
      | none => .no
      else .no
  | .get i k d, ρ => (eval k ρ).bind fun p => (eval d p.2).bind fun q => match p.1, q.1, (q.2[i]?).bind view with
      | .val kd, .val x, some (.dict kvs) => if keyOk kd then .ok (.val (((kvs.find? (eqv kd ·.1)).map (·.2)).getD x), q.2) else .no
      | _, _, _ => .no
/-- the arguments of a call -/
def evals : Es → Env → Res (List R × Env)
  | .nil, ρ => .ok ([], ρ)
  | .cons e es, ρ => (eval e ρ).bind fun p => (evals es p.2).bind fun q => .ok (p.1 :: q.1, q.2)
  | .star _ _, _ => .no
/-- the items of a display: values from now on -/
def evalv : Es → Env → Res (List D × Env)
  | .nil, ρ => .ok ([], ρ)
  | .cons e es, ρ => (eval e ρ).bind fun p => match fix p.2 p.1 with
      | none => .no
      | some (x, ρ') => (evalv es ρ').bind fun q => .ok (x :: q.1, q.2)
  | .star e es, ρ => (eval e ρ).bind fun p => match p.1 with
      | .val d => (Res.of (items d)).bind fun xs => (evalv es p.2).bind fun q => .ok (xs ++ q.1, q.2)
      | _ => .no
def evalo : Eo → Env → Res (Option Int × Env)
  | .no, ρ => .ok (none, ρ)
  | .so e, ρ => (eval e ρ).bind fun p => match p.1 with
      | .val (.int i) => .ok (some i, p.2)
      | _ => .no
def test : Eo → Env → Res (Bool × Env)
  | .no, ρ => .ok (true, ρ)
  | .so e, ρ => asB (eval e ρ)
/-- items, the locked name; the environment -/
def walk : It → Env → Res ((List D × Option Nat) × Env)
  | .r1 a, ρ => (eval a ρ).bind fun p => match p.1 with
      | .val (.int i) => if rangeOk i then .ok ((rangeL 0 i, none), p.2) else .no
      | _ => .no
  | .r2 a b, ρ => (eval a ρ).bind fun p => (eval b p.2).bind fun q => match p.1, q.1 with
      | .val (.int i), .val (.int j) => if rangeOk i && rangeOk j then .ok ((rangeL i j, none), q.2) else .no
      | _, _ => .no
  | .r3 a b c, ρ => (eval a ρ).bind fun p => (eval b p.2).bind fun q => (eval c q.2).bind fun r => match p.1, q.1, r.1 with
      | .val (.int i), .val (.int j), .val (.int k) => if rangeOk i && rangeOk j && rangeOk k && decide (0 < k) then .ok ((stepL i j k, none), r.2) else .no
      | _, _, _ => .no
  | .envar i, ρ => if isStr ((ρ[i]?).bind view) = true then .no else (Res.of (lockV ρ i)).bind fun q => .ok ((enumL 0 q.1.1, q.1.2), q.2)
  | .enu a, ρ => (eval a ρ).bind fun p => if isStr (look p.2 p.1) = true then .no else (Res.of (walkR p.1)).bind fun xs => .ok ((enumL 0 xs, none), p.2)
  | .var i, ρ => Res.of (lockV ρ i)
  | .val a, ρ => (eval a ρ).bind fun p => (Res.of (walkR p.1)).bind fun xs => .ok ((xs, none), p.2)
end

def hasObj (ρ : Env) (i : Nat) : Bool := match ρ[i]? with
  | some (.own _) => true
  | _ => false
/-- xs[j] = x, d[k] = x -/
def storeD (ρ : Env) (i : Nat) (k x : D) : Option Env := match ρ[i]? with
  | some (.own (.lst xs)) => (match k with
    | .int j => (place xs.length j).map fun n => ρ.set i (.own (.lst (xs.set n x)))
    | _ => none)
  | some (.own (.dic t kvs)) => if (keyT t k && decide (kvs.length < lim)) = true then some (ρ.set i (.own (.dic t (setKey kvs k x)))) else none
  | _ => none
def augI : Bi → Int → Int → Option Int
  | .add, x, y => some (x + y)
  | .sub, x, y => some (x - y)
  | _, _, _ => none
/-- what a return hands back: a parameter's object is a value from now on, an own one goes along -/
def retOf (np : Nat) (ρ : Env) : R → Option (R × Env)
  | .val d => some (.val d, ρ)
  | .tmp o => some (.tmp o, ρ)
  | .loc i => if i < np then (fix ρ (.loc i)).map fun p => (.val p.1, p.2) else match ρ[i]? with
    | some (.own o) => some (.tmp o, ρ.set i .un)
    | some (.lck o) => some (.tmp o, ρ.set i .un)
    | some (.val d) => some (.val d, ρ)
    | _ => none
def puts : Env → List Nat → List R → Option Env
  | ρ, [], [] => some ρ
  | ρ, i :: is, r :: rs => (put ρ i r).bind fun ρ' => puts ρ' is rs
  | _, _, _ => none
/-- the objects of names are values from now on -/
def fixLocs : Env → List R → Option (List R × Env)
  | ρ, [] => some ([], ρ)
  | ρ, .loc i :: rs => (fix ρ (.loc i)).bind fun p => (fixLocs p.2 rs).map fun q => (.val p.1 :: q.1, q.2)
  | ρ, r :: rs => (fixLocs ρ rs).map fun q => (r :: q.1, q.2)
/-- behind an error: the suite -/
def suite (ρ : Env) (f : D) : U → Option Env
  | .set i d => putV ρ i d
  | .inc i n => match ρ[i]? with
    | some (.val (.int k)) => putV ρ i (.int (k + n))
    | _ => none
  | .app i d => match ρ[i]? with
    | some (.own (.lst xs)) => if small xs then some (ρ.set i (.own (.lst (xs ++ [d])))) else none
    | _ => none
  | .setF i w _ => putV ρ i (.tuple [w, f])
  | .appF i _ => match ρ[i]? with
    | some (.own (.lst xs)) => if small xs then some (ρ.set i (.own (.lst (xs ++ [f])))) else none
    | _ => none
def caught (ρ : Env) (c : Nat) (f : D) : List (Nat × Option Nat × U) → Res (Env × Option R)
  | [] => .exc c f ρ
  | (c', n, u) :: hs => if c = c' then (match n with
      | none => (Res.of (suite ρ f u)).bind fun ρ' => .ok (ρ', none)
      | some e => if e < ρ.length then (Res.of (suite (ρ.set e .un) f u)).bind fun ρ' => .ok (ρ'.set e .un, none) else .no) else caught ρ c f hs

variable (np : Nat)
mutual
def exec : S → Env → Res (Env × Option R)
  | .asg i e, ρ => (eval call e ρ).bind fun p => (Res.of (put p.2 i p.1)).bind fun ρ' => .ok (ρ', none)
  | .par is es, ρ => (evals call es ρ).bind fun p => (Res.of (fixLocs p.2 p.1)).bind fun q => (Res.of (puts q.2 is q.1)).bind fun ρ' => .ok (ρ', none)
  | .unp is e, ρ => (eval call e ρ).bind fun p => match p.1 with
      | .val (.tuple ds) => (Res.of (putVs p.2 is ds)).bind fun ρ' => .ok (ρ', none)
      | _ => .no
  | .sub i ix e, ρ => (eval call e ρ).bind fun p => match fix p.2 p.1 with
      | none => .no
      | some (x, ρ1) => if hasObj ρ1 i = true then (eval call ix ρ1).bind fun q => match q.1 with
        | .val kd => (Res.of (storeD q.2 i kd x)).bind fun ρ' => .ok (ρ', none)
        | _ => .no
        else .no
  | .swp i a b c d, ρ => if hasObj ρ i = true then (eval call (.ix (.var i) c) ρ).bind fun p => (eval call (.ix (.var i) d) p.2).bind fun q => match p.1, q.1 with
      | .val x, .val y => if hasObj q.2 i = true then (eval call a q.2).bind fun r => (match r.1 with
        | .val j => (Res.of (storeD r.2 i j x)).bind fun ρ1 => (eval call b ρ1).bind fun s => (match s.1 with
          | .val j' => (Res.of (storeD s.2 i j' y)).bind fun ρ2 => .ok (ρ2, none)
          | _ => .no)
        | _ => .no)
        else .no
      | _, _ => .no
      else .no
  | .aug i o e, ρ => match ρ[i]? with
      | some (.val (.int x)) => (eval call e ρ).bind fun p => match p.1 with
        | .val (.int y) => (Res.of (augI o x y)).bind fun z => (Res.of (putV p.2 i (.int z))).bind fun ρ' => .ok (ρ', none)
        | _ => .no
      | _ => .no
  | .exp e, ρ => (eval call e ρ).bind fun p => .ok (p.2, none)
  | .ret e, ρ => (eval call e ρ).bind fun p => (Res.of (retOf np p.2 p.1)).bind fun q => .ok (q.2, some q.1)
  | .cond c a b, ρ => (asB (eval call c ρ)).bind fun p => if p.1 = true then execs a p.2 else execs b p.2
  | .loop tg it b, ρ => (walk call it ρ).bind fun p =>
      (loopF (fun d ρ => match putTg ρ tg d with
        | none => .no
        | some ρ1 => execs b ρ1) p.1.1 p.2).bind fun q => match q.2 with
          | none => (Res.of (unlockE q.1 p.1.2)).bind fun ρ' => .ok (ρ', none)
          | some s => .ok (q.1, some s)
  | .whil c b, ρ => loopW (fun ρ => asB (eval call c ρ)) (execs b) 1000000 ρ
  | .rais c .no, ρ => .exc c .none ρ
  | .rais c (.so e), ρ => (eval call e ρ).bind fun p => match fix p.2 p.1 with
      | none => .no
      | some (x, ρ') => .exc c x ρ'
  | .tri b hs, ρ => match execs b ρ with
      | .ok p => .ok p
      | .exc c f ρ' => caught ρ' c f hs
      | .no => .no
  | .sfld i f e, ρ => (eval call e ρ).bind fun p => match fix p.2 p.1 with
      | none => .no
      | some (d, ρ1) => (Res.of (setFld ρ1 i f d)).bind fun ρ' => .ok (ρ', none)
  | .pass, ρ => .ok (ρ, none)
  | .stuck, _ => .no
def execs : Ss → Env → Res (Env × Option R)
  | .nil, ρ => .ok (ρ, none)
  | .cons s r, ρ => match exec s ρ with
      | .ok (ρ', none) => execs r ρ'
      | .ok (ρ', some v) => .ok (ρ', some v)
      | .exc c f ρ' => .exc c f ρ'
      | .no => .no
end
end

/-- own parameters go to such as are not stored to -/
def lendOk (reb : List Nat) : Nat → List Slot → Bool
  | _, [] => true
  | i, .val _ :: r => lendOk reb (i + 1) r
  | i, .own _ :: r => !reb.contains i && lendOk reb (i + 1) r
  | i, .ro _ :: r => lendOk reb (i + 1) r
  | _, _ => false

/-- the parameters behind a call; those that were stored to are not told -/
def mask (reb : List Nat) : Nat → List Slot → List Slot
  | _, [] => []
  | i, s :: r => (if reb.contains i then .un else s) :: mask reb (i + 1) r

def callF (tab : Nat → Option Def) : Nat → CallT
  | 0, _, _ => .no
  | k + 1, f, args => match tab f with
    | none => .no
    | some d => if args.length = d.np ∧ lendOk d.reb 0 args = true then
        match execs (callF tab k) d.np d.body (args ++ List.replicate d.ns .un) with
        | .ok (ρ, none) => .ok (.val .none, mask d.reb 0 (ρ.take d.np))
        | .ok (ρ, some r) => .ok (r, mask d.reb 0 (ρ.take d.np))
        | .exc c f ρ => .exc c f (mask d.reb 0 (ρ.take d.np))
        | .no => .no
      else .no
end Mlg
/-! Sound1: values and states of the small language over the layer's heaps. -/
namespace Msd
open PySem PySem.Spec PyProof.Rows L2 Mlg
abbrev Frag := PySem.W.Frag
abbrev St := L2.St
abbrev Env := Mlg.Env
abbrev Slot := Mlg.Slot
abbrev R := Mlg.R
abbrev O := Mlg.O
abbrev D := Mlg.D

/-! ### data -/
def keyD : Key → D
  | .inl i => .int i
  | .inr x => .str x
def enm : Nat → Str
  | 0 => "LaceError" | 1 => "BadSize" | 2 => "BadOrder" | 3 => "BadRow" | 4 => "BadCut" | 5 => "BadRunning" | 6 => "BadNumber" | 7 => "BadPack" | 8 => "BadTold" | 9 => "BadPlace"
  | 10 => "BadPlaces" | 11 => "BadTimes" | 12 => "TooGreat" | 13 => "BadText" | _ => ""
/-- the field of an error class -/
def fldOf : Nat → Option Str := fun c => if c = 7 then some "index" else if c = 13 then some "word" else none
/-- an error class whose instances may be asked of their class -/
structure KxC (K : Frag) (C : Addr) : Prop where
  cl : (PySem.W.clsIn K C).isSome = true
  hg : PySem.W.findIn K (.ref C) "__getattribute__" = some (some (.builtin "BaseException.__getattribute__"))
  hk : PySem.W.findIn K (.ref C) "__getattr__" = some none
  hs : PySem.W.subIn K (.ref C) (.type "BaseException") = some true
  hd : PySem.W.hasDictIn K C = true
  ha : PySem.W.findIn K (.ref C) "__class__" = some (some (.builtin "object.__class__"))
  hn : PySem.W.specialIn K (.builtin "object.__class__") "__get__" = some (some (.builtin "getset_descriptor.__get__"))
  ht : PySem.W.takesIn K (.builtin "object.__class__") = some true
  hm : PySem.W.mroIn K C (.type "object") = some true
structure KxP (K : Frag) (c : Nat) : Prop extends KxC K (He.ga K (enm c)) where
  kit : ∀ c', c' < 14 → PySem.W.kitOne K (.ref (He.ga K (enm c))) (.ref (He.ga K (enm c'))) = some (decide (c' = 0) || decide (c' = c))
  kve : PySem.W.kitOne K (.ref (He.ga K (enm c))) (.type "ValueError") = some true
  xf : ∀ f, fldOf c = some f → XfC K (He.ga K (enm c)) ∧ PySem.W.findIn K (.ref (He.ga K (enm c))) f = some none
mutual
inductive Rep (K : Frag) (F : Hp) : V → D → Prop
  | non : Rep K F .non .none
  | bl (b : Bool) : Rep K F (.bl b) (.bool b)
  | int (i : Int) : Rep K F (.int i) (.int i)
  | str (x : Str) : Rep K F (.str x) (.str x)
  | lst {a : Addr} {vs : List V} {ds : List D} : F a = some (.lst vs) → Reps K F vs ds → Rep K F (.ref a) (.list ds)
  | tup {a : Addr} {vs : List V} {ds : List D} : F a = some (.tup vs) → Reps K F vs ds → Rep K F (.ref a) (.tuple ds)
  | dk {a : Addr} {ks : List Key} {vs : List V} {ds : List D} : F a = some (.dK (ks.zip vs)) → ks.length = vs.length → Reps K F vs ds → Rep K F (.ref a) (.dict ((ks.map keyD).zip ds))
  | dt {a : Addr} {ks : List (List Key)} {vs : List V} {ds : List D} : F a = some (.dT (ks.zip vs)) → ks.length = vs.length → Reps K F vs ds → Rep K F (.ref a) (.dict ((ks.map fun k => PyData.tuple (k.map keyD)).zip ds))
  | er0 {a : Addr} (c : Nat) : F a = some (exo a (He.ga K (enm c)) none) → KxP K c → fldOf c = none → Rep K F (.ref a) (.dict [(.none, .int c)])
  | er1 {a dx : Addr} {v : V} {d : D} (c : Nat) (f : Str) : F a = some (exo a (He.ga K (enm c)) (some dx)) → F dx = some (exd dx [(f, v)]) → KxP K c → fldOf c = some f → Rep K F v d → Rep K F (.ref a) (.dict [(.none, .int c), (.none, d)])
inductive Reps (K : Frag) (F : Hp) : List V → List D → Prop
  | nil : Reps K F [] []
  | cons {v : V} {vs : List V} {d : D} {ds : List D} : Rep K F v d → Reps K F vs ds → Reps K F (v :: vs) (d :: ds)
end

theorem sqT_mono {K : Frag} {H H' : Hp} {a : Addr} {xs : List V} (e : Same H H') (h : SqT K H a xs) : SqT K H' a xs := by
  rcases h with (h | ⟨o, h⟩) | h
  · exact .inl (.inl (e _ _ h))
  · exact .inl (.inr ⟨o, e _ _ h⟩)
  · exact .inr h
mutual
theorem Rep.mono {K : Frag} {F F' : Hp} (e : Same F F') : ∀ {v : V} {d : D}, Rep K F v d → Rep K F' v d
  | _, _, .non => .non
  | _, _, .bl b => .bl b
  | _, _, .int i => .int i
  | _, _, .str x => .str x
  | _, _, .lst h r => .lst (e _ _ h) (Reps.mono e r)
  | _, _, .tup h r => .tup (e _ _ h) (Reps.mono e r)
  | _, _, .dk h l r => .dk (e _ _ h) l (Reps.mono e r)
  | _, _, .dt h l r => .dt (e _ _ h) l (Reps.mono e r)
  | _, _, .er0 c h k l => .er0 c (e _ _ h) k l
  | _, _, .er1 c f h1 h2 h3 h4 r => .er1 c f (e _ _ h1) (e _ _ h2) h3 h4 (Rep.mono e r)
theorem Reps.mono {K : Frag} {F F' : Hp} (e : Same F F') : ∀ {vs : List V} {ds : List D}, Reps K F vs ds → Reps K F' vs ds
  | _, _, .nil => .nil
  | _, _, .cons h r => .cons (Rep.mono e h) (Reps.mono e r)
end
section
variable {K : Frag} {F F' H H' : Hp}
theorem Reps.length : ∀ {vs : List V} {ds : List D}, Reps K F vs ds → vs.length = ds.length
  | _, _, .nil => rfl
  | _, _, .cons _ r => by simp [Reps.length r]
theorem Reps.append : ∀ {vs ws : List V} {ds es : List D}, Reps K F vs ds → Reps K F ws es → Reps K F (vs ++ ws) (ds ++ es)
  | _, _, _, _, .nil, s => s
  | _, _, _, _, .cons h r, s => .cons h (Reps.append r s)
theorem Reps.get : ∀ {vs : List V} {ds : List D} {i : Nat} {v : V}, Reps K F vs ds → vs[i]? = some v → ∃ d, ds[i]? = some d ∧ Rep K F v d
  | _, _, _, _, .nil, e => by simp at e
  | _, _, 0, _, .cons h r, e => by simp at e; subst e; exact ⟨_, rfl, h⟩
  | _, _, i + 1, v, .cons h r, e => by
    obtain ⟨d, h1, h2⟩ := Reps.get (i := i) r (by simpa using e)
    exact ⟨d, by simpa using h1, h2⟩
theorem Reps.get' : ∀ {vs : List V} {ds : List D} {i : Nat} {d : D}, Reps K F vs ds → ds[i]? = some d → ∃ v, vs[i]? = some v ∧ Rep K F v d
  | _, _, _, _, .nil, e => by simp at e
  | _, _, 0, _, .cons h r, e => by simp at e; subst e; exact ⟨_, rfl, h⟩
  | _, _, i + 1, v, .cons h r, e => by
    obtain ⟨d, h1, h2⟩ := Reps.get' (i := i) r (by simpa using e)
    exact ⟨d, by simpa using h1, h2⟩
theorem Reps.set {v : V} {d : D} (h : Rep K F v d) : ∀ {vs : List V} {ds : List D} (i : Nat), Reps K F vs ds → Reps K F (vs.set i v) (ds.set i d)
  | _, _, _, .nil => .nil
  | _, _, 0, .cons _ r => .cons h r
  | _, _, i + 1, .cons q r => .cons q (Reps.set h i r)
theorem Reps.drop : ∀ {vs : List V} {ds : List D} (n : Nat), Reps K F vs ds → Reps K F (vs.drop n) (ds.drop n)
  | _, _, 0, r => r
  | _, _, _ + 1, .nil => .nil
  | _, _, n + 1, .cons _ r => Reps.drop n r
theorem Reps.take : ∀ {vs : List V} {ds : List D} (n : Nat), Reps K F vs ds → Reps K F (vs.take n) (ds.take n)
  | _, _, 0, _ => .nil
  | _, _, _ + 1, .nil => .nil
  | _, _, n + 1, .cons h r => .cons h (Reps.take n r)
theorem Reps.eraseIdx : ∀ {vs : List V} {ds : List D} (n : Nat), Reps K F vs ds → Reps K F (vs.eraseIdx n) (ds.eraseIdx n)
  | _, _, _, .nil => .nil
  | _, _, 0, .cons _ r => r
  | _, _, n + 1, .cons h r => .cons h (Reps.eraseIdx n r)
theorem Reps.reverse : ∀ {vs : List V} {ds : List D}, Reps K F vs ds → Reps K F vs.reverse ds.reverse
  | _, _, .nil => .nil
  | _, _, .cons h r => by
    rw [List.reverse_cons, List.reverse_cons]
    exact Reps.append (Reps.reverse r) (.cons h .nil)
theorem Reps.flat : ∀ (n : Nat) {vs : List V} {ds : List D}, Reps K F vs ds → Reps K F (List.replicate n vs).flatten (List.replicate n ds).flatten
  | 0, _, _, _ => .nil
  | n + 1, _, _, r => by
    rw [List.replicate_succ, List.replicate_succ, List.flatten_cons, List.flatten_cons]
    exact Reps.append r (Reps.flat n r)

/-! ### objects of one owner -/
/-- the text's one class of its own -/
def deckC (K : Frag) : Addr := He.ga K "Deck"
def FldR (K : Frag) (F : Hp) (gs : List (Str × V)) (fs : List (Str × D)) : Prop := gs.map (·.1) = fs.map (·.1) ∧ Reps K F (gs.map (·.2)) (fs.map (·.2)) ∧ ∀ n ∈ fs.map (·.1), n ∈ fldNames
def ObjR (K : Frag) (F H : Hp) (p : Addr) : O → Prop
  | .ins fs => ∃ (dx : Addr) (gs : List (Str × V)), H p = some (.ins (deckC K) dx gs) ∧ FldR K F gs fs
  | .lst ds => ∃ vs, H p = some (.lst vs) ∧ Reps K F vs ds
  | .dic false kvs => ∃ (ks : List Key) (vs : List V) (ds : List D), H p = some (.dK (ks.zip vs)) ∧ ks.length = vs.length ∧ Reps K F vs ds ∧ kvs = (ks.map keyD).zip ds
  | .dic true kvs => ∃ (ks : List (List Key)) (vs : List V) (ds : List D), H p = some (.dT (ks.zip vs)) ∧ ks.length = vs.length ∧ Reps K F vs ds ∧ kvs = (ks.map fun k => PyData.tuple (k.map keyD)).zip ds
theorem ObjR.at {p : Addr} : ∀ {o : O}, ObjR K F H p o → ∃ u, H p = some u
  | .lst _, ⟨_, h, _⟩ => ⟨_, h⟩
  | .dic false _, ⟨_, _, _, h, _⟩ => ⟨_, h⟩
  | .dic true _, ⟨_, _, _, h, _⟩ => ⟨_, h⟩
  | .ins _, ⟨_, _, h, _⟩ => ⟨_, h⟩
theorem ObjR.move {p : Addr} (e : Same F F') (k : ∀ u, H p = some u → H' p = some u) : ∀ {o : O}, ObjR K F H p o → ObjR K F' H' p o
  | .lst _, ⟨vs, h, r⟩ => ⟨vs, k _ h, r.mono e⟩
  | .dic false _, ⟨ks, vs, ds, h, l, r, z⟩ => ⟨ks, vs, ds, k _ h, l, r.mono e, z⟩
  | .dic true _, ⟨ks, vs, ds, h, l, r, z⟩ => ⟨ks, vs, ds, k _ h, l, r.mono e, z⟩
  | .ins _, ⟨dx, gs, h, a, r, z⟩ => ⟨dx, gs, k _ h, a, r.mono e, z⟩
/-- frozen: a value -/
theorem ObjR.rep {p : Addr} (hF : F p = none) : ∀ {o : O} {d : D}, ObjR K F H p o → o.toD = some d → ∃ u, H p = some u ∧ Rep K (upd F p u) (.ref p) d
  | .lst _, _, ⟨vs, h, r⟩, e => ⟨_, h, by
      cases e
      exact .lst upd_same (r.mono fun b u e => by rw [upd_ne (ne_of_none e hF)]; exact e)⟩
  | .dic false _, _, ⟨ks, vs, ds, h, l, r, z⟩, e => ⟨_, h, by
      cases e
      subst z
      exact .dk upd_same l (r.mono fun b u e => by rw [upd_ne (ne_of_none e hF)]; exact e)⟩
  | .dic true _, _, ⟨ks, vs, ds, h, l, r, z⟩, e => ⟨_, h, by
      cases e
      subst z
      exact .dt upd_same l (r.mono fun b u e => by rw [upd_ne (ne_of_none e hF)]; exact e)⟩
theorem same_new {p : Addr} {u : HO} (hF : F p = none) : Same F (upd F p u) := fun b o e => by rw [upd_ne (ne_of_none e hF)]; exact e

/-! ### states -/
def isOwn : Slot → Option O
  | .own o => some o
  | .lck o => some o
  | _ => none
def Own (ρ : Env) (σ : St) (p : Addr) : Prop := ∃ (i : Nat) (s : Slot) (o : O), ρ[i]? = some s ∧ isOwn s = some o ∧ σ[i]? = some (some (.ref p))
/-- .. and may change -/
def OwnU (ρ : Env) (σ : St) (p : Addr) : Prop := ∃ (i : Nat) (o : O), ρ[i]? = some (.own o) ∧ σ[i]? = some (some (.ref p))
theorem OwnU.own {ρ : Env} {σ : St} {p : Addr} (h : OwnU ρ σ p) : Own ρ σ p := let ⟨i, o, a, b⟩ := h; ⟨i, _, o, a, rfl, b⟩
def SlotR (K : Frag) (F H : Hp) (σ : St) (i : Nat) : Slot → Prop
  | .un => True
  | .val d => ∃ v, σ[i]? = some (some v) ∧ Rep K F v d
  | .own o => ∃ p, σ[i]? = some (some (.ref p)) ∧ F p = none ∧ ObjR K F H p o
  | .lck o => ∃ p, σ[i]? = some (some (.ref p)) ∧ F p = none ∧ ObjR K F H p o
  | .ro xs => ∃ a vs, σ[i]? = some (some (.ref a)) ∧ SqL K F a vs ∧ Reps K F vs xs
structure Sim (K : Frag) (ρ : Env) (F : Hp) (σ : St) (H : Hp) : Prop where
  fh : Same F H
  len : ρ.length = σ.length
  slot : ∀ (i : Nat) (s : Slot), ρ[i]? = some s → SlotR K F H σ i s
  sep : ∀ (i j : Nat) (si sj : Slot) (oi oj : O) (p : Addr), ρ[i]? = some si → ρ[j]? = some sj → isOwn si = some oi → isOwn sj = some oj → σ[i]? = some (some (.ref p)) → σ[j]? = some (some (.ref p)) → i = j
/-- no tuple stands there -/
def NT (H : Hp) (p : Addr) : Prop := ∀ vs, H p ≠ some (.tup vs)
theorem NT.keep {H H1 : Hp} {p : Addr} (h2 : H p ≠ none) (h4 : NT H p) (k : ∀ o, H p = some o → H1 p = some o) : NT H1 p := fun vs e => by
  cases q : H p with
  | none => exact h2 q
  | some u =>
    have := k u q
    rw [e] at this
    cases this
    exact h4 vs q
theorem ObjR.nt {p : Addr} : ∀ {o : O}, ObjR K F H p o → NT H p
  | .lst _, ⟨_, h, _⟩, vs, e => by rw [h] at e; cases e
  | .dic false _, ⟨_, _, _, h, _⟩, vs, e => by rw [h] at e; cases e
  | .dic true _, ⟨_, _, _, h, _⟩, vs, e => by rw [h] at e; cases e
  | .ins _, ⟨_, _, h, _⟩, vs, e => by rw [h] at e; cases e
structure Step (ρ : Env) (σ : St) (F H : Hp) (ρ' : Env) (σ' : St) (F' H' : Hp) : Prop where
  ext : Same F F'
  keep : ∀ a o, H a = some o → ¬ OwnU ρ σ a → H' a = some o
  dom : ∀ a, H' a = none → H a = none
  own : ∀ p, Own ρ' σ' p → Own ρ σ p ∨ H p = none
  ownU : ∀ p, OwnU ρ' σ' p → OwnU ρ σ p ∨ H p = none
  frz : ∀ p, F p = none → H p ≠ none → ¬ OwnU ρ σ p → NT H p → F' p = none
theorem Step.refl {ρ : Env} {σ : St} : Step ρ σ F H ρ σ F H := ⟨.refl _, fun _ _ h _ => h, fun _ h => h, fun _ h => .inl h, fun _ h => .inl h, fun _ h _ _ _ => h⟩
theorem Step.trans {ρ ρ1 ρ2 : Env} {σ σ1 σ2 : St} {F1 F2 H1 H2 : Hp} (a : Step ρ σ F H ρ1 σ1 F1 H1) (b : Step ρ1 σ1 F1 H1 ρ2 σ2 F2 H2) : Step ρ σ F H ρ2 σ2 F2 H2 where
  ext := a.ext.trans b.ext
  keep := fun c o h n => b.keep c o (a.keep c o h n) fun q => (a.ownU c q).elim n fun z => by rw [z] at h; cases h
  dom := fun c h => a.dom c (b.dom c h)
  own := fun p q => (b.own p q).elim (fun z => a.own p z) fun z => .inr (a.dom p z)
  ownU := fun p q => (b.ownU p q).elim (fun z => a.ownU p z) fun z => .inr (a.dom p z)
  frz := fun p h1 h2 h3 h4 => b.frz p (a.frz p h1 h2 h3 h4) (fun z => h2 (a.dom p z)) (fun q => (a.ownU p q).elim h3 h2) (h4.keep h2 fun o e => a.keep p o e h3)
/-- no name's object gets another one; frozen ones aside -/
theorem own_sub {ρ ρ' : Env} {σ : St} (h : ∀ (i : Nat) (s : Slot) (o : O), ρ'[i]? = some s → isOwn s = some o → ∃ (s' : Slot) (o' : O), ρ[i]? = some s' ∧ isOwn s' = some o') (p : Addr) (q : Own ρ' σ p) : Own ρ σ p := by
  obtain ⟨i, s, o, h1, h2, h3⟩ := q
  obtain ⟨s', o', h4, h5⟩ := h i s o h1 h2
  exact ⟨i, s', o', h4, h5, h3⟩
variable {ρ ρ' : Env} {σ σ' : St}
theorem Sim.ownAt (S : Sim K ρ F σ H) {p : Addr} (q : Own ρ σ p) : F p = none ∧ ∃ u, H p = some u := by
  obtain ⟨i, s, o, h1, h2, h3⟩ := q
  have := S.slot i s h1
  cases s with
  | un => cases h2
  | val d => cases h2
  | own o' =>
    obtain ⟨p', e, f, r⟩ := this
    rw [h3] at e
    cases e
    exact ⟨f, r.at⟩
  | lck o' =>
    obtain ⟨p', e, f, r⟩ := this
    rw [h3] at e
    cases e
    exact ⟨f, r.at⟩
  | ro xs => cases h2
theorem Sim.ownNT (S : Sim K ρ F σ H) {p : Addr} (q : Own ρ σ p) : NT H p := by
  obtain ⟨i, s, o, h1, h2, h3⟩ := q
  have := S.slot i s h1
  cases s with
  | un => cases h2
  | val d => cases h2
  | own o' =>
    obtain ⟨p', e, f, r⟩ := this
    rw [h3] at e
    cases e
    exact r.nt
  | lck o' =>
    obtain ⟨p', e, f, r⟩ := this
    rw [h3] at e
    cases e
    exact r.nt
  | ro xs => cases h2
theorem Sim.new (S : Sim K ρ F σ H) {p : Addr} (h : H p = none) : F p = none ∧ ¬ Own ρ σ p :=
  ⟨S.fh.free h, fun q => by obtain ⟨_, u, e⟩ := S.ownAt q; rw [h] at e; cases e⟩
/-- a slot's word where the heaps grow and its own object stays -/
theorem SlotR.move {i : Nat} {s : Slot} (h : SlotR K F H σ i s) (e : Same F F') (k : ∀ p u, σ[i]? = some (some (.ref p)) → (∃ o, isOwn s = some o) → H p = some u → H' p = some u ∧ F' p = none) : SlotR K F' H' σ i s := by
  cases s with
  | un => trivial
  | val d => obtain ⟨v, h1, h2⟩ := h; exact ⟨v, h1, h2.mono e⟩
  | own o =>
    obtain ⟨p, h1, h2, h3⟩ := h
    obtain ⟨u, hu⟩ := h3.at
    exact ⟨p, h1, (k p u h1 ⟨o, rfl⟩ hu).2, h3.move e fun u hu => (k p u h1 ⟨o, rfl⟩ hu).1⟩
  | lck o =>
    obtain ⟨p, h1, h2, h3⟩ := h
    obtain ⟨u, hu⟩ := h3.at
    exact ⟨p, h1, (k p u h1 ⟨o, rfl⟩ hu).2, h3.move e fun u hu => (k p u h1 ⟨o, rfl⟩ hu).1⟩
  | ro xs => obtain ⟨a, vs, h1, h2, h3⟩ := h; exact ⟨a, vs, h1, e.seq h2, h3.mono e⟩
/-- a new object that nobody of ours holds -/
theorem Sim.laid (S : Sim K ρ F σ H) {p : Addr} {u : HO} (h : H p = none) : Sim K ρ F σ (upd H p u) := by
  refine ⟨fun b o e => ?_, S.len, fun i s hs => (S.slot i s hs).move (.refl _) fun q u e ⟨o, ho⟩ hu => ?_, S.sep⟩
  · rw [upd_ne (ne_of_none (S.fh b o e) h)]; exact S.fh b o e
  · exact ⟨by rw [upd_ne (ne_of_none hu h)]; exact hu, (S.ownAt ⟨i, s, o, hs, ho, e⟩).1⟩
/-- .. and frozen -/
theorem Sim.laidF (S : Sim K ρ F σ H) {p : Addr} {u : HO} (h : H p = none) : Sim K ρ (upd F p u) σ (upd H p u) := by
  have hF := (S.new h).1
  refine ⟨fun b o e => ?_, S.len, fun i s hs => (S.slot i s hs).move (same_new hF) fun q u e ⟨o, ho⟩ hu => ?_, S.sep⟩
  · by_cases hb : b = p
    · subst hb; rw [upd_same] at e ⊢; exact e
    · rw [upd_ne hb] at e ⊢; exact S.fh b o e
  · have hq := ne_of_none hu h
    exact ⟨by rw [upd_ne hq]; exact hu, by rw [upd_ne hq]; exact (S.ownAt ⟨i, s, o, hs, ho, e⟩).1⟩
theorem Step.laid {p : Addr} {u : HO} (h : H p = none) : Step ρ σ F H ρ σ F (upd H p u) :=
  ⟨.refl _, fun a o e _ => by rw [upd_ne (ne_of_none e h)]; exact e, fun a e => by
    by_cases ha : a = p
    · subst ha; exact h
    · rw [upd_ne ha] at e; exact e, fun _ q => .inl q, fun _ q => .inl q, fun _ e _ _ _ => e⟩
theorem Step.laidF {p : Addr} {u : HO} (hF : F p = none) (h : H p = none) : Step ρ σ F H ρ σ (upd F p u) (upd H p u) :=
  ⟨same_new hF, (Step.laid (ρ := ρ) (σ := σ) (F := F) h).keep, (Step.laid (ρ := ρ) (σ := σ) (F := F) h).dom, fun _ q => .inl q, fun _ q => .inl q, fun q e n _ _ => by rw [upd_ne (show q ≠ p from fun z => n (z ▸ h))]; exact e⟩
/-- a new object is frozen -/
theorem Step.freezeT {p : Addr} {u : HO} (s : Step ρ σ F H ρ' σ' F' H') (h : H p = none) (hF : F' p = none) : Step ρ σ F H ρ' σ' (upd F' p u) H' :=
  ⟨s.ext.trans (same_new hF), s.keep, s.dom, s.own, s.ownU, fun q e n m t => by rw [upd_ne (show q ≠ p from fun z => n (z ▸ h))]; exact s.frz q e n m t⟩
/-- a new object that is tracked stays where it is frozen later -/
theorem Sim.freezeNew (S : Sim K ρ F σ H) {p : Addr} {u : HO} (h : H p = some u) (hF : F p = none) (hn : ¬ Own ρ σ p) : Sim K ρ (upd F p u) σ H := by
  refine ⟨fun b o e => ?_, S.len, fun i s hs => (S.slot i s hs).move (same_new hF) fun q u e ⟨o, ho⟩ hu => ⟨hu, ?_⟩, S.sep⟩
  · by_cases hb : b = p
    · subst hb; rw [upd_same] at e; rw [h]; exact e
    · rw [upd_ne hb] at e; exact S.fh b o e
  · have hq : q ≠ p := fun z => hn ⟨i, s, o, hs, ho, z ▸ e⟩
    rw [upd_ne hq]; exact (S.ownAt ⟨i, s, o, hs, ho, e⟩).1
theorem isOwn_set {i j : Nat} {s t : Slot} {o : O} (hi : i < ρ.length) (h : (ρ.set i t)[j]? = some s) (ho : isOwn s = some o) : (j = i ∧ isOwn t = some o) ∨ (j ≠ i ∧ ρ[j]? = some s) := by
  by_cases e : j = i
  · subst e
    rw [List.getElem?_set_self hi] at h
    cases h
    exact .inl ⟨rfl, ho⟩
  · rw [List.getElem?_set_ne (Ne.symm e)] at h
    exact .inr ⟨e, h⟩
theorem lt_of_get {α : Type} {l : List α} {i : Nat} {x : α} (h : l[i]? = some x) : i < l.length := (List.getElem?_eq_some_iff.mp h).1
/-- a name's object is frozen -/
theorem Sim.freeze (S : Sim K ρ F σ H) {i : Nat} {o : O} {d : D} (h : ρ[i]? = some (.own o)) (hd : o.toD = some d) : ∃ p u, σ[i]? = some (some (.ref p)) ∧ H p = some u ∧ F p = none ∧ Rep K (upd F p u) (.ref p) d ∧
    Sim K (ρ.set i (.val d)) (upd F p u) σ H ∧ Step ρ σ F H (ρ.set i (.val d)) σ (upd F p u) H := by
  obtain ⟨p, h1, h2, h3⟩ := S.slot i _ h
  obtain ⟨u, hu, hr⟩ := h3.rep h2 hd
  have hi : i < ρ.length := lt_of_get h
  refine ⟨p, u, h1, hu, h2, hr, ⟨fun b o e => ?_, by rw [List.length_set]; exact S.len, fun j s hs => ?_, fun j k sj sk oj ok q hj hk hoj hok ej ek => ?_⟩, same_new h2, fun _ _ e _ => e, fun _ e => e, fun q hq => ?_, fun q hq => ?_, fun q e n m _ => by rw [upd_ne (show q ≠ p from fun z => m ⟨i, o, h, z ▸ h1⟩)]; exact e⟩
  · by_cases hb : b = p
    · subst hb; rw [upd_same] at e; rw [hu]; exact e
    · rw [upd_ne hb] at e; exact S.fh b o e
  · by_cases e : j = i
    · subst e
      rw [List.getElem?_set_self hi] at hs
      cases hs
      exact ⟨.ref p, h1, hr⟩
    · rw [List.getElem?_set_ne (Ne.symm e)] at hs
      refine (S.slot j s hs).move (same_new h2) fun q w eq ⟨o', ho'⟩ hw => ⟨hw, ?_⟩
      have hq : q ≠ p := fun z => e (S.sep j i s _ o' o p hs h ho' rfl (z ▸ eq) h1)
      rw [upd_ne hq]; exact (S.ownAt ⟨j, s, o', hs, ho', eq⟩).1
  · rcases isOwn_set hi hj hoj with ⟨_, z⟩ | ⟨nj, hj⟩
    · cases z
    · rcases isOwn_set hi hk hok with ⟨_, z⟩ | ⟨nk, hk⟩
      · cases z
      · exact S.sep j k sj sk oj ok q hj hk hoj hok ej ek
  · obtain ⟨j, s, o', hj, ho, ej⟩ := hq
    rcases isOwn_set hi hj ho with ⟨_, z⟩ | ⟨nj, hj⟩
    · cases z
    · exact .inl ⟨j, s, o', hj, ho, ej⟩
  · obtain ⟨j, o', hj, ej⟩ := hq
    rcases isOwn_set hi hj rfl with ⟨_, z⟩ | ⟨nj, hj⟩
    · cases z
    · exact .inl ⟨j, o', hj, ej⟩
/-- a name's object is changed -/
theorem Sim.change (S : Sim K ρ F σ H) {i : Nat} {o o' : O} {p : Addr} {u : HO} (h : ρ[i]? = some (.own o)) (hp : σ[i]? = some (some (.ref p))) (hn : ObjR K F (upd H p u) p o') :
    Sim K (ρ.set i (.own o')) F σ (upd H p u) ∧ Step ρ σ F H (ρ.set i (.own o')) σ F (upd H p u) := by
  have hi : i < ρ.length := lt_of_get h
  have hO : Own ρ σ p := ⟨i, _, o, h, rfl, hp⟩
  obtain ⟨hF, w, hw⟩ := S.ownAt hO
  refine ⟨⟨fun b x e => ?_, by rw [List.length_set]; exact S.len, fun j s hs => ?_, fun j k sj sk oj ok q hj hk hoj hok ej ek => ?_⟩, .refl _, fun a x e n => ?_, fun a e => ?_, fun q hq => ?_, fun q hq => ?_, fun _ e _ _ _ => e⟩
  · rw [upd_ne (ne_of_none e hF)]; exact S.fh b x e
  · by_cases e : j = i
    · subst e
      rw [List.getElem?_set_self hi] at hs
      cases hs
      exact ⟨p, hp, hF, hn⟩
    · rw [List.getElem?_set_ne (Ne.symm e)] at hs
      refine (S.slot j s hs).move (.refl _) fun q w eq ⟨o2, ho2⟩ hw => ⟨?_, (S.ownAt ⟨j, s, o2, hs, ho2, eq⟩).1⟩
      have hq : q ≠ p := fun z => e (S.sep j i s _ o2 o p hs h ho2 rfl (z ▸ eq) hp)
      rw [upd_ne hq]; exact hw
  · rcases isOwn_set hi hj hoj with ⟨ej', _⟩ | ⟨nj, hj'⟩
    · rcases isOwn_set hi hk hok with ⟨ek', _⟩ | ⟨nk, hk'⟩
      · rw [ej', ek']
      · exact ej'.trans (S.sep i k _ sk o ok q h hk' rfl hok (ej' ▸ ej) ek)
    · rcases isOwn_set hi hk hok with ⟨ek', _⟩ | ⟨nk, hk'⟩
      · exact (S.sep j i sj _ oj o q hj' h hoj rfl ej (ek' ▸ ek)).trans ek'.symm
      · exact S.sep j k sj sk oj ok q hj' hk' hoj hok ej ek
  · have ha : a ≠ p := fun z => n ⟨i, o, h, z ▸ hp⟩
    rw [upd_ne ha]; exact e
  · by_cases ha : a = p
    · subst ha; rw [upd_same] at e; cases e
    · rw [upd_ne ha] at e; exact e
  · obtain ⟨j, s, o2, hj, ho, ej⟩ := hq
    rcases isOwn_set hi hj ho with ⟨e, _⟩ | ⟨nj, hj⟩
    · exact .inl ⟨i, _, o, h, rfl, e ▸ ej⟩
    · exact .inl ⟨j, s, o2, hj, ho, ej⟩
  · obtain ⟨j, o2, hj, ej⟩ := hq
    rcases isOwn_set hi hj rfl with ⟨e, _⟩ | ⟨nj, hj⟩
    · exact .inl ⟨i, o, h, e ▸ ej⟩
    · exact .inl ⟨j, o2, hj, ej⟩

/-! ### what an expression gives -/
/-- over the state ahead (ρ, σ, H) and behind -/
def RelR (K : Frag) (H : Hp) (σ : St) (ρ' : Env) (F' H' : Hp) (v : V) : R → Prop
  | .val d => Rep K F' v d
  | .tmp o => ∃ p, v = .ref p ∧ F' p = none ∧ ObjR K F' H' p o ∧ ¬ Own ρ' σ p ∧ H p = none
  | .loc i => σ[i]? = some (some v) ∧ ∃ p, v = .ref p
/-- it stands over a further step -/
theorem RelR.step {ρ1 ρ2 : Env} {F1 F2 H0 H1 H2 : Hp} {v : V} {r : R} (S1 : Sim K ρ1 F1 σ H1) (S2 : Sim K ρ2 F2 σ H2) (h : RelR K H0 σ ρ1 F1 H1 v r) (s : Step ρ1 σ F1 H1 ρ2 σ F2 H2) : RelR K H0 σ ρ2 F2 H2 v r := by
  cases r with
  | val d => exact Rep.mono s.ext h
  | tmp o =>
    obtain ⟨p, e, hF, ho, hn, h0⟩ := h
    obtain ⟨u, hu⟩ := ho.at
    have hne : H1 p ≠ none := by rw [hu]; exact fun z => by cases z
    refine ⟨p, e, s.frz p hF hne (fun q => hn q.own) ho.nt, ho.move s.ext fun w hw => s.keep p w hw (fun q => hn q.own), fun q => ?_, h0⟩
    rcases s.own p q with z | z
    · exact hn z
    · exact hne z
  | loc i => exact h
end
end Msd
/-! Sound2: what is wanted behind a piece of the small language; operators. -/
namespace Msd
open PySem PySem.Spec PyProof.Rows L2 Mlg

/-- the error classes: where each stands, the name of its field -/
structure Errs where
  at_ : Nat → Addr
  fld : Nat → Option Str
  nm : Nat → Option Str
def ExcR (T : Errs) (K : Frag) (F H : Hp) (c : Nat) (f : D) (cls : Value) (d : Option Addr) : Prop :=
  cls = .ref (T.at_ c) ∧ (∃ x, T.nm c = some x) ∧ match T.fld c with
    | none => d = none ∧ f = .none
    | some nm => ∃ a v, d = some a ∧ H a = some (.xd [(nm, v)]) ∧ Rep K F v f

section
variable {K : Frag} {T : Errs} {W : WX}
/-- what is wanted of a result, over the state ahead -/
def Out {α β : Type} (T : Errs) (K : Frag) (W : WX) (ρ : Env) (F : Hp) (σ : St) (H : Hp) (Rl : Hp → Env → Hp → Hp → β → α → Prop) (res : Res (α × Env)) (Q : β → Hp → Prop) : Prop :=
  match res with
  | .ok p => ∀ b F' H', Step ρ σ F H p.2 σ F' H' → Sim K p.2 F' σ H' → Rl H p.2 F' H' b p.1 → Q b H'
  | .exc c f ρ' => ∀ F' H' cls d, Step ρ σ F H ρ' σ F' H' → Sim K ρ' F' σ H' → ExcR T K F' H' c f cls d → W cls d σ H'
  | .no => False
/-- the relations that may be read over an earlier heap -/
def Back {α β : Type} (Rl : Hp → Env → Hp → Hp → β → α → Prop) : Prop := ∀ H H1 ρ' F' H' b a, (∀ p, H1 p = none → H p = none) → Rl H1 ρ' F' H' b a → Rl H ρ' F' H' b a
variable {α β γ δ : Type} {ρ ρ1 : Env} {F F1 : Hp} {σ : St} {H H1 : Hp} {Rl : Hp → Env → Hp → Hp → β → α → Prop} {Rm : Hp → Env → Hp → Hp → δ → γ → Prop}
theorem Out.rebase {res : Res (α × Env)} {Q : β → Hp → Prop} (hB : Back Rl) (st : Step ρ σ F H ρ1 σ F1 H1) (h : Out T K W ρ F σ H Rl res Q) : Out T K W ρ1 F1 σ H1 Rl res Q := by
  cases res with
  | ok p => exact fun b F' H' s S r => h b F' H' (st.trans s) S (hB _ _ _ _ _ _ _ st.dom r)
  | exc c f ρ' => exact fun F' H' cls d s S r => h F' H' cls d (st.trans s) S r
  | no => exact h
/-- the first of two -/
theorem Out.bind {res : Res (α × Env)} {k : α × Env → Res (γ × Env)} {Q1 : β → Hp → Prop} {Q : δ → Hp → Prop} (hB : Back Rm) (h : Out T K W ρ F σ H Rm (res.bind k) Q)
    (hk : ∀ a ρ1 b F1 H1, Step ρ σ F H ρ1 σ F1 H1 → Sim K ρ1 F1 σ H1 → Rl H ρ1 F1 H1 b a → Out T K W ρ1 F1 σ H1 Rm (k (a, ρ1)) Q → Q1 b H1) : Out T K W ρ F σ H Rl res Q1 := by
  cases res with
  | ok p => exact fun b F' H' s S r => hk p.1 p.2 b F' H' s S r (Out.rebase hB s h)
  | exc c f ρ' => exact h
  | no => exact h
/-- .. the rest over the state ahead of both -/
theorem Out.bind0 {res : Res (α × Env)} {k : α × Env → Res (γ × Env)} {Q1 : β → Hp → Prop} {Q : δ → Hp → Prop} (h : Out T K W ρ F σ H Rm (res.bind k) Q)
    (hk : ∀ a ρ1 b F1 H1, Step ρ σ F H ρ1 σ F1 H1 → Sim K ρ1 F1 σ H1 → Rl H ρ1 F1 H1 b a → Out T K W ρ F σ H Rm (k (a, ρ1)) Q → Q1 b H1) : Out T K W ρ F σ H Rl res Q1 := by
  cases res with
  | ok p => exact fun b F' H' s S r => hk p.1 p.2 b F' H' s S r h
  | exc c f ρ' => exact h
  | no => exact h
/-- a later part, the rest over the state ahead of all -/
theorem Out.bind1 {res : Res (α × Env)} {k : α × Env → Res (γ × Env)} {Q1 : β → Hp → Prop} {Q : δ → Hp → Prop} (st : Step ρ σ F H ρ1 σ F1 H1) (h : Out T K W ρ F σ H Rm (res.bind k) Q)
    (hk : ∀ a ρ2 b F2 H2, Step ρ1 σ F1 H1 ρ2 σ F2 H2 → Sim K ρ2 F2 σ H2 → Rl H1 ρ2 F2 H2 b a → Out T K W ρ F σ H Rm (k (a, ρ2)) Q → Q1 b H2) : Out T K W ρ1 F1 σ H1 Rl res Q1 := by
  cases res with
  | ok p => exact fun b F' H' s S r => hk p.1 p.2 b F' H' s S r h
  | exc c f ρ' => exact fun F' H' cls d s S r => h F' H' cls d (st.trans s) S r
  | no => exact h
/-- readings -/
def LX (T : Errs) (K : Frag) (W : WX) (Rl : St → Hp → Env → Hp → Hp → β → α → Prop) (m : Env → Res (α × Env)) : St → Hp → (β → Hp → Prop) → Prop :=
  fun σ H Q => ∃ ρ F, Sim K ρ F σ H ∧ Out T K W ρ F σ H (Rl σ) (m ρ) Q
abbrev relE (K : Frag) : St → Hp → Env → Hp → Hp → V → R → Prop := fun σ H ρ' F' H' v r => RelR K H σ ρ' F' H' v r
abbrev LE (T : Errs) (K : Frag) (W : WX) (m : Env → Res (R × Env)) : TE := LX T K W (relE K) m
abbrev relB : St → Hp → Env → Hp → Hp → Bool → R → Prop := fun _ _ _ _ _ b r => r = .val (.bool b)
abbrev LT (T : Errs) (K : Frag) (W : WX) (m : Env → Res (R × Env)) : TT := LX T K W relB m
theorem back_E {σ : St} : Back (relE K σ) := by
  intro H H1 ρ' F' H' v r hd h
  cases r with
  | val d => exact h
  | tmp o => obtain ⟨p, a, b, c, d, e⟩ := h; exact ⟨p, a, b, c, d, hd p e⟩
  | loc i => exact h
theorem back_B {σ : St} : Back (relB σ) := fun _ _ _ _ _ _ _ _ h => h

/-! ### what is seen of a result -/
/-- d stands at v: the whole frozen, or the items -/
def ViewS (K : Frag) (F H : Hp) (v : V) (d : D) : Prop := Rep K F v d ∨ ∃ p o, v = .ref p ∧ o.toD = some d ∧ ObjR K F H p o
/-- .. or the script -/
def View (K : Frag) (F H : Hp) (v : V) (d : D) : Prop := ViewS K F H v d ∨ ∃ a vs ds, v = .ref a ∧ d = .list ds ∧ SqL K F a vs ∧ Reps K F vs ds
theorem lookS_ok {H0 : Hp} {v : V} {r : R} {d : D} (S : Sim K ρ F σ H) (h : RelR K H0 σ ρ F H v r) (e : lookS ρ r = some d) : ViewS K F H v d := by
  cases r with
  | val d' => cases e; exact .inl h
  | tmp o => obtain ⟨p, a, b, c, _, _⟩ := h; exact .inr ⟨p, o, a, e, c⟩
  | loc i =>
    have h : σ[i]? = some (some v) := h.1
    unfold lookS at e
    dsimp only at e
    cases q : ρ[i]? with
    | none => rw [q] at e; cases e
    | some s =>
      rw [q] at e
      have hs := S.slot i s q
      cases s with
      | un => cases e
      | val d' => cases e; obtain ⟨v', h1, h2⟩ := hs; rw [h] at h1; cases h1; exact .inl h2
      | own o => obtain ⟨p, h1, h2, h3⟩ := hs; rw [h] at h1; cases h1; exact .inr ⟨p, o, rfl, e, h3⟩
      | lck o => obtain ⟨p, h1, h2, h3⟩ := hs; rw [h] at h1; cases h1; exact .inr ⟨p, o, rfl, e, h3⟩
      | ro xs => cases e
theorem look_ok {H0 : Hp} {v : V} {r : R} {d : D} (S : Sim K ρ F σ H) (h : RelR K H0 σ ρ F H v r) (e : look ρ r = some d) : View K F H v d := by
  cases r with
  | val d' => exact .inl (lookS_ok S h e)
  | tmp o => exact .inl (lookS_ok S h e)
  | loc i =>
    have h' : σ[i]? = some (some v) := h.1
    have e : (ρ[i]?).bind view = some d := e
    cases q : ρ[i]? with
    | none => rw [q] at e; cases e
    | some s =>
      rw [q] at e
      have e : view s = some d := e
      have hs := S.slot i s q
      cases s with
      | un => cases e
      | val d' => exact .inl (lookS_ok S h (by unfold lookS; dsimp only; rw [q]; exact e))
      | own o => exact .inl (lookS_ok S h (by unfold lookS; dsimp only; rw [q]; exact e))
      | lck o => exact .inl (lookS_ok S h (by unfold lookS; dsimp only; rw [q]; exact e))
      | ro xs => cases e; obtain ⟨a, vs, h1, h2, h3⟩ := hs; rw [h'] at h1; cases h1; exact .inr ⟨a, vs, xs, rfl, rfl, h2, h3⟩
theorem ViewS.rep {v : V} {d : D} (fh : Same F H) (h : ViewS K F H v d) : Rep K H v d := by
  rcases h with h | ⟨p, o, rfl, e, h⟩
  · exact h.mono fh
  · cases o with
    | ins _ => cases e
    | lst ds => cases e; obtain ⟨vs, h1, h2⟩ := h; exact .lst h1 (h2.mono fh)
    | dic t kvs =>
      cases e
      cases t with
      | false => obtain ⟨ks, vs, ds, h1, h2, h3, rfl⟩ := h; exact .dk h1 h2 (h3.mono fh)
      | true => obtain ⟨ks, vs, ds, h1, h2, h3, rfl⟩ := h; exact .dt h1 h2 (h3.mono fh)
theorem ViewS.int {v : V} {i : Int} (h : ViewS K F H v (.int i)) : v = .int i := by
  rcases h with h | ⟨p, o, rfl, e, h⟩
  · cases h; rfl
  · cases o <;> cases e
theorem ViewS.str {v : V} {x : Str} (h : ViewS K F H v (.str x)) : v = .str x := by
  rcases h with h | ⟨p, o, rfl, e, h⟩
  · cases h; rfl
  · cases o <;> cases e
theorem ViewS.bool {v : V} {b : Bool} (h : ViewS K F H v (.bool b)) : v = .bl b := by
  rcases h with h | ⟨p, o, rfl, e, h⟩
  · cases h; rfl
  · cases o <;> cases e
theorem ViewS.none {v : V} (h : ViewS K F H v .none) : v = .non := by
  rcases h with h | ⟨p, o, rfl, e, h⟩
  · cases h; rfl
  · cases o <;> cases e
theorem ViewS.list {v : V} {ds : List D} (fh : Same F H) (h : ViewS K F H v (.list ds)) : ∃ a vs, v = .ref a ∧ H a = some (.lst vs) ∧ Reps K F vs ds := by
  rcases h with h | ⟨p, o, rfl, e, h⟩
  · cases h with | lst h1 h2 => exact ⟨_, _, rfl, fh _ _ h1, h2⟩
  · cases o with
    | lst ds' => cases e; obtain ⟨vs, h1, h2⟩ := h; exact ⟨p, vs, rfl, h1, h2⟩
    | dic _ _ => cases e
    | ins _ => cases e
theorem ViewS.tuple {v : V} {ds : List D} (fh : Same F H) (h : ViewS K F H v (.tuple ds)) : ∃ a vs, v = .ref a ∧ H a = some (.tup vs) ∧ F a = some (.tup vs) ∧ Reps K F vs ds := by
  rcases h with h | ⟨p, o, rfl, e, h⟩
  · cases h with | tup h1 h2 => exact ⟨_, _, rfl, fh _ _ h1, h1, h2⟩
  · cases o <;> cases e
theorem View.int {v : V} {i : Int} (h : View K F H v (.int i)) : v = .int i := by
  rcases h with h | ⟨a, vs, ds, rfl, e, _⟩
  · exact h.int
  · cases e
theorem View.str {v : V} {x : Str} (h : View K F H v (.str x)) : v = .str x := by
  rcases h with h | ⟨a, vs, ds, rfl, e, _⟩
  · exact h.str
  · cases e
theorem View.bool {v : V} {b : Bool} (h : View K F H v (.bool b)) : v = .bl b := by
  rcases h with h | ⟨a, vs, ds, rfl, e, _⟩
  · exact h.bool
  · cases e
theorem View.none {v : V} (h : View K F H v .none) : v = .non := by
  rcases h with h | ⟨a, vs, ds, rfl, e, _⟩
  · exact h.none
  · cases e
theorem View.list {v : V} {ds : List D} (fh : Same F H) (h : View K F H v (.list ds)) : ∃ a vs, v = .ref a ∧ SqL K H a vs ∧ Reps K F vs ds := by
  rcases h with h | ⟨a, vs, ds, rfl, e, h1, h2⟩
  · obtain ⟨a, vs, h1, h2, h3⟩ := h.list fh; exact ⟨a, vs, h1, SqL.of h2, h3⟩
  · cases e; exact ⟨a, vs, rfl, fh.seq h1, h2⟩
theorem View.tuple {v : V} {ds : List D} (fh : Same F H) (h : View K F H v (.tuple ds)) : ∃ a vs, v = .ref a ∧ H a = some (.tup vs) ∧ F a = some (.tup vs) ∧ Reps K F vs ds := by
  rcases h with h | ⟨a, vs, ds, rfl, e, h1, h2⟩
  · exact h.tuple fh
  · cases e
theorem View.seq {v : V} {d : D} {ds : List D} (fh : Same F H) (h : View K F H v d) (e : items d = some ds) : ∃ a vs, v = .ref a ∧ (SqL K H a vs ∨ SqT K H a vs) ∧ Reps K F vs ds := by
  cases d with
  | list xs => cases e; obtain ⟨a, vs, h1, h2, h3⟩ := h.list fh; exact ⟨a, vs, h1, .inl h2, h3⟩
  | tuple xs => cases e; obtain ⟨a, vs, h1, h2, _, h3⟩ := h.tuple fh; exact ⟨a, vs, h1, .inr (SqT.of h2), h3⟩
  | none => cases e
  | bool _ => cases e
  | int _ => cases e
  | str _ => cases e
  | dict _ => cases e
theorem Reps.ints : ∀ {vs : List V} {ds : List D} {is : List Int}, Reps K F vs ds → Mlg.intsD ds = some is → vs = is.map V.int ∧ ds = is.map PyData.int
  | _, _, _, .nil, e => by cases e; exact ⟨rfl, rfl⟩
  | _, _, is, .cons (d := d) (ds := ds) h r, e => by
    cases d with
    | int i =>
      cases h
      have e : (Mlg.intsD ds).map (i :: ·) = some is := e
      cases q : Mlg.intsD ds with
      | none => rw [q] at e; cases e
      | some js =>
        rw [q] at e; cases e
        obtain ⟨h1, h2⟩ := Reps.ints r q
        rw [h1, h2]; exact ⟨rfl, rfl⟩
    | none => cases e
    | bool _ => cases e
    | str _ => cases e
    | list _ => cases e
    | tuple _ => cases e
    | dict _ => cases e
theorem Reps.bools : ∀ {vs : List V} {ds : List D} {bs : List Bool}, Reps K F vs ds → Mlg.bools ds = some bs → vs = bs.map V.bl
  | _, _, _, .nil, e => by cases e; rfl
  | _, _, bs, .cons (d := d) (ds := ds) h r, e => by
    cases d with
    | bool b =>
      cases h
      have e : (Mlg.bools ds).map (b :: ·) = some bs := e
      cases q : Mlg.bools ds with
      | none => rw [q] at e; cases e
      | some js => rw [q] at e; cases e; rw [Reps.bools r q]; rfl
    | none => cases e
    | int _ => cases e
    | str _ => cases e
    | list _ => cases e
    | tuple _ => cases e
    | dict _ => cases e

/-! ### results at hand -/
variable {Q : VK}
/-- the state as it is, a value -/
theorem out_val {v : V} {d : D} (S : Sim K ρ F σ H) (h : Out T K W ρ F σ H (relE K σ) (.ok (.val d, ρ)) Q) (r : Rep K F v d) : Q v H := h v F H .refl S r
/-- a new tuple -/
theorem out_tup {p : Addr} {vs : List V} {ds : List D} (S : Sim K ρ F σ H) (h : Out T K W ρ F σ H (relE K σ) (.ok (.val (.tuple ds), ρ)) Q) (r : Reps K F vs ds) (hp : H p = none) : Q (.ref p) (upd H p (.tup vs)) :=
  h _ _ _ (Step.laidF (S.new hp).1 hp) (S.laidF hp) (.tup upd_same (r.mono (same_new (S.new hp).1)))
/-- a new list -/
theorem out_lst {p : Addr} {vs : List V} {ds : List D} (S : Sim K ρ F σ H) (h : Out T K W ρ F σ H (relE K σ) (.ok (.tmp (.lst ds), ρ)) Q) (r : Reps K F vs ds) (hp : H p = none) : Q (.ref p) (upd H p (.lst vs)) :=
  h _ _ _ (Step.laid hp) (S.laid hp) ⟨p, rfl, (S.new hp).1, ⟨vs, upd_same, r⟩, (S.new hp).2, hp⟩
end

/-! ### operators by values -/
section
variable {X : Cx}
theorem OpR.or {f : Value → Value → Sem Value} {r r' : R2} (h : OpR X f r) (h' : OpR X f r') : OpR X f (fun x y H Q => r x y H Q ∨ r' x y H Q) := fun pins s σ H x y v u Q I rx ry q =>
  q.elim (h pins s σ H x y v u Q I rx ry) (h' pins s σ H x y v u Q I rx ry)
theorem CallR.or {f : Value} {r r' : List V → Hp → VK → Prop} (h : CallR X f r) (h' : CallR X f r') : CallR X f (fun x H Q => r x H Q ∨ r' x H Q) := fun pins s σ H x u Q I rx q =>
  q.elim (h pins s σ H x u Q I rx) (h' pins s σ H x u Q I rx)
end
end Msd
/-! SoundU: tuple * 1. -/
namespace Msd
open PySem PySem.Spec PyProof.Rows PySem.W L2
theorem tuple_mul1 (l : Addr) (items : Array Value) (n : Nat) (dd : Option Addr) (sl : Array (Option Value)) (u : Tok) :
    Meets (Builtin.«tuple.__mul__» ⟨[.ref l, .int 1 u], []⟩) (fun _ R s => s.heap.get? l = some { cls := .type "tuple", dict := dd, data := .seq items n, slots := sl } ∧ R (.ok (.ret (Value.ref l))) s) :=
  .of_wp fun prog w A R s h => by
    obtain ⟨hp, g, d, tk, os⟩ := s
    obtain ⟨hl, h⟩ := h
    have f1 := AutoSeq1.idx_int
    have c1 : (items.isEmpty || (1 : Int) == 1) = true := by rw [show ((1 : Int) == 1) = true from rfl, Bool.or_true]
    wp_walk using wpAny_loadPart' hl
    exact ⟨_, rfl, h⟩
def rRep1 (K : Frag) : R2 := fun x y H Q => ∃ l xs, x = .ref l ∧ y = .int 1 ∧ SqT K H l xs ∧ Q (.ref l) H
theorem op_rep1 {X : Cx} : OpR X (binaryOp .Mult) (rRep1 X.K) := by
  intro pins s σ H x y v u Q I rx ry h
  obtain ⟨l, xs, rfl, rfl, hT, q⟩ := h
  cases rx
  obtain ⟨t, rfl⟩ := ry
  obtain ⟨its, r, ⟨⟨cls, dd, data, sl⟩, ho, hc, n, hd⟩, hs⟩ := I.tuple hT
  simp only at hc hd
  subst hc hd
  refine wpAny_binaryOp_repeat_ref (T := "tuple") (U := "int") (by decide) ⟨_, ho, rfl⟩ (fun s' => typeIs_int s' 1 t) noFill_tuple_mul F.fills_int_mul F.slot_int_rmul repeat_tuple F.slot_int_index.lookup
    (call_meets F.slot_int_rmul (typeIs_int s 1 t) F.entry_int_rmul (F.args_int_rmul_2 _ _) (int_rmul_tuple 1 t l its.toArray n dd sl)
      ⟨ho, rfl, ⟨_, ho, rfl⟩, call_meets F.slot_tuple_mul ⟨_, ho, rfl⟩ F.entry_tuple_mul (F.args_tuple_mul_2 _ _) (tuple_mul1 l its.toArray n dd sl t) ⟨ho, ?_⟩⟩)
  exact ⟨.ref l, H, I, rfl, q⟩
/-- text * int, of one sign -/
def rMulS : R2 := fun x y H Q => ∃ (z : Str) (j : Int), x = .str z ∧ y = .int j ∧ z.cps.size = 1 ∧ 2 ≤ j ∧ j ≤ 100000 ∧ Q (.str ⟨(List.replicate j.toNat z.cps).foldl (· ++ ·) #[]⟩) H
theorem fold_size {a : Array Nat} : ∀ (n : Nat) (acc : Array Nat), ((List.replicate n a).foldl (· ++ ·) acc).size = acc.size + n * a.size
  | 0, acc => by simp
  | n + 1, acc => by
    rw [List.replicate_succ, List.foldl_cons, fold_size n, Array.size_append, Nat.succ_mul]
    omega
theorem op_mulS {X : Cx} : OpR X (binaryOp .Mult) rMulS := by
  intro pins s σ H x y v u Q I rx ry h
  obtain ⟨z, j, rfl, rfl, h1, h2, h3, q⟩ := h
  obtain ⟨t, rfl⟩ := rx
  obtain ⟨t2, rfl⟩ := ry
  have hz : z.length = 1 := h1
  refine PySem.P.mul_str ?_ (fun _ _ => ?_) (fun _ _ => ?_) ?_
  · rw [decide_eq_false (by omega), decide_eq_false (by omega)]
    rfl
  · rw [hz]
    have : 1 ≤ ((2 : Int) ^ 63 - 1) / j := by
      rw [Int.le_ediv_iff_mul_le (by omega)]
      omega
    omega
  · rw [hz]
    have : j.toNat ≤ 100000 := by omega
    unfold Builtin.Str.tooLong
    have h4 : 100000 ≤ sizeLine := by decide
    simp
    omega
  · rw [if_neg (by omega), if_neg (by
      have e1 : (j == 1) = false := beq_eq_false_iff_ne.mpr (by omega)
      have e2 : (z.length == 0) = false := by rw [hz]; rfl
      rw [e1, e2]; exact fun e => by cases e)]
    refine ⟨?_, ⟨.str _, H, I.tok _, ⟨_, rfl⟩, q⟩⟩
    show ((List.replicate j.toNat z.cps).foldl (· ++ ·) #[]).size ≤ sizeLine
    rw [fold_size, h1]
    have h4 : 100000 ≤ sizeLine := by decide
    have : (#[] : Array Nat).size = 0 := rfl
    omega
end Msd
/-! Sound3: the operators of the small language by the layer's. -/
namespace Msd
open PySem PySem.Spec PyProof.Rows L2 Mlg
theorem lim_le : lim ≤ sizeLine := by decide
section
variable {X : Cx}
def opOf : Bi → Operator
  | .add => .Add | .sub => .Sub | .mul => .Mult | .fdiv => .FloorDiv | .mod => .Mod | .pow => .Pow
def rStrCat : R2 := fun x y H Q => ∃ i j, x = .str i ∧ y = .str j ∧ i.length + j.length ≤ sizeLine ∧ Q (.str (i ++ j)) H
def rBin (K : Frag) : Bi → R2
  | .add => fun x y H Q => rI0 (fun i j => .int (i + j)) x y H Q ∨ rCatA K x y H Q ∨ rCat x y H Q ∨ rStrCat x y H Q
  | .sub => rI0 fun i j => .int (i - j)
  | .mul => fun x y H Q => rI CMul (fun i j => .int (i * j)) x y H Q ∨ rRepT K x y H Q ∨ rRep x y H Q ∨ rRep1 K x y H Q ∨ rMulS x y H Q
  | .fdiv => rI CDiv fun i j => .int (i / j)
  | .mod => rI (fun _ j => 0 < j) fun i j => .int (i % j)
  | .pow => rI CPow fun i j => .int (i ^ j.toNat)
theorem op_bin (o : Bi) : OpR X (binaryOp (opOf o)) (rBin X.K o) := by
  cases o with
  | add => exact OpR.or op_add (OpR.or op_catA (OpR.or op_cat op_add_str))
  | sub => exact op_sub
  | mul => exact OpR.or op_mul (OpR.or op_repT (OpR.or op_rep (OpR.or op_rep1 op_mulS)))
  | fdiv => exact op_fdiv
  | mod => exact op_mod
  | pow => exact op_pow
end
section
variable {K : Frag} {T : Errs} {W : WX} {ρ : Env} {F H : Hp} {σ : St} {Q : VK}
theorem bin_ok {o : Bi} {x y : V} {dx dy : D} {r : R} (S : Sim K ρ F σ H) (hx : ViewS K F H x dx) (hy : ViewS K F H y dy) (e : bin o dx dy = some r) (h : Out T K W ρ F σ H (relE K σ) (.ok (r, ρ)) Q) : rBin K o x y H Q := by
  cases o with
  | sub =>
    cases dx <;> first | (cases e; done) | skip
    cases dy <;> first | (cases e; done) | skip
    cases e
    exact ⟨_, _, hx.int, hy.int, out_val S h (.int _)⟩
  | fdiv =>
    cases dx <;> first | (cases e; done) | skip
    cases dy <;> first | (cases e; done) | skip
    unfold Mlg.bin at e
    dsimp only at e
    split at e
    · rename_i c
      cases e
      exact ⟨_, _, hx.int, hy.int, ⟨c.1, by omega⟩, out_val S h (.int _)⟩
    · cases e
  | mod =>
    cases dx <;> first | (cases e; done) | skip
    cases dy <;> first | (cases e; done) | skip
    unfold Mlg.bin at e
    dsimp only at e
    split at e
    · rename_i c
      cases e
      exact ⟨_, _, hx.int, hy.int, c, out_val S h (.int _)⟩
    · cases e
  | pow =>
    cases dx <;> first | (cases e; done) | skip
    cases dy <;> first | (cases e; done) | skip
    unfold Mlg.bin at e
    dsimp only at e
    split at e
    · rename_i c
      cases e
      exact ⟨_, _, hx.int, hy.int, ⟨c.1, by omega, by omega⟩, out_val S h (.int _)⟩
    · cases e
  | add =>
    cases dx <;> first | (cases e; done) | skip
    all_goals (cases dy <;> first | (cases e; done) | skip)
    · cases e
      exact .inl ⟨_, _, hx.int, hy.int, out_val S h (.int _)⟩
    · unfold Mlg.bin at e
      dsimp only at e
      split at e
      · rename_i c
        cases e
        refine .inr (.inr (.inr ⟨_, _, hx.str, hy.str, ?_, out_val S h (.str _)⟩))
        exact Nat.le_trans (Nat.le_of_lt c) lim_le
      · cases e
    · unfold Mlg.bin at e
      dsimp only at e
      split at e
      · rename_i c
        cases e
        obtain ⟨a, vs, rfl, h1, h2⟩ := hx.list S.fh
        obtain ⟨b, ws, rfl, h3, h4⟩ := hy.list S.fh
        refine .inr (.inr (.inl ⟨_, _, _, _, rfl, rfl, h1, h3, ?_, fun p hp => out_lst S h (h2.append h4) hp⟩))
        have c : (_ ++ _ : List D).length < lim := of_decide_eq_true c
        rw [List.length_append, ← h2.length, ← h4.length] at c
        exact Nat.le_trans (Nat.le_of_lt c) lim_le
      · cases e
    · unfold Mlg.bin at e
      dsimp only at e
      split at e
      · rename_i c
        cases e
        obtain ⟨a, vs, rfl, h1, f1, h2⟩ := hx.tuple S.fh
        obtain ⟨b, ws, rfl, h3, f3, h4⟩ := hy.tuple S.fh
        refine .inr (.inl ⟨_, _, _, _, rfl, rfl, SqT.of h1, SqT.of h3, ?_, fun z => ?_, fun _ z => ?_, fun _ _ p hp => out_tup S h (h2.append h4) hp⟩)
        · have c : (_ ++ _ : List D).length < lim := of_decide_eq_true c
          rw [List.length_append, ← h2.length, ← h4.length] at c
          exact Nat.le_trans (Nat.le_of_lt c) lim_le
        · subst z
          cases h2
          exact out_val S h (.tup f3 h4)
        · subst z
          cases h4
          rw [List.append_nil] at h
          exact out_val S h (.tup f1 h2)
      · cases e
  | mul =>
    cases dx <;> first | (cases e; done) | skip
    all_goals (cases dy <;> first | (cases e; done) | skip)
    · unfold Mlg.bin at e
      dsimp only at e
      split at e
      · rename_i c
        cases e
        refine .inl ⟨_, _, hx.int, hy.int, ?_, out_val S h (.int _)⟩
        rcases c with c | c
        · exact .inl ⟨by omega, by omega⟩
        · exact .inr ⟨by omega, by omega⟩
      · cases e
    · unfold Mlg.bin at e
      dsimp only at e
      split at e
      · rename_i c
        cases e
        exact .inr (.inr (.inr (.inr ⟨_, _, hx.str, hy.int, c.1, c.2.1, c.2.2, out_val S h (.str _)⟩)))
      · cases e
    · unfold Mlg.bin at e
      dsimp only at e
      split at e
      · rename_i c
        cases e
        obtain ⟨a, vs, rfl, h1, h2⟩ := hx.list S.fh
        refine .inr (.inr (.inl ⟨_, _, _, rfl, hy.int, h1, by omega, by omega, ?_, fun p hp => out_lst S h (h2.flat _) hp⟩))
        rw [h2.length]
        exact Nat.le_trans (Nat.le_of_lt c.1) lim_le
      · cases e
    · unfold Mlg.bin at e
      dsimp only at e
      split at e
      · rename_i c
        cases e
        obtain ⟨a, vs, rfl, h1, f1, h2⟩ := hx.tuple S.fh
        exact .inr (.inr (.inr (.inl ⟨a, vs, rfl, by rw [hy.int, c], SqT.of h1, out_val S h (.tup f1 h2)⟩)))
      rename_i c0
      split at e
      · rename_i c
        cases e
        obtain ⟨a, vs, rfl, h1, f1, h2⟩ := hx.tuple S.fh
        refine .inr (.inl ⟨_, _, _, rfl, hy.int, SqT.of h1, fun z => ?_, c.2.1, c.2.2.1, by rw [h2.length]; exact c.2.2.2, fun p hp => out_tup S h (h2.flat _) hp⟩)
        subst z
        cases h2
        exact c.1 rfl
      · cases e
end
end Msd
/-! SoundG: a greater tuple. -/
namespace Msd
open PySem PySem.Spec PyProof.Rows PySem.W L2 Mlg
section
variable {X : Cx}
def rGtD (K : Frag) : R2 := fun x y H Q => ∃ da db, Dp K H x da ∧ Dp K H y db ∧ alike da db = true ∧ da ≠ .none ∧ da.depth ≤ 8 ∧ Q (.bl (dataLt db da)) H
theorem op_gtD (hu : X.A.units + 65 < cLine) : OpR X (compareOp .Gt) (rGtD X.K) := by
  intro pins s σ H x y v u Q I rx ry h
  obtain ⟨d, e, hd, he, al, ne, dp, q⟩ := h
  obtain ⟨as, r1⟩ := Dp.reads I d x v hd rx
  obtain ⟨bs, r2⟩ := Dp.reads I e y u he ry
  exact gt_data r1 r2 al ne (by omega) ⟨.bl _, H, I, rfl, q⟩
end
/-! ### one order -/
theorem ltInts_eq : ∀ a b : List Int, ltInts a b = decide (a < b)
  | [], [] => by simp [ltInts]
  | [], _ :: _ => by simp [ltInts]
  | _ :: _, [] => by simp [ltInts]
  | x :: a, y :: b => by
    unfold ltInts
    rw [ltInts_eq a b]
    by_cases e : x = y
    · subst e; simp
    · rw [if_neg e]
      by_cases l : x < y
      · simp [List.cons_lt_cons_iff, l]
      · simp [List.cons_lt_cons_iff, l, e]
theorem ints_map : ∀ {ds : List PyData} {is : List Int}, Mlg.intsD ds = some is → ds = is.map PyData.int
  | [], _, h => by cases h; rfl
  | d :: r, is, h => by
    cases d <;> first | (cases h; done) | skip
    rename_i i
    have h : (Mlg.intsD r).map (i :: ·) = some is := h
    cases e : Mlg.intsD r with
    | none => rw [e] at h; cases h
    | some js =>
      rw [e] at h
      cases h
      rw [ints_map e]
      rfl
theorem map_ints : ∀ is : List Int, Mlg.intsD (is.map PyData.int) = some is
  | [] => rfl
  | i :: r => by
    show (Mlg.intsD (r.map PyData.int)).map (i :: ·) = _
    rw [map_ints r]
    rfl
theorem kt_lt {a b : List Int} : dataLt (.tuple (a.map .int)) (.tuple (b.map .int)) = ltD (.tuple (a.map .int)) (.tuple (b.map .int)) := by
  rw [dataLt_tuple]
  show rowLt _ _ = _
  rw [dataLt_ints]
  show _ = (match Mlg.intsD (a.map .int), Mlg.intsD (b.map .int) with | some a, some b => ltInts a b | _, _ => false)
  rw [map_ints, map_ints]
  exact (ltInts_eq a b).symm
theorem lt_ints (a b : List Int) : dataLt (.tuple (a.map .int)) (.tuple (b.map .int)) = ltInts a b := by
  rw [kt_lt]
  show (match Mlg.intsD (a.map .int), Mlg.intsD (b.map .int) with | some a, some b => ltInts a b | _, _ => false) = _
  rw [map_ints, map_ints]
theorem eqvAll_int : ∀ a b : List Int, PyData.eqvAll (a.map .int) (b.map .int) = decide (a = b)
  | [], [] => rfl
  | [], _ :: _ => by simp [PyData.eqvAll]
  | _ :: _, [] => by simp [PyData.eqvAll]
  | x :: a, y :: b => by
    show (PyData.eqv (.int x) (.int y) && PyData.eqvAll (a.map .int) (b.map .int)) = _
    rw [eqvAll_int a b]
    show ((x == y) && decide (a = b)) = _
    by_cases h1 : x = y <;> by_cases h2 : a = b <;> simp [h1, h2]
theorem lt_pair (p q : List Int × List Int) : dataLt (.tuple [.tuple (p.1.map .int), .tuple (p.2.map .int)]) (.tuple [.tuple (q.1.map .int), .tuple (q.2.map .int)]) = ltPair p q := by
  rw [dataLt_tuple]
  unfold ltPair
  have al : ∀ a b : List Int, alike (.tuple (a.map .int)) (.tuple (b.map .int)) = true := fun a b => alike_ints a b
  have ev : ∀ a b : List Int, PyData.eqv (.tuple (a.map .int)) (.tuple (b.map .int)) = decide (a = b) := fun a b => eqvAll_int a b
  by_cases e : p.1 = q.1
  · rw [if_pos e, dataLt_all_yes (al _ _) (by rw [ev]; exact decide_eq_true e)]
    by_cases e2 : p.2 = q.2
    · rw [dataLt_all_yes (al _ _) (by rw [ev]; exact decide_eq_true e2), e2, ltInts_eq, decide_eq_false (List.lt_irrefl _)]
      rfl
    · rw [dataLt_all_no (al _ _) (by rw [ev]; exact decide_eq_false e2), lt_ints]
  · rw [if_neg e, dataLt_all_no (al _ _) (by rw [ev]; exact decide_eq_false e), lt_ints]
theorem pairI_ok {ds : List D} {p : List Int × List Int} (h : pairI ds = some p) : ds = [.tuple (p.1.map .int), .tuple (p.2.map .int)] := by
  unfold pairI at h
  split at h
  · rename_i a b
    cases e : Mlg.intsD a with
    | none => rw [e] at h; cases h
    | some x =>
      rw [e] at h
      replace h : (Mlg.intsD b).map (fun y => (x, y)) = some p := h
      cases e2 : Mlg.intsD b with
      | none => rw [e2] at h; cases h
      | some y =>
        rw [e2] at h
        cases h
        rw [ints_map e, ints_map e2]
  · cases h
/-- what stands behind a greater tuple -/
theorem gtT_data {xs ys : List D} {b : Bool} (h : gtT xs ys = some b) : dataLt (.tuple ys) (.tuple xs) = b ∧ alike (.tuple xs) (.tuple ys) = true ∧ shp 8 (.tuple xs) = true ∧ shp 8 (.tuple ys) = true ∧ PyData.depth (.tuple xs) ≤ 8 := by
  have si : ∀ (n : Nat) (l : List Int), shpAll n (l.map .int) = true := by
    intro n l
    induction l with
    | nil => cases n <;> rfl
    | cons i l ih => cases n <;> exact ih
  unfold gtT at h
  split at h
  · rename_i a b h1 h2
    cases h
    rw [ints_map h1, ints_map h2]
    refine ⟨lt_ints _ _, alike_ints a b, si 7 a, si 7 b, ?_⟩
    show PyData.depthAll _ + 1 ≤ 8
    rw [depth_ints]
    decide
  · split at h
    · rename_i p q h1 h2
      cases h
      rw [pairI_ok h1, pairI_ok h2]
      refine ⟨lt_pair _ _, ?_, ?_, ?_, ?_⟩
      · show (alikeAll _ _ && (alikeAll _ _ && true)) = true
        rw [alike_ints, alike_ints]
        rfl
      · show (shpAll 6 _ && (shpAll 6 _ && true)) = true
        rw [si, si]
        rfl
      · show (shpAll 6 _ && (shpAll 6 _ && true)) = true
        rw [si, si]
        rfl
      · show max (PyData.depthAll _ + 1) (max (PyData.depthAll _ + 1) 0) + 1 ≤ 8
        rw [depth_ints, depth_ints]
        decide
    · cases h
end Msd
/-! Sound4: comparisons. -/
namespace Msd
open PySem PySem.Spec PyProof.Rows L2 Mlg
/-! ### equality of data is the library's -/
mutual
theorem eqv_is : ∀ a b : D, Mlg.eqv a b = PyData.eqv a b
  | .none, b => by cases b <;> rfl
  | .bool _, b => by cases b <;> rfl
  | .int _, b => by cases b <;> rfl
  | .str _, b => by cases b <;> rfl
  | .list xs, b => by
    cases b <;> try rfl
    exact eqvAll_is xs _
  | .tuple xs, b => by
    cases b <;> try rfl
    exact eqvAll_is xs _
  | .dict _, b => by cases b <;> rfl
theorem eqvAll_is : ∀ a b : List D, Mlg.eqvAll a b = PyData.eqvAll a b
  | [], b => by cases b <;> rfl
  | x :: xs, [] => rfl
  | x :: xs, y :: ys => by
    show (Mlg.eqv x y && Mlg.eqvAll xs ys) = (PyData.eqv x y && PyData.eqvAll xs ys)
    rw [eqv_is x y, eqvAll_is xs ys]
end
mutual
theorem shp_lay : ∀ (n : Nat) (d : D), shp n d = true → d.canLay0 = true ∧ d.depth ≤ n
  | n, .none, _ => ⟨rfl, Nat.zero_le _⟩
  | n, .bool _, _ => ⟨rfl, Nat.zero_le _⟩
  | n, .int _, _ => ⟨rfl, Nat.zero_le _⟩
  | n, .str x, h => by
    refine ⟨?_, Nat.zero_le _⟩
    have h : (x.cps.toList.all fun c => decide (c < 1114112)) = true := by cases n <;> exact h
    show x.cps.all (fun c => decide (c < 0x110000)) = true
    rw [← Array.all_toList]
    exact h
  | 0, .list xs, h => by cases h
  | 0, .tuple xs, h => by cases h
  | n + 1, .list xs, h => by
    obtain ⟨h1, h2⟩ := shpAll_lay n xs h
    exact ⟨h1, Nat.succ_le_succ h2⟩
  | n + 1, .tuple xs, h => by
    obtain ⟨h1, h2⟩ := shpAll_lay n xs h
    exact ⟨h1, Nat.succ_le_succ h2⟩
  | n, .dict _, h => by cases n <;> cases h
theorem shpAll_lay : ∀ (n : Nat) (ds : List D), shpAll n ds = true → PyData.canLayAll0 ds = true ∧ PyData.depthAll ds ≤ n
  | n, [], _ => ⟨rfl, Nat.zero_le _⟩
  | n, x :: xs, h => by
    have h : (shp n x && shpAll n xs) = true := by cases n <;> exact h
    obtain ⟨h1, h2⟩ := Bool.and_eq_true_iff.mp h
    obtain ⟨a, b⟩ := shp_lay n x h1
    obtain ⟨c, d⟩ := shpAll_lay n xs h2
    refine ⟨?_, ?_⟩
    · show (x.canLay0 && PyData.canLayAll0 xs) = true
      rw [a, c]; rfl
    · show max x.depth (PyData.depthAll xs) ≤ n
      exact Nat.max_le.mpr ⟨b, d⟩
end
theorem shaped_of {n : Nat} {d : D} (h : shp n d = true) (hn : n ≤ 64) : SeqAt.shaped d = true := by
  obtain ⟨a, b⟩ := shp_lay n d h
  unfold SeqAt.shaped
  rw [a, decide_eq_true (Nat.le_trans b hn)]
  rfl
section
variable {K : Frag} {F H : Hp}
mutual
theorem Rep.dp : ∀ {n : Nat} {v : V} {d : D}, shp n d = true → Rep K H v d → Dp K H v d
  | _, _, _, _, .non => .non
  | _, _, _, _, .bl b => .bl b
  | _, _, _, _, .int i => .int i
  | _, _, _, _, .str x => .str x
  | 0, _, _, h, .lst a r => by cases h
  | 0, _, _, h, .tup a r => by cases h
  | n + 1, _, _, h, .lst a r => .lst (SqL.of a) (Reps.dp (n := n) h r)
  | n + 1, _, _, h, .tup a r => .tup (SqT.of a) (Reps.dp (n := n) h r)
  | n, _, _, h, .dk _ _ _ => by cases n <;> cases h
  | n, _, _, h, .dt _ _ _ => by cases n <;> cases h
  | n, _, _, h, .er0 _ _ _ _ => by cases n <;> cases h
  | n, _, _, h, .er1 _ _ _ _ _ _ _ => by cases n <;> cases h
theorem Reps.dp : ∀ {n : Nat} {vs : List V} {ds : List D}, shpAll n ds = true → Reps K H vs ds → DpAll K H vs ds
  | _, _, _, _, .nil => .nil
  | n, _, _, h, .cons a r => by
    obtain ⟨h1, h2⟩ := Bool.and_eq_true_iff.mp (show (shp n _ && shpAll n _) = true by cases n <;> exact h)
    exact .cons (Rep.dp h1 a) (Reps.dp h2 r)
end
theorem View.dp {n : Nat} {v : V} {d : D} (fh : Same F H) (h : View K F H v d) (hs : shp n d = true) : Dp K H v d := by
  rcases h with h | ⟨a, vs, ds, rfl, rfl, h1, h2⟩
  · exact Rep.dp hs (h.rep fh)
  · cases n with
    | zero => cases hs
    | succ n => exact .lst (fh.seq h1) (Reps.dp (n := n) hs (h2.mono fh))
end
section
variable {X : Cx}
def cmOf : Cm → CmpOp
  | .lt => .Lt | .le => .LtE | .gt => .Gt | .ge => .GtE | .eq => .Eq | .ne => .NotEq | .inn => .In | .nin => .NotIn
def rSign (neg : Bool) : R2 := fun x y H Q => ∃ (c : Nat) (z : Str), x = .str ⟨#[c]⟩ ∧ y = .str z ∧ Q (.bl (if neg then !decide (c ∈ z.cps.toList) else decide (c ∈ z.cps.toList))) H
def rCmp (K : Frag) : Cm → R2
  | .lt => rI0 fun i j => .bl (decide (i < j))
  | .le => rI0 fun i j => .bl (decide (i ≤ j))
  | .gt => fun x y H Q => rI0 (fun i j => .bl (decide (j < i))) x y H Q ∨ rGtD K x y H Q
  | .ge => rI0 fun i j => .bl (decide (j ≤ i))
  | .eq => rEqD K
  | .ne => rNeD K
  | .inn => fun x y H Q => rInD K x y H Q ∨ rIn K false x y H Q ∨ rSign false x y H Q
  | .nin => fun x y H Q => rNotInD K x y H Q ∨ rIn K true x y H Q ∨ rSign true x y H Q
theorem op_cmp (o : Cm) (hu : X.A.units + 65 < cLine) : OpR X (compareOp (cmOf o)) (rCmp X.K o) := by
  cases o with
  | lt => exact op_lt
  | le => exact op_le
  | gt => exact OpR.or op_gt (op_gtD hu)
  | ge => exact op_ge
  | eq => exact op_eqD (by omega)
  | ne => exact op_neD (by omega)
  | inn => exact OpR.or (op_inD hu) (OpR.or op_in_seq op_in_sign)
  | nin => exact OpR.or (op_notInD hu) (OpR.or op_notIn_seq op_notIn_sign)
end
section
variable {K : Frag} {F H : Hp} {Q : VK}
theorem inV_ints (i : Int) (is : List Int) : inV (.int i) (is.map V.int) = is.contains i := by
  unfold inV
  induction is with
  | nil => rfl
  | cons j r ih =>
    rw [List.map_cons, List.any_cons, ih, List.contains_cons]
    congr 1
    show (j == i) = (i == j)
    exact Bool.beq_comm
theorem flat_ints (is : List Int) : (is.map V.int).all flatV = true := by
  induction is with
  | nil => rfl
  | cons j r ih => rw [List.map_cons, List.all_cons, ih]; rfl
theorem cmp_ok {o : Cm} {x y : V} {dx dy : D} {b : Bool} (fh : Same F H) (hx : View K F H x dx) (hy : View K F H y dy) (e : cmp o dx dy = some b) (h : Q (.bl b) H) : rCmp K o x y H Q := by
  have hin : ∀ {ds : List D} {a : D}, (ds.any fun z => Mlg.eqv z a) = ds.any fun z => PyData.eqv z a := fun {ds a} => by
    congr 1; funext z; exact eqv_is z a
  cases o with
  | lt => cases dx <;> first | (cases e; done) | skip
          cases dy <;> first | (cases e; done) | skip
          cases e; exact ⟨_, _, hx.int, hy.int, h⟩
  | le => cases dx <;> first | (cases e; done) | skip
          cases dy <;> first | (cases e; done) | skip
          cases e; exact ⟨_, _, hx.int, hy.int, h⟩
  | gt => cases dx <;> first | (cases e; done) | skip
          all_goals (cases dy <;> first | (cases e; done) | skip)
          · cases e; exact .inl ⟨_, _, hx.int, hy.int, h⟩
          · rename_i xs ys
            obtain ⟨h1, h2, h3, h4, h5⟩ := gtT_data (show gtT xs ys = some b from e)
            exact .inr ⟨_, _, hx.dp fh h3, hy.dp fh h4, h2, (fun z => by cases z), h5, by rw [h1]; exact h⟩
  | ge => cases dx <;> first | (cases e; done) | skip
          cases dy <;> first | (cases e; done) | skip
          cases e; exact ⟨_, _, hx.int, hy.int, h⟩
  | eq =>
    have e : (if (shp 8 dx && shp 8 dy) = true then some (Mlg.eqv dx dy) else none) = some b := by
      cases dx <;> cases dy <;> exact e
    split at e
    · rename_i c
      obtain ⟨c1, c2⟩ := Bool.and_eq_true_iff.mp c
      cases e
      rw [eqv_is] at h
      exact ⟨dx, dy, hx.dp fh c1, hy.dp fh c2, shaped_of c1 (by decide), shaped_of c2 (by decide), h⟩
    · cases e
  | ne =>
    have e : (if (shp 8 dx && shp 8 dy) = true then some (!Mlg.eqv dx dy) else none) = some b := by
      cases dx <;> cases dy <;> exact e
    split at e
    · rename_i c
      obtain ⟨c1, c2⟩ := Bool.and_eq_true_iff.mp c
      cases e
      rw [eqv_is] at h
      exact ⟨dx, dy, hx.dp fh c1, hy.dp fh c2, shaped_of c1 (by decide), shaped_of c2 (by decide), h⟩
    · cases e
  | inn =>
    cases dy with
    | list ys =>
      have e : (if (shp 8 dx && shp 8 (.list ys)) = true then some (ys.any fun z => Mlg.eqv z dx) else none) = some b := by
        cases dx <;> exact e
      split at e
      · rename_i c
        obtain ⟨c1, c2⟩ := Bool.and_eq_true_iff.mp c
        cases e
        rw [hin] at h
        exact .inl ⟨dx, ys, hx.dp fh c1, hy.dp fh c2, shaped_of c1 (by decide), shaped_of c2 (by decide), h⟩
      · cases e
    | tuple ys =>
      cases dx <;> first | (cases e; done) | skip
      rename_i i
      have e : (Mlg.intsD ys).map (fun is => is.contains i) = some b := e
      cases q : Mlg.intsD ys with
      | none => rw [q] at e; cases e
      | some is =>
        rw [q] at e; cases e
        obtain ⟨a, vs, rfl, h1, _, h2⟩ := hy.tuple fh
        obtain ⟨h3, _⟩ := h2.ints q
        subst h3
        refine .inr (.inl ⟨a, _, rfl, .inr (SqT.of h1), by rw [hx.int]; rfl, flat_ints is, ?_⟩)
        rw [hx.int, inV_ints]
        exact h
    | str y =>
      cases dx <;> first | (cases e; done) | skip
      rename_i x'
      have e : (match x'.cps.toList with | [c] => some (decide (c ∈ y.cps.toList)) | _ => none) = some b := e
      split at e
      · rename_i c hc
        cases e
        refine .inr (.inr ⟨c, y, ?_, hy.str, h⟩)
        rw [hx.str]
        obtain ⟨cps⟩ := x'
        have : cps = #[c] := by rw [← Array.toList_inj]; exact hc
        rw [this]
      · cases e
    | none => cases dx <;> cases e
    | bool _ => cases dx <;> cases e
    | int _ => cases dx <;> cases e
    | dict _ => cases dx <;> cases e
  | nin =>
    cases dy with
    | list ys =>
      have e : (if (shp 8 dx && shp 8 (.list ys)) = true then some (!ys.any fun z => Mlg.eqv z dx) else none) = some b := by
        cases dx <;> exact e
      split at e
      · rename_i c
        obtain ⟨c1, c2⟩ := Bool.and_eq_true_iff.mp c
        cases e
        rw [hin] at h
        exact .inl ⟨dx, ys, hx.dp fh c1, hy.dp fh c2, shaped_of c1 (by decide), shaped_of c2 (by decide), h⟩
      · cases e
    | tuple ys =>
      cases dx <;> first | (cases e; done) | skip
      rename_i i
      have e : (Mlg.intsD ys).map (fun is => !is.contains i) = some b := e
      cases q : Mlg.intsD ys with
      | none => rw [q] at e; cases e
      | some is =>
        rw [q] at e; cases e
        obtain ⟨a, vs, rfl, h1, _, h2⟩ := hy.tuple fh
        obtain ⟨h3, _⟩ := h2.ints q
        subst h3
        refine .inr (.inl ⟨a, _, rfl, .inr (SqT.of h1), by rw [hx.int]; rfl, flat_ints is, ?_⟩)
        rw [hx.int, inV_ints]
        exact h
    | str y =>
      cases dx <;> first | (cases e; done) | skip
      rename_i x'
      have e : (match x'.cps.toList with | [c] => some (!decide (c ∈ y.cps.toList)) | _ => none) = some b := e
      split at e
      · rename_i c hc
        cases e
        refine .inr (.inr ⟨c, y, ?_, hy.str, h⟩)
        rw [hx.str]
        obtain ⟨cps⟩ := x'
        have : cps = #[c] := by rw [← Array.toList_inj]; exact hc
        rw [this]
      · cases e
    | none => cases dx <;> cases e
    | bool _ => cases dx <;> cases e
    | int _ => cases dx <;> cases e
    | dict _ => cases dx <;> cases e
end
end Msd
/-! Sound5: a term of the small language and a text's expression; the context; plain expressions. -/
namespace Msd
open PySem PySem.Spec PyProof.Rows L2 Mlg
/-! ### a term tells a text -/
def gnm : Nat → Str
  | 0 => "MOST_CARDS" | 1 => "MOST_LISTED" | 2 => "MOST_PACK" | 3 => "MOST_LABEL" | 4 => "MOST_PAIRED" | 5 => "MOST_SEARCHED" | 6 => "MOST_AGAIN" | 7 => "MOST_TIMES"
  | 8 => "MOST_HELD" | 9 => "MOST_LABELS" | 10 => "FIGURES" | _ => ""
/-- the constants of the text -/
def glov : Nat → D
  | 0 => .int 100 | 1 => .int 10 | 2 => .int 24 | 3 => .int 99 | 4 => .int 12 | 5 => .int 7 | 6 => .int 24 | 7 => .int 1000000000000000000000000000000
  | 8 => .int 6 | 9 => .int 4 | 10 => .str ⟨#[48, 49, 50, 51, 52, 53, 54, 55, 56, 57]⟩ | _ => .none
def sameB : D → D → Bool
  | .int i, .int j => decide (i = j)
  | .str x, .str y => decide (x = y)
  | _, _ => false
def visB (sc : Scope) (x : Str) : Bool := match sc.names.lookup x with
  | some .local => true
  | some .cell => true
  | some .free => true
  | _ => false
def locB (sc : Scope) (x : Str) : Bool := match sc.names.lookup x with
  | some .local => true
  | some .cell => true
  | _ => false
def gloB (sc : Scope) (x : Str) : Bool := decide (sc.names.lookup x = some .globalImplicit)
def nameB (x : Str) : Bool := !(x == ("__debug__" : Str)) && !(x == ("__classdict__" : Str)) && !(x == ("__name__" : Str))
def cstB : D → Const → Bool
  | .none, .none => true
  | .bool a, .bool b => a == b
  | .int i, .int j => decide (i = j)
  | .str x, .str y => decide (x = y)
  | _, _ => false
def b1nm : B1 → Str
  | .len => "len" | .abs => "abs" | .int => "int" | .str => "str" | .min => "min" | .max => "max" | .sum => "sum" | .all => "all" | .sorted => "sorted" | .list => "list" | .tuple => "tuple"
  | .lenset => "len" | .sortset => "sorted" | .isi _ => "isinstance" | .values => "list"
def tynm : Ty → Str
  | .int => "int" | .bool => "bool" | .str => "str" | .tuple => "tuple" | .list => "list" | .dict => "dict"
def b2nm : B2 → Str
  | .min => "min" | .max => "max"
def m1nm : M1 → Str
  | .index => "index" | .count => "count" | .join => "join" | .split => "split"
def builtins : List Str := ["len", "abs", "int", "str", "min", "max", "sum", "all", "sorted", "list", "tuple", "set", "isinstance", "bool", "dict", "range", "enumerate", "ValueError"]
/-- a builtin's name, called -/
def bltB (sc : Scope) (n x : Str) : Bool := decide (x = n) && gloB sc x
/-- the own names of a block by their places -/
def ownOf (N : List Str) (vs : List Nat) : List (Str × Nat) := vs.filterMap fun i => (N[i]?).map fun x => (x, i)
def isOrB : Expr → Bool
  | .BoolOp .Or _ _ => true
  | _ => false
def isAndB : Expr → Bool
  | .BoolOp .And _ _ => true
  | _ => false
def plainX : Expr → Bool
  | .Starred _ _ => false
  | .Slice _ _ _ _ => false
  | .Set _ _ _ => false
  | .NamedExpr _ _ _ => false
  | _ => true
def tgB (N : List Str) (sc : Scope) (fx : Nat → Bool) : Tg → Expr → Bool
  | .nm i, .Name x _ => decide (N[i]? = some x) && locB sc x && nameB x && !fx i
  | .tup is, .Tuple xs _ _ => go is xs
  | _, _ => false
where go : List Nat → List Expr → Bool
  | [], [] => true
  | i :: is, .Name x _ :: xs => decide (N[i]? = some x) && locB sc x && nameB x && !fx i && go is xs
  | _, _ => false
/-- enumerate's pairs go to two names -/
def enuB : Mlg.It → Tg → Bool
  | .envar _, .nm _ => false
  | .enu _, .nm _ => false
  | _, _ => true
/-- not a conditional expression: what is asked as a test -/
def tstB : Mlg.E → Bool
  | .var _ => true
  | .cmp _ _ _ => true
  | .din _ _ _ => true
  | .chn _ _ _ _ _ => true
  | .isN _ => true
  | .ntN _ => true
  | .and _ _ => true
  | .or _ _ => true
  | .not _ => true
  | .call _ _ => true
  | .mth _ _ _ => true
  | .isB _ _ _ => true
  | .isE _ _ => true
  | .b1 _ _ => true
  | .ix _ _ => true
  | _ => false
def m1B : M1 → Bool
  | .index => false
  | _ => true
/-- no star among the arguments -/
def nst : Mlg.Es → Bool
  | .nil => true
  | .cons _ es => nst es
  | .star _ _ => false
/-- what a method is asked of -/
def atrB : Expr → Bool
  | .Name _ _ => true
  | .Constant _ _ _ => true
  | .Subscript _ _ _ => true
  | _ => false
def b1B : B1 → Bool
  | .len => true | .abs => true | .int => true | .str => true | .list => true | .tuple => true | .sum => true | .all => true | .min => true | .max => true | .sorted => true
  | _ => false
section
variable (fnm : Nat → Option Str) (N : List Str)
mutual
def mE (sc : Scope) : Mlg.E → Expr → Bool
  | .er0 c, x => match x with
    | .Call (.Name y _) [] [] _ => decide (c < 14) && decide (fnm (600000 + c) = some y) && (gloB sc y && nameB y && decide (fldOf c = none))
    | _ => false
  | .er1 c a, x => match x with
    | .Call (.Name y _) [z] [] _ => decide (c < 14) && decide (fnm (600000 + c) = some y) && (gloB sc y && nameB y && !decide (fldOf c = none)) && plainX z && mE sc a z
    | _ => false
  | .isE c a, x => match x with
    | .Call (.Name n _) [x, .Name y _] [] _ => bltB sc "isinstance" n && plainX x && (if c = 100 then bltB sc "ValueError" y else decide (c < 14) && decide (fnm (600000 + c) = some y) && (gloB sc y && nameB y)) && mE sc a x
    | _ => false
  | .xfd i f, x => match x with
    | .Attribute (.Name y _) g _ => (decide (N[i]? = some y) && visB sc y && nameB y) && decide (g = f)
    | _ => false
  | .fld i f, x => match x with
    | .Attribute (.Name y _) g _ => decide (fnm 300000 = some ("Deck" : Str)) && (decide (N[i]? = some y) && visB sc y && nameB y) && ((decide (g = f) && fldNames.contains f) || (decide (g = ("pack" : Str)) && decide (f = ("now" : Str))))
    | _ => false
  | .isB neg b a, x => match x with
    | .Compare x [op] [.Constant c _ _] _ => decide (op = if neg = true then CmpOp.IsNot else CmpOp.Is) && cstB (.bool b) c && mE sc a x
    | _ => false
  | .lno i, x => match x with
    | .Call (.Name l _) [.Name y _] [] _ => decide (fnm 300000 = some ("Deck" : Str)) && (decide (N[i]? = some y) && visB sc y && nameB y) && bltB sc "len" l
    | _ => false
  | .mth f i as, x => match x with
    | .Call (.Attribute (.Name y _) m p) xs [] q => ((p.endLine == q.line) && decide (xs.length < 29)) && (decide (fnm 300000 = some ("Deck" : Str)) && decide (f < 100000) && decide (fnm (200000 + f) = some m)) && (decide (N[i]? = some y) && visB sc y && nameB y) && (!fldNames.contains m && nst as && mEs sc as xs)
    | _ => false
  | .mk f as, x => match x with
    | .Call (.Name y _) (z :: xs) [] _ => (decide (fnm 300000 = some ("Deck" : Str)) && decide (f < 100000) && decide (fnm (400000 + f) = some ("__init__" : Str))) && (decide (y = ("Deck" : Str)) && gloB sc y) && (nst as && mEs sc as (z :: xs))
    | _ => false
  | .var i, x => match x with
    | .Name x _ => decide (N[i]? = some x) && visB sc x && nameB x
    | _ => false
  | .cst d, x => match x with
    | .Constant c _ _ => cstB d c
    | _ => false
  | .glo g d, x => match x with
    | .Name x _ => decide (fnm (100000 + g) = some x) && (decide (g < 1000) && decide (x = gnm g) && sameB d (glov g) && gloB sc x && nameB x)
    | _ => false
  | .bin o a b, x => match x with
    | .BinOp x op y _ => decide (op = opOf o) && (mE sc a x && mE sc b y)
    | _ => false
  | .neg a, x => match x with
    | .UnaryOp .USub x _ => mE sc a x
    | _ => false
  | .not a, x => match x with
    | .UnaryOp .Not x _ => tstB a && mE sc a x
    | _ => false
  | .cmp o a b, x => match x with
    | .Compare x [op] [y] _ => decide (op = cmOf o) && plainX y && (mE sc a x && mE sc b y)
    | _ => false
  | .chn o o2 a b c, x => match x with
    | .Compare x [op, op2] [y, z] _ => decide (op = cmOf o) && decide (op2 = cmOf o2) && plainX z && (mE sc a x && mE sc b y && mE sc c z)
    | _ => false
  | .isN a, x => match x with
    | .Compare x [.Is] [.Constant .none _ _] _ => mE sc a x
    | _ => false
  | .ntN a, x => match x with
    | .Compare x [.IsNot] [.Constant .none _ _] _ => mE sc a x
    | _ => false
  | .and a b, x => match x with
    | .BoolOp .And [x, y] _ => tstB a && tstB b && (mE sc a x && mE sc b y)
    | .BoolOp .And (x :: y :: z :: r) p => tstB a && tstB b && (mE sc a x && mE sc b (.BoolOp .And (y :: z :: r) p))
    | _ => false
  | .or a b, x => match x with
    | .BoolOp .Or [x, y] _ => tstB a && tstB b && (mE sc a x && mE sc b y)
    | .BoolOp .Or (x :: y :: z :: r) p => tstB a && tstB b && (mE sc a x && mE sc b (.BoolOp .Or (y :: z :: r) p))
    | _ => false
  | .ite c a b, x => match x with
    | .IfExp z x y _ => tstB c && (mE sc c z && mE sc a x && mE sc b y)
    | _ => false
  | .call f as, x => match x with
    | .Call (.Name x _) xs [] _ => decide (f < 100000) && decide (fnm f = some x) && gloB sc x && (nameB x && nst as) && mEs sc as xs
    | _ => false
  | .b1 f a, x => match x with
    | .Call (.Name n _) [x] [] _ => (b1B f && bltB sc (b1nm f) n && plainX x && mE sc a x) || (match f, x with
      | .lenset, .Call (.Name m _) [y] [] _ => bltB sc "len" n && bltB sc "set" m && plainX y && mE sc a y
      | .sortset, .Call (.Name m _) [y] [] _ => bltB sc "sorted" n && bltB sc "set" m && plainX y && mE sc a y
      | _, _ => false)
    | .Call (.Name n _) [x, .Name y _] [] _ => (match f with
      | .isi t => false
      | _ => false)
    | _ => false
  | .b2 f a b, x => match x with
    | .Call (.Name n _) [x, y] [] _ => bltB sc (b2nm f) n && plainX x && plainX y && (mE sc a x && mE sc b y)
    | _ => false
  | .m1 f a b, x => match x with
    | .Call (.Attribute x m p) [y] [] q => (m1B f && decide (m = m1nm f)) && (p.endLine == q.line) && atrB x && plainX y && (mE sc a x && mE sc b y)
    | _ => false
  | .ix a i, x => match x with
    | .Subscript x y _ => plainX y && (mE sc a x && mE sc i y)
    | _ => false
  | .sl a lo hi, x => match x with
    | .Subscript x (.Slice l h none _) _ => mE sc a x && mEo sc lo l && mEo sc hi h
    | _ => false
  | .rev a, x => match x with
    | .Subscript x (.Slice none none (some (.UnaryOp .USub (.Constant (.int 1) _ _) _)) _) _ => mE sc a x
    | _ => false
  | .tup es, x => match x with
    | .Tuple xs _ _ => mEs sc es xs
    | _ => false
  | .lst es, x => match x with
    | .List xs _ => mEs sc es xs
    | _ => false
  | .dnew _, x => match x with
    | .Dict [] [] _ => true
    | _ => false
  | .dsp k v, x => match x with
    | .Dict [some y] [z] _ => mE sc k y && mE sc v z
    | _ => false
  | .dvals i, x => match x with
    | .Call (.Name n _) [.Call (.Attribute (.Name y _) m p) [] [] q] [] _ => bltB sc "list" n && decide (m = ("values" : Str)) && (p.endLine == q.line) && decide (N[i]? = some y) && visB sc y && nameB y
    | _ => false
  | .din neg a i, x => match x with
    | .Compare x [op] [.Name y _] _ => decide (op = if neg = true then CmpOp.NotIn else CmpOp.In) && decide (N[i]? = some y) && visB sc y && nameB y && mE sc a x
    | _ => false
  | .rg1 l a, x => match x with
    | .Call (.Name n _) [.Call (.Name m _) [y] [] _] [] _ => bltB sc (if l = true then "list" else "tuple") n && bltB sc "range" m && plainX y && mE sc a y
    | _ => false
  | .rg2 l a b, x => match x with
    | .Call (.Name n _) [.Call (.Name m _) [y, z] [] _] [] _ => bltB sc (if l = true then "list" else "tuple") n && bltB sc "range" m && plainX y && plainX z && (mE sc a y && mE sc b z)
    | _ => false
  | .lc elt tg it c vs, x => match x with
    | .ListComp x [⟨t, i, ifs, 0⟩] scope _ => blkC N sc scope (ownOf N vs) && decide ((ownOf N vs).map (·.2) = vs) && plainX i && tgB N scope (fun j => !vs.contains j) tg t && enuB it tg && (mIt sc it i && mIf (relS scope sc) c ifs && mE (relS scope sc) elt x)
    | _ => false
  | .lc2 elt tg it tg' it' vs vs1, x => match x with
    | .ListComp x [⟨t, i, [], 0⟩, ⟨t1, i1, [], 0⟩] scope _ => (blkC N sc scope (ownOf N vs) && decide ((ownOf N vs).map (·.2) = vs) && plainX i && tgB N scope (fun j => !vs.contains j) tg t && enuB it tg && (mIt sc it i && true && mE (relS scope sc) elt x)) && (match it' with | .r1 a => plainX i1 && tgB N scope (fun j => !vs1.contains j) tg' t1 && vs1.all (vs.contains ·) && mIt (relS scope sc) (.r1 a) i1 | _ => false)
    | _ => false
  | .dc k v tg it c vs, x => match x with
    | .DictComp y x [⟨t, i, ifs, 0⟩] scope _ => blkC N sc scope (ownOf N vs) && decide ((ownOf N vs).map (·.2) = vs) && plainX i && tgB N scope (fun j => !vs.contains j) tg t && enuB it tg && (mIt sc it i && mIf (relS scope sc) c ifs && mE (relS scope sc) v x) && mE (relS scope sc) k y
    | _ => false
  | .app i a, x => match x with
    | .Call (.Attribute (.Name x _) m p) [y] [] q => decide (m = ("append" : Str)) && decide (N[i]? = some x) && visB sc x && nameB x && (p.endLine == q.line) && plainX y && mE sc a y
    | _ => false
  | .pop i a, x => match x with
    | .Call (.Attribute (.Name x _) m p) [y] [] q => decide (m = ("pop" : Str)) && decide (N[i]? = some x) && visB sc x && nameB x && (p.endLine == q.line) && plainX y && mEo sc a (some y)
    | .Call (.Attribute (.Name x _) m p) [] [] q => decide (m = ("pop" : Str)) && decide (N[i]? = some x) && visB sc x && nameB x && (p.endLine == q.line) && mEo sc a none
    | _ => false
  | .get _ _ _, _ => false
def mEs (sc : Scope) : Mlg.Es → List Expr → Bool
  | .nil, x => match x with
    | [] => true
    | _ => false
  | .cons e es, x => match x with
    | x :: xs => plainX x && (mE sc e x && mEs sc es xs)
    | _ => false
  | .star e es, x => match x with
    | .Starred x _ :: xs => mE sc e x && mEs sc es xs
    | _ => false
def mEo (sc : Scope) : Mlg.Eo → Option Expr → Bool
  | .no, x => match x with
    | none => true
    | _ => false
  | .so e, x => match x with
    | some x => mE sc e x
    | _ => false
def mIf (sc : Scope) : Mlg.Eo → List Expr → Bool
  | .no, x => match x with
    | [] => true
    | _ => false
  | .so e, x => match x with
    | [x] => tstB e && mE sc e x
    | _ => false
def mIt (sc : Scope) : Mlg.It → Expr → Bool
  | .r1 a, x => match x with
    | .Call (.Name n _) [x] [] _ => bltB sc "range" n && plainX x && mE sc a x
    | _ => false
  | .r2 a b, x => match x with
    | .Call (.Name n _) [x, y] [] _ => bltB sc "range" n && plainX x && plainX y && (mE sc a x && mE sc b y)
    | _ => false
  | .r3 a b c, x => match x with
    | .Call (.Name n _) [x, y, z] [] _ => bltB sc "range" n && plainX x && plainX y && plainX z && (mE sc a x && mE sc b y && mE sc c z)
    | _ => false
  | .envar i, x => match x with
    | .Call (.Name n _) [.Name x _] [] _ => bltB sc "enumerate" n && decide (N[i]? = some x) && visB sc x && nameB x
    | _ => false
  | .enu a, x => match x with
    | .Call (.Name n _) [x] [] _ => bltB sc "enumerate" n && plainX x && mE sc a x
    | _ => false
  | .var i, x => match x with
    | .Name x _ => decide (N[i]? = some x) && visB sc x && nameB x
    | _ => false
  | .val a, x => plainX x && mE sc a x
end
end
end Msd
/-! SoundX: error classes whose __init__ keeps one field. -/
namespace Msd
open PySem PySem.Spec PyProof.Rows L2 Mlg
/-- what such an __init__ does -/
def spI (C : Addr) (f : Str) : Sp := fun vs H Q _ => ∃ (a : Addr) (v : V), vs = [.ref a, v] ∧ H a = some (exo a C none) ∧ ∀ dx, H dx = none → dx ≠ a → Q .non (upd (upd H dx (exd dx [(f, v)])) a (exo a C (some dx)))
structure FldC (K : Frag) (C : Addr) (f : Str) : Prop where
  ox : OexC K C
  xc : XfC K C
  no : PySem.W.findIn K (.ref C) f = some none
  ini : ∃ (fI : Addr) (fd : FuncData) (ps : List Str), PySem.W.findIn K (.ref C) "__init__" = some (some (.ref fI)) ∧ PySem.W.typeIn K (.ref fI) = some (.type "function") ∧ Binds K fd ps [] ∧
    ∀ (P : Program) (w : World) (mg : Str → Option Value) (base : Heap), FnOk P w K mg base (L2.CX P w) 1 fI fd ps (spI C f)
theorem passes_nil {X : Cx} {P : Program} {w : World} : Passes (L2.CX P w) X (fun _ _ _ => False) := fun _ _ _ _ _ _ _ z => by
  obtain ⟨_, _, _, _, _, _, _, _, _, _, _, _, z⟩ := z
  exact z.elim
/-- X(e), X's __init__ keeping e as its field -/
theorem pmk_fld {X : Cx} {C : Addr} {f x : Str} {e : Expr} {te : TE} {p pos : Pos} (F : FldC X.K C f) (hr : Room 2 X.A) (hg : Gl X x) (hm : X.mg x = some (.ref C)) (hn : (x == ("__debug__" : Str)) = false) (he : PE X e te) (hp : starEach [e] X.env = [(false, eval e X.env)]) :
    PMk X (.Call (.Name x p) [e] [] pos) (tMkO C (spI C f) [] (tCons te tNil)) := by
  obtain ⟨fI, fd, ps, i1, i2, hb, F1⟩ := F.ini
  have hp1 : starEach [e] X.env = (false, eval e X.env) :: starEach [] X.env := hp
  exact pmk_oex (p := p) (pos := pos) F.ox i1 i2 (F1 X.prog X.w X.mg X.base) hr hb .nil passes_nil hg hm (pa_cons he pa_nil hp1) hn hp1 rfl
theorem fld_cont {C : Addr} {f : Str} {v : V} {H1 : Hp} {Q : XK} (h : ∀ dx, H1 dx = none → Q (.ref C) (some dx) (upd H1 dx (.xd [(f, v)]))) :
    [v].length ≤ 1000 ∧ ∀ a, H1 a = none → spI C f (.ref a :: ([v] ++ [])) (upd H1 a (exo a C none))
      (fun u H2 => u = .non ∧ ∃ (d : Addr) (fs : List (Str × V)), H2 a = some (exo a C (some d)) ∧ H2 d = some (exd d fs) ∧ H1 d = none ∧ Q (.ref C) (some d) (upd (del H2 a) d (.xd fs))) (fun _ _ _ => False) := by
  refine ⟨by simp, fun a ha => ⟨a, v, rfl, upd_same, fun dx hx ne => ?_⟩⟩
  rw [upd_ne ne] at hx
  refine ⟨rfl, dx, [(f, v)], upd_same, by rw [upd_ne ne, upd_same], hx, ?_⟩
  have e : upd (del (upd (upd (upd H1 a (exo a C none)) dx (exd dx [(f, v)])) a (exo a C (some dx))) a) dx (.xd [(f, v)]) = upd H1 dx (.xd [(f, v)]) := by
    funext b
    by_cases hd : b = dx
    · subst hd; rw [upd_same, upd_same]
    · rw [upd_ne hd, upd_ne hd]
      by_cases hb : b = a
      · subst hb; rw [del_same, ha]
      · rw [del_ne hb, upd_ne hb, upd_ne hd, upd_ne hb]
  rw [e]
  exact h dx hx
end Msd
/-! SoundZ1: error objects as values: made, asked of their class, their field read. -/
namespace Msd
open PySem PySem.Spec PyProof.Rows L2 Mlg
/-- X() -/
theorem pe_er0 {X : Cx} {C : Addr} {bmB : List Value} {B newId initId : String} {x : Str} {p pos : Pos} (F : ExcBaseFacts B newId initId bmB) (q : PySem.W.excIn X.K C bmB newId = true) (gC : X.mg x = some (.ref C)) (kC : PySem.W.keepIn X.K (.ref C) = true) (hg : Gl X x)
    (hdb : (x == ("__debug__" : Str)) = false) : PE X (.Call (.Name x p) [] [] pos) (fun _ H Q => ∀ a, H a = none → Q (.ref a) (upd H a (exo a C none))) := by
  refine ⟨fun pins s σ H Q I h => ?_⟩
  refine wpAny_Call_Name_kw (ld_glob I hg gC ?_ hdb)
  refine PySem.W.callWith_K0 I.kIn kC ?_
  show wpAny _ _ (PySem.call (.ref C) []) _ _ _
  obtain ⟨bm, N, nm, qn, bs, hdct, sn, sub, ab, col, dd, k0, k1, k2, k3, k5, mN, hC, hN, hni, T⟩ := exc_obj I.kIn q
  refine wpAny_call_exc_subT F T hC hN hni (fun h' a hm => ?_) (Nat.zero_le _)
  have hn : H a = none := I.hok.gone hm.new
  obtain ⟨t, ht, _, _⟩ := hm.there
  exact ⟨.ref a, upd H a (exo a C none), I.laidN hm.keeps hm.new hn (exo_ok ht), rfl, h a hn⟩
/-- X(e) that keeps e -/
theorem pe_er1 {X : Cx} {C : Addr} {f x : Str} {e : Expr} {te : TE} {p pos : Pos} (T : FldC X.K C f) (hr : Room 2 X.A) (hg : Gl X x) (hm : X.mg x = some (.ref C)) (hdb : (x == ("__debug__" : Str)) = false) (he : PE X e te) (hp : starEach [e] X.env = [(false, PySem.eval e X.env)]) :
    PE X (.Call (.Name x p) [e] [] pos) (fun σ H Q => te σ H fun v H1 => ∀ a, H1 a = none → spI C f (.ref a :: [v]) (upd H1 a (exo a C none)) (fun u H2 => u = .non ∧ Q (.ref a) H2) (fun _ _ _ => False)) := by
  refine ⟨fun pins s σ H Q I h => ?_⟩
  have hp1 : starEach [e] X.env = (false, PySem.eval e X.env) :: starEach [] X.env := hp
  obtain ⟨fI, fd, ps, iC, tI, hb, F1⟩ := T.ini
  replace F1 := F1 X.prog X.w X.mg X.base
  have ha : PA X [e] (tCons te tNil) := pa_cons he pa_nil hp1
  obtain ⟨nm, q, N, bs, bm, sn, sub, ab, col, dd, k0, k1, k2, k3, k5, hC, hbm⟩ := T.ox.cls
  refine wpAny_Call_Name_kw (ld_glob I hg hm ?_ hdb)
  refine PySem.W.callWith_K (h₀ := X.base) I.ok.mod.kin T.ox.kC (thn (ha.run pos pins s σ H (fun vs H1 => match vs with | [v] => ∀ a, H1 a = none → spI C f (.ref a :: [v]) (upd H1 a (exo a C none)) (fun u H2 => u = .non ∧ Q (.ref a) H2) (fun _ _ _ => False) | _ => False) I h) fun us s1 ⟨vs, H1, I1, r1, q1⟩ => ⟨I1.kIn, ?_⟩) hp1 rfl
  obtain ⟨v0, ev0⟩ : ∃ v0, vs = [v0] := by
    rcases vs with _ | ⟨v0, _ | ⟨_, _⟩⟩
    · exact q1.elim
    · exact ⟨v0, rfl⟩
    · exact q1.elim
  subst ev0
  replace q1 : ∀ a, H1 a = none → spI C f (.ref a :: [v0]) (upd H1 a (exo a C none)) (fun u H2 => u = .non ∧ Q (.ref a) H2) (fun _ _ _ => False) := q1
  show wpAny _ _ (PySem.call (.ref C) us) _ _ _
  obtain ⟨hp, g, dr, tk, os⟩ := s1
  have hsz : hp.objs.size ≤ hp.objs.size + 1 := Nat.le_succ _
  have hn : H1 (hp.objs.size + 1) = none := I1.hok.fresh hsz
  have hq := q1 (hp.objs.size + 1) hn
  have kk : ∀ b o, hp.get? b = some o → ((hp.push (PySem.W.kdv_tup us)).push (PySem.HandSPX.excO C hp.objs.size)).get? b = some o := fun b o e => Heap.get?_push_of_some _ (Heap.get?_push_of_some _ e)
  have hget : ((hp.push (PySem.W.kdv_tup us)).push (PySem.HandSPX.excO C hp.objs.size)).get? (hp.objs.size + 1) = some (PySem.HandSPX.excO C hp.objs.size) := by heap_get
  have hnone : hp.get? (hp.objs.size + 1) = none := by
    cases e : hp.get? (hp.objs.size + 1) with
    | none => rfl
    | some o => exact absurd (show hp.objs.size + 1 < hp.objs.size from Heap.lt_size e) (by omega)
  have I2 : Inv X pins σ (upd H1 (hp.objs.size + 1) (exo (hp.objs.size + 1) C none)) ⟨(hp.push (PySem.W.kdv_tup us)).push (PySem.HandSPX.excO C hp.objs.size), g, dr, tk, os⟩ :=
    I1.laid (t' := tk) (a := hp.objs.size + 1) (o := exo (hp.objs.size + 1) C none) (h' := (hp.push (PySem.W.kdv_tup us)).push (PySem.HandSPX.excO C hp.objs.size)) kk hsz (exo_ok hget)
  have r2 : Vals (V.ref (hp.objs.size + 1) :: [v0]) (Value.ref (hp.objs.size + 1) :: us) := .cons rfl r1
  have hl : (Value.ref (hp.objs.size + 1) :: us).length = ps.length := by
    have e := r2.length
    rw [F1.len _ _ _ _ hq] at e
    exact e.symm
  have hus : us.length ≤ sizeLine := by
    rw [← Paired.length r1, sizeLine_eq]
    exact Nat.le_of_ble_eq_true rfl
  refine wpAny_call (PySem.HandSPX.call_own F.excBase_ValueError (fun Y => PySem.HandSPX.refsVE_contains Y bm hbm) (I1.kIn _ _ hC) (PySem.W.looks_findIn I1.kIn iC) (fun self => PySem.W.bind_fn I1.kIn self tI) hus
    (codeAny_mono (F1.run _ X.stack _ _ ⟨Value.ref (hp.objs.size + 1) :: us, []⟩ (Value.ref (hp.objs.size + 1) :: us) _ _ (fun _ _ _ => False) (hr.make C us []) (I2.env0.make C us []) (by have := hb _ (Value.ref (hp.objs.size + 1) :: us) I2.kIn (by simpa using hl); simpa using this) r2 hq) fun r s' hq' => ?_))
  cases r with
  | error er => exact passes_nil pins σ _ _ er s' I2 hq'
  | ok fl =>
    cases fl with
    | ret u =>
      obtain ⟨v, H2, os2, bare2, un2, hok2, rv, ev, q2⟩ := hq'
      subst ev
      obtain ⟨h2, g2, d2, t2, os'⟩ := s'
      exact ⟨rv, .ref (hp.objs.size + 1), H2, I1.call' os2 ((Un.laidN kk hnone hn).trans un2) hok2 bare2 (fun b z => absurd z (by simp)), rfl, q2⟩
    | next => exact False.elim hq'
    | brk => exact False.elim hq'
    | cont => exact False.elim hq'
/-- isinstance(e, c) -/
def rIsX (K : Frag) : List V → Hp → VK → Prop := fun xs H Q => ∃ (a C : Addr) (d : Option Addr) (c : V) (cv : Value) (b : Bool), xs = [.ref a, c] ∧ H a = some (exo a C d) ∧ (∀ dx, d = some dx → ∃ fs, H dx = some (exd dx fs)) ∧ KxC K C ∧ (∀ u, RelV c u → u = cv) ∧ PySem.W.kitOne K (.ref C) cv = some b ∧ Q (.bl b) H
theorem call_isX {X : Cx} : CallR X (.builtin "isinstance") (rIsX X.K) := by
  intro pins s σ H xs us Q I r h
  obtain ⟨a, C, d, c, cv, b, rfl, ha, hd, T, hcv, e, q⟩ := h
  obtain ⟨u1, u2, rfl, r1, r2⟩ := vals2 r
  cases r1
  have ec := hcv _ r2
  subst ec
  obtain ⟨t1, ho⟩ := exo_at I.hok ha
  obtain ⟨od, J⟩ : ∃ od, PySem.W.InstAt s.heap a ({ cls := .ref C, dict := d, data := .fields #[.ref t1, .none, .none, .none, .bool false, .none] } : Obj) C od := by
    cases d with
    | none => exact ⟨none, ho, rfl, rfl, trivial⟩
    | some dx =>
      obtain ⟨fs, hx⟩ := hd dx rfl
      obtain ⟨mA, hns, hr⟩ := exd_at I.hok hx
      obtain ⟨o, ho2, hl⟩ := lookIn_ns hns
      exact ⟨some o, ho, rfl, rfl, ho2⟩
  exact PySem.W.kia_one (PySem.W.kitx_exc T.cl T.hg T.hk T.hs T.ha T.hn T.ht T.hm) I.kIn J e (fun z => nomatch z) fun tk => ⟨.bl b, H, I.tok tk, rfl, q⟩
/-- e.f -/
def tXfv (K : Frag) (n : Str) (te : TE) : TE := fun σ H Q => te σ H fun x H1 => ∃ (a C dx : Addr) (fs : List (Str × V)) (v : V), x = .ref a ∧ H1 a = some (exo a C (some dx)) ∧ H1 dx = some (exd dx fs) ∧ XfC K C ∧ PySem.W.findIn K (.ref C) n = some none ∧ fs.lookup n = some v ∧ Q v H1
theorem pe_xfv {X : Cx} {e : Expr} {te : TE} {pos : Pos} {n : Str} (he : PE X e te) (hb : attributeBase e n X.env (PySem.eval e X.env) = PySem.eval e X.env := by rfl) : PE X (.Attribute e n pos) (tXfv X.K n te) := by
  refine ⟨fun pins s σ H Q I h => ?_⟩
  refine attr_of hb (thn (he.run pins s σ H _ I h) fun u s1 hh => ?_)
  obtain ⟨x, H1, I1, rx, a, C, dx, fs, v, ex, ha, hx, T, hno, l, q⟩ := hh
  subst ex
  obtain rfl : u = Value.ref a := rx
  obtain ⟨t1, ho⟩ := exo_at I1.hok ha
  obtain ⟨mA, hns, hr⟩ := exd_at I1.hok hx
  obtain ⟨od, ho2, hl⟩ := lookIn_ns hns
  obtain ⟨u, hu, ru⟩ := RelO.some_of (v := v) (o := mA n) (by rw [← l]; exact hr n)
  have J : PySem.W.InstAt s1.heap a ({ cls := .ref C, dict := some dx, data := .fields #[.ref t1, .none, .none, .none, .bool false, .none] } : Obj) C (some od) := ⟨ho, rfl, rfl, ho2⟩
  exact HandSPX.exc_get I1.kIn J T.ga T.gg T.exC (PySem.W.findObj_own T.hdC hno rfl (by rw [hl, hu])) (handed_of ru) ⟨v, H1, I1.tok _, ru, q⟩
end Msd
/-! Sound6: the context; the plain expressions. -/
namespace Msd
open PySem PySem.Spec PyProof.Rows L2 Mlg
/-- what a return hands back: a value, an object that is new or that was handed over -/
def RetR (K : Frag) (ρ : Env) (σ : St) (H : Hp) (ρ' : Env) (F' : Hp) (σ' : St) (H' : Hp) (v : V) : R → Prop
  | .val d => Rep K F' v d
  | .tmp o => ∃ p, v = .ref p ∧ F' p = none ∧ ObjR K F' H' p o ∧ ¬ Own ρ' σ' p ∧ (H p = none ∨ Own ρ σ p)
  | .loc _ => False
def OutF (T : Errs) (K : Frag) (E : XK) (ρ : Env) (F : Hp) (σ : St) (H : Hp) (res : Res (R × Env)) (Q : VK) : Prop := match res with
  | .ok p => ∀ v F' H', Step ρ σ F H p.2 σ F' H' → Sim K p.2 F' σ H' → RetR K ρ σ H p.2 F' σ H' v p.1 → Q v H'
  | .exc c f ρ' => ∀ F' H' cls d, Step ρ σ F H ρ' σ F' H' → Sim K ρ' F' σ H' → ExcR T K F' H' c f cls d → E cls d H'
  | .no => False
/-- a def's promise: what the small language's call gives -/
def spF (T : Errs) (K : Frag) (call : CallT) (f : Nat) : Sp := fun vs H Q E => ∃ (as : Env) (F : Hp), Sim K as F (vs.map some) H ∧ OutF T K E as F (vs.map some) H (call f as) Q
/-- an error class of the text -/
structure ExcF (K : Frag) (mg : Str → Option Value) (x : Str) (C : Addr) : Prop where
  gC : mg x = some (.ref C)
  kC : PySem.W.keepIn K (.ref C) = true
  sb : PySem.W.subIn K (.ref C) (.type "BaseException") = some true
  ty : PySem.W.typeIn K (.ref C) = some (.type "type")
abbrev veBase : List Value := [.type "ValueError", .type "Exception", .type "BaseException", .type "object"]
/-- what len asks of an instance -/
def lenSp (C : Addr) : Sp := fun vs H Q _ => ∃ (a dx t : Addr) (gs : List (Str × V)) (xs : List V), vs = [.ref a] ∧ H a = some (.ins C dx gs) ∧ gs.lookup ("past" : Str) = some (.ref t) ∧ H t = some (.tup xs) ∧ Q (.int xs.length) H
/-- the class Deck -/
structure DeckF (K : Frag) (mg : Str → Option Value) : Prop where
  gl : mg "Deck" = some (.ref (deckC K))
  cls : Cls K (deckC K)
  no : ∀ f ∈ fldNames, NoAttr K (deckC K) f
  prop : ∃ p g fd ps, PropOf K (deckC K) "pack" p g ∧ Binds K fd ps [] ∧ ∀ (P : Program) (w : World) (mg : Str → Option Value) (base : Heap), FnOk P w K mg base (L2.CX P w) 1 g fd ps (getSp (deckC K) "now")
  len : ∃ f fd ps, Meth K (deckC K) "__len__" f ∧ Binds K fd ps [] ∧ ∀ (P : Program) (w : World) (base : Heap), FnOk P w K mg base (L2.CX P w) 1 f fd ps (lenSp (deckC K))
/-- what stands in the text beside its defs -/
structure GlobS (fnm : Nat → Option Str) (T : Errs) (K : Frag) (mg : Str → Option Value) : Prop where
  bl : ∀ x ∈ builtins, mg x = none
  ex : ∀ c x, T.nm c = some x → ExcF K mg x (T.at_ c)
  ex0 : ∀ c x, T.nm c = some x → T.fld c = none → PySem.W.excIn K (T.at_ c) veBase "ValueError.__new__" = true
  fl : ∀ c, T.fld c = fldOf c
  fd : ∀ c x f, T.nm c = some x → T.fld c = some f → FldC K (T.at_ c) f
  em : ∀ c c' x x', T.nm c = some x → T.nm c' = some x' → PySem.W.exmOne K (.ref (T.at_ c)) (.ref (T.at_ c')) = some (decide (c = c'))
  kx : ∀ c x, c < 14 → fnm (600000 + c) = some x → x = enm c ∧ mg x = some (.ref (He.ga K (enm c))) ∧ PySem.W.keepIn K (.ref (He.ga K (enm c))) = true ∧ (fldOf c = none → PySem.W.excIn K (He.ga K (enm c)) veBase "ValueError.__new__" = true) ∧ (∀ f, fldOf c = some f → FldC K (He.ga K (enm c)) f) ∧ KxP K c
  dk : fnm 300000 = some ("Deck" : Str) → DeckF K mg
  gl : ∀ g d, g < 1000 → fnm (100000 + g) = some (gnm g) → sameB d (glov g) = true → ∃ u v, mg (gnm g) = some u ∧ RelV v u ∧ ∀ F, Rep K F v d
structure Glob (fnm : Nat → Option Str) (T : Errs) (call : CallT) (k : Nat) (P : Program) (w : World) (K : Frag) (mg : Str → Option Value) (base : Heap) : Prop extends GlobS fnm T K mg where
  fn : ∀ f x, f < 100000 → fnm f = some x → ∃ a fd ps, mg x = some (.ref a) ∧ PySem.W.keepIn K (.ref a) = true ∧ Binds K fd ps [] ∧ FnOk P w K mg base (L2.CX P w) (2 * k + 2) a fd ps (spF T K call f)
  mt : ∀ f m, f < 100000 → fnm (200000 + f) = some m → ∃ a fd ps, Meth K (deckC K) m a ∧ Binds K fd ps [] ∧ FnOk P w K mg base (L2.CX P w) (2 * k + 2) a fd ps (spF T K call f)
  mkr : ∀ f, f < 100000 → fnm (400000 + f) = some ("__init__" : Str) → ∃ a fd ps, Mk K (deckC K) a ∧ Binds K fd ps [] ∧ FnOk P w K mg base (L2.CX P w) (2 * k + 2) a fd ps (spF T K call f)
structure Cok (fnm : Nat → Option Str) (T : Errs) (call : CallT) (k : Nat) (N : List Str) (X : Cx) (sc : Scope) : Prop where
  hN : X.N = N
  nd : N.Nodup
  hsc : X.env.scope = sc
  calm : X.calm = true
  room : Room (2 * k + 3) X.A
  G : Glob fnm T call k X.prog X.w X.K X.mg X.base

theorem PE.imp {X : Cx} {x : Expr} {t t' : TE} (h : PE X x t) (i : ∀ σ H Q, t' σ H Q → t σ H Q) : PE X x t' := ⟨fun pins s σ H Q I q => h.run pins s σ H Q I (i σ H Q q)⟩
theorem PT.imp {X : Cx} {x : Expr} {t t' : TT} (h : PT X x t) (i : ∀ σ H Q, t' σ H Q → t σ H Q) : PT X x t' := ⟨fun pins s σ H Q I q => h.run pins s σ H Q I (i σ H Q q)⟩
theorem PW.imp {X : Cx} {x : Expr} {t t' : TT} (h : PW X x t) (i : ∀ σ H Q, t' σ H Q → t σ H Q) : PW X x t' := ⟨fun wh pins s σ H Q I q => h.run wh pins s σ H Q I (i σ H Q q)⟩
theorem PA.imp {X : Cx} {x : List Expr} {t t' : TA} (h : PA X x t) (i : ∀ σ H Q, t' σ H Q → t σ H Q) : PA X x t' := ⟨fun pos pins s σ H Q I q => h.run pos pins s σ H Q I (i σ H Q q)⟩

theorem and3 {a b c : Bool} (h : (a && b && c) = true) : a = true ∧ b = true ∧ c = true := by
  cases a <;> cases b <;> cases c <;> first | exact ⟨rfl, rfl, rfl⟩ | cases h
theorem and3' {a b c : Bool} (h : (a && (b && c)) = true) : a = true ∧ b = true ∧ c = true := by
  cases a <;> cases b <;> cases c <;> first | exact ⟨rfl, rfl, rfl⟩ | cases h
theorem and2 {a b : Bool} (h : (a && b) = true) : a = true ∧ b = true := by
  cases a <;> cases b <;> first | exact ⟨rfl, rfl⟩ | cases h
theorem visB_ok {sc : Scope} {x : Str} (h : visB sc x = true) : Vis sc x := by
  unfold visB at h
  split at h
  · rename_i e; exact .inl e
  · rename_i e; exact .inr (.inl e)
  · rename_i e; exact .inr (.inr e)
  · cases h
theorem locB_ok {sc : Scope} {x : Str} (h : locB sc x = true) : Loc sc x := by
  unfold locB at h
  split at h
  · rename_i e; exact .inl e
  · rename_i e; exact .inr e
  · cases h
theorem nameB_ok {x : Str} (h : nameB x = true) : (x == ("__debug__" : Str)) = false ∧ (x == ("__classdict__" : Str)) = false ∧ x ≠ "__name__" := by
  obtain ⟨h1, h2, h3⟩ := and3 h
  refine ⟨by simpa using h1, by simpa using h2, fun e => ?_⟩
  subst e
  simp at h3
theorem sameB_ok {d e : D} (h : sameB d e = true) : d = e := by
  cases d <;> cases e <;> first | (cases h; done) | skip
  · exact congrArg PyData.int (of_decide_eq_true h)
  · exact congrArg PyData.str (of_decide_eq_true h)
theorem starEach_plain {x : Expr} {xs : List Expr} {env : PySem.Env} (h : plainX x = true) : starEach (x :: xs) env = (false, PySem.eval x env) :: starEach xs env := by
  cases x <;> first | rfl | cases h
theorem backTo_any : ∀ {pos : Pos} {l : List (Bool × Sem Value)}, (backTo pos l).any (·.1) = l.any (·.1) := by
  intro pos l
  unfold backTo
  rw [List.any_map]
  rfl
theorem plain_any {xs : List Expr} {env : PySem.Env} (h : ∀ x ∈ xs, plainX x = true) : (starEach xs env).any (·.1) = false := by
  induction xs with
  | nil => rfl
  | cons x r ih =>
    rw [starEach_plain (h x List.mem_cons_self), List.any_cons, ih fun y hy => h y (List.mem_cons_of_mem _ hy)]
    rfl

section
variable {fnm : Nat → Option Str} {T : Errs} {call : CallT} {k : Nat} {N : List Str}
def PrE (fnm : Nat → Option Str) (T : Errs) (call : CallT) (k : Nat) (N : List Str) (e : Mlg.E) : Prop :=
  ∀ (X : Cx) (W : WX) (sc : Scope) (x : Expr), Cok fnm T call k N X sc → Takes X W → mE fnm N sc e x = true → PE X x (LE T X.K W (Mlg.eval call e))
abbrev relT : St → Hp → Env → Hp → Hp → Bool → Bool → Prop := fun _ _ _ _ _ b c => b = c
abbrev LB (T : Errs) (K : Frag) (W : WX) (m : Env → Res (Bool × Env)) : TT := LX T K W relT m
theorem back_T {σ : St} : Back (relT σ) := fun _ _ _ _ _ _ _ _ h => h
def PrT (fnm : Nat → Option Str) (T : Errs) (call : CallT) (k : Nat) (N : List Str) (e : Mlg.E) : Prop :=
  ∀ (X : Cx) (W : WX) (sc : Scope) (x : Expr), Cok fnm T call k N X sc → Takes X W → tstB e = true → mE fnm N sc e x = true → PT X x (LB T X.K W fun ρ => asB (Mlg.eval call e ρ))
/-- a result that is True or False -/
theorem out_asB {K : Frag} {W : WX} {ρ : Env} {F : Hp} {σ : St} {H : Hp} {res : Res (R × Env)} {Q : Bool → Hp → Prop} (h : Out T K W ρ F σ H (relT σ) (asB res) Q) : Out T K W ρ F σ H (relE K σ) res (fun x H1 => ∃ c, x = .bl c ∧ Q c H1) := by
  cases res with
  | ok p =>
    obtain ⟨r, ρ'⟩ := p
    cases r with
    | val d =>
      cases d with
      | bool b => exact fun v F' H' s S rl => by cases rl; exact ⟨b, rfl, h b F' H' s S rfl⟩
      | none => exact h.elim
      | int _ => exact h.elim
      | str _ => exact h.elim
      | list _ => exact h.elim
      | tuple _ => exact h.elim
      | dict _ => exact h.elim
    | tmp o => exact h.elim
    | loc i => exact h.elim
  | exc c f ρ' => exact h
  | no => exact h
theorem lb_tB {K : Frag} {W : WX} {m : Env → Res (R × Env)} {σ : St} {H : Hp} {Q : Bool → Hp → Prop} (h : LB T K W (fun ρ => asB (m ρ)) σ H Q) : tB (LE T K W m) σ H Q := by
  obtain ⟨ρ, F, S, h⟩ := h
  exact ⟨ρ, F, S, out_asB h⟩
theorem pt_of {X : Cx} {x : Expr} {W : WX} {m : Env → Res (R × Env)} (h : PE X x (LE T X.K W m)) (he : ∀ whole, isTrue x X.env whole = (do let v ← whole; standAt x.pos; holding [v] (truthy v))) : PT X x (LB T X.K W fun ρ => asB (m ρ)) :=
  PT.imp (pt_val h he) fun σ H Q q => lb_tB q

/-! ### names, constants -/
theorem e_var (i : Nat) : PrE fnm T call k N (.var i) := by
  intro X W sc x C tk h
  unfold mE at h
  cases x <;> first | (cases h; done) | skip
  rename_i x p
  obtain ⟨h1, h2, h3⟩ := and3 h
  obtain ⟨n1, n2, _⟩ := nameB_ok h3
  refine PE.imp (pe_var (i := i) (by rw [C.hN]; exact of_decide_eq_true h1) (by rw [C.hsc]; exact visB_ok h2) n1 n2) fun σ H Q q => ?_
  obtain ⟨ρ, F, S, q⟩ := q
  unfold Mlg.eval getV at q
  cases e : ρ[i]? with
  | none => rw [e] at q; exact q.elim
  | some s =>
    rw [e] at q
    have hs := S.slot i s e
    cases s with
    | un => exact q.elim
    | val d => obtain ⟨v, h1, h2⟩ := hs; exact ⟨v, h1, out_val S q h2⟩
    | own o => obtain ⟨p, h1, _⟩ := hs; exact ⟨_, h1, q _ _ _ .refl S ⟨h1, _, rfl⟩⟩
    | lck o => obtain ⟨p, h1, _⟩ := hs; exact ⟨_, h1, q _ _ _ .refl S ⟨h1, _, rfl⟩⟩
    | ro xs => obtain ⟨p, vs, h1, _⟩ := hs; exact ⟨_, h1, q _ _ _ .refl S ⟨h1, _, rfl⟩⟩
theorem e_cst (d : D) : PrE fnm T call k N (.cst d) := by
  intro X W sc x C tk h
  unfold mE at h
  cases x <;> first | (cases h; done) | skip
  rename_i c j p
  replace h : cstB d c = true := h
  cases d <;> first | (cases h; done) | skip
  · cases c <;> first | (cases h; done) | skip
    exact PE.imp pe_non fun σ H Q q => by obtain ⟨ρ, F, S, q⟩ := q; exact out_val S q .non
  · cases c <;> first | (cases h; done) | skip
    rename_i a b
    have : a = b := eq_of_beq h
    subst this
    exact PE.imp pe_bl fun σ H Q q => by obtain ⟨ρ, F, S, q⟩ := q; exact out_val S q (.bl a)
  · cases c <;> first | (cases h; done) | skip
    rename_i a b
    have : a = b := of_decide_eq_true h
    subst this
    exact PE.imp pe_int fun σ H Q q => by obtain ⟨ρ, F, S, q⟩ := q; exact out_val S q (.int a)
  · cases c <;> first | (cases h; done) | skip
    rename_i a b
    have : a = b := of_decide_eq_true h
    subst this
    exact PE.imp pe_str fun σ H Q q => by obtain ⟨ρ, F, S, q⟩ := q; exact out_val S q (.str a)
theorem e_glo (g : Nat) (d : D) : PrE fnm T call k N (.glo g d) := by
  intro X W sc x C tk h
  unfold mE at h
  cases x <;> first | (cases h; done) | skip
  rename_i x p
  obtain ⟨hg, h⟩ := and2 h
  obtain ⟨h0, h2, h3⟩ := and3 h
  obtain ⟨hlt, h0, h1⟩ := and3 h0
  obtain ⟨n1, n2, _⟩ := nameB_ok h3
  have e : x = gnm g := of_decide_eq_true h0
  obtain ⟨u, v, m1, m2, m3⟩ := C.G.gl g d (of_decide_eq_true hlt) (by rw [← e]; exact of_decide_eq_true hg) h1
  refine PE.imp (pe_glob (x := x) (by show X.env.scope.names.lookup x = _; rw [C.hsc]; exact of_decide_eq_true h2) (by rw [e]; exact m1) m2 n1) fun σ H Q q => ?_
  obtain ⟨ρ, F, S, q⟩ := q
  exact out_val S q (m3 F)

/-! ### operators -/
/-- two parts, then an operator -/
theorem le_two {K : Frag} {W : WX} {m1 m2 : Env → Res (R × Env)} {kk : R → R → Env → Res (R × Env)} {r : R2} {σ : St} {H : Hp} {Q : VK}
    (hop : ∀ (ρ : Env) (F H' : Hp) (r1 r2 : R) (x y : V) (H0 : Hp), Sim K ρ F σ H' → RelR K H0 σ ρ F H' x r1 → RelR K H0 σ ρ F H' y r2 → Out T K W ρ F σ H' (relE K σ) (kk r1 r2 ρ) Q → r x y H' Q)
    (h : LE T K W (fun ρ => (m1 ρ).bind fun p => (m2 p.2).bind fun q => kk p.1 q.1 q.2) σ H Q) : tOp r (LE T K W m1) (LE T K W m2) σ H Q := by
  obtain ⟨ρ, F, S, h⟩ := h
  refine ⟨ρ, F, S, Out.bind back_E h fun r1 ρ1 x F1 H1 s1 S1 rl1 h1 => ⟨ρ1, F1, S1, Out.bind back_E h1 fun r2 ρ2 y F2 H2 s2 S2 rl2 h2 => ?_⟩⟩
  exact hop ρ2 F2 H2 r1 r2 x y H S2 (rl1.step S1 S2 s2) (back_E _ _ _ _ _ _ _ s1.dom rl2) h2
theorem out_of {K : Frag} {W : WX} {ρ : Env} {F : Hp} {σ : St} {H : Hp} {Q : VK} {o : Option R} (h : Out T K W ρ F σ H (relE K σ) ((Res.of o).bind fun r => .ok (r, ρ)) Q) : ∃ r, o = some r ∧ Out T K W ρ F σ H (relE K σ) (.ok (r, ρ)) Q := by
  cases o with
  | none => exact h.elim
  | some r => exact ⟨r, rfl, h⟩
theorem e_bin (o : Bi) {a b : Mlg.E} (ia : PrE fnm T call k N a) (ib : PrE fnm T call k N b) : PrE fnm T call k N (.bin o a b) := by
  intro X W sc x C tk h
  unfold mE at h
  cases x <;> first | (cases h; done) | skip
  rename_i x op y p
  obtain ⟨h1, h2⟩ := and2 h
  obtain ⟨h2, h3⟩ := and2 h2
  have e : op = opOf o := of_decide_eq_true h1
  subst e
  refine PE.imp (pe_op (op_bin o) (ia X W sc x C tk h2) (ib X W sc y C tk h3)) fun σ H Q q => ?_
  refine le_two (kk := fun r1 r2 ρ => match lookS ρ r1, lookS ρ r2 with
      | some x, some y => (Res.of (Mlg.bin o x y)).bind fun r => .ok (r, ρ)
      | _, _ => .no) (fun ρ F H' r1 r2 x y H0 S h1 h2 h => ?_) q
  try dsimp only at h
  cases e1 : lookS ρ r1 with
  | none => rw [e1] at h; exact h.elim
  | some dx =>
    cases e2 : lookS ρ r2 with
    | none => rw [e1, e2] at h; exact h.elim
    | some dy =>
      rw [e1, e2] at h
      obtain ⟨r, er, h⟩ := out_of h
      exact bin_ok S (lookS_ok S h1 e1) (lookS_ok S h2 e2) er h
theorem cmp_case {K : Frag} {W : WX} {ρ : Env} {F : Hp} {σ : St} {H H0 : Hp} {Q : VK} {o : Cm} {r1 r2 : R} {x y : V} (S : Sim K ρ F σ H) (h1 : RelR K H0 σ ρ F H x r1) (h2 : RelR K H0 σ ρ F H y r2)
    (h : Out T K W ρ F σ H (relE K σ) (match look ρ r1, look ρ r2 with
      | some x, some y => (Res.of (Mlg.cmp o x y)).bind fun r => .ok (.val (.bool r), ρ)
      | _, _ => .no) Q) : rCmp K o x y H Q := by
  cases e1 : look ρ r1 with
  | none => rw [e1] at h; exact h.elim
  | some dx =>
    cases e2 : look ρ r2 with
    | none => rw [e1, e2] at h; exact h.elim
    | some dy =>
      rw [e1, e2] at h
      dsimp only at h
      cases ec : Mlg.cmp o dx dy with
      | none => rw [ec] at h; exact h.elim
      | some b => rw [ec] at h; exact cmp_ok S.fh (look_ok S h1 e1) (look_ok S h2 e2) ec (out_val S h (.bl b))
theorem plain_marks {op : CmpOp} {y : Expr} (h : plainX y = true) : behindInMarks op y = false := by
  cases y <;> first | rfl | cases h
theorem e_cmp (o : Cm) {a b : Mlg.E} (ia : PrE fnm T call k N a) (ib : PrE fnm T call k N b) : PrE fnm T call k N (.cmp o a b) ∧ PrT fnm T call k N (.cmp o a b) := by
  have key : ∀ (X : Cx) (W : WX) (sc : Scope) (x : Expr), Cok fnm T call k N X sc → Takes X W → mE fnm N sc (.cmp o a b) x = true → ∃ x' y p, x = .Compare x' [cmOf o] [y] p ∧ plainX y = true ∧ PE X x' (LE T X.K W (Mlg.eval call a)) ∧ PE X y (LE T X.K W (Mlg.eval call b)) := by
    intro X W sc x C tk h
    unfold mE at h
    try dsimp only at h
    split at h
    · rename_i x' op y p
      obtain ⟨h1, hp, h2⟩ := and3 h
      obtain ⟨h2, h3⟩ := and2 h2
      have e : op = cmOf o := of_decide_eq_true h1
      subst e
      exact ⟨x', y, p, rfl, hp, ia X W sc x' C tk h2, ib X W sc y C tk h3⟩
    · cases h
  constructor
  · intro X W sc x C tk h
    obtain ⟨x', y, p, rfl, hp, h1, h2⟩ := key X W sc x C tk h
    refine PE.imp (pe_cmpR (op_cmp o (by have := C.room.un; omega)) h1 h2 (plain_marks hp)) fun σ H Q q => ?_
    exact le_two (kk := fun r1 r2 ρ => match look ρ r1, look ρ r2 with
      | some x, some y => (Res.of (Mlg.cmp o x y)).bind fun r => .ok (.val (.bool r), ρ)
      | _, _ => .no) (fun ρ F H' r1 r2 x y H0 S h1 h2 h => cmp_case S h1 h2 h) q
  · intro X W sc x C tk ht h
    obtain ⟨x', y, p, rfl, hp, h1, h2⟩ := key X W sc x C tk h
    refine PT.imp (pt_cmpR (op_cmp o (by have := C.room.un; omega)) h1 h2 (plain_marks hp)) fun σ H Q q => ?_
    exact le_two (kk := fun r1 r2 ρ => match look ρ r1, look ρ r2 with
      | some x, some y => (Res.of (Mlg.cmp o x y)).bind fun r => .ok (.val (.bool r), ρ)
      | _, _ => .no) (fun ρ F H' r1 r2 x y H0 S h1 h2 h => cmp_case S h1 h2 h) (lb_tB q)
end
end Msd
/-! Sound7: tests, conditional expressions, chains. -/
namespace Msd
open PySem PySem.Spec PyProof.Rows L2 Mlg
section
variable {fnm : Nat → Option Str} {T : Errs} {call : CallT} {k : Nat} {N : List Str}
theorem e_neg {a : Mlg.E} (ia : PrE fnm T call k N a) : PrE fnm T call k N (.neg a) := by
  intro X W sc x C tk h
  unfold mE at h
  try dsimp only at h
  split at h
  · rename_i x p
    refine PE.imp (pe_un un_neg (ia X W sc x C tk h)) fun σ H Q q => ?_
    obtain ⟨ρ, F, S, q⟩ := q
    refine ⟨ρ, F, S, Out.bind back_E q fun r1 ρ1 v F1 H1 s1 S1 rl1 h1 => ?_⟩
    cases r1 with
    | val d =>
      cases d <;> first | exact h1.elim | skip
      cases rl1
      exact ⟨_, rfl, out_val S1 h1 (.int _)⟩
    | tmp _ => exact h1.elim
    | loc _ => exact h1.elim
  · cases h
/-- None is told from all else -/
theorem none_iff {K : Frag} {H0 : Hp} {σ : St} {ρ : Env} {F H : Hp} {v : V} {r : R} (h : RelR K H0 σ ρ F H v r) : decide (v = .non) = isNone r := by
  have nn : ∀ {p : Addr}, decide (V.ref p = .non) = false := fun {p} => decide_eq_false (fun z => by cases z)
  cases r with
  | val d =>
    cases d with
    | none => cases h; rfl
    | bool b => cases h; rfl
    | int b => cases h; rfl
    | str b => cases h; rfl
    | list b => cases h; exact nn
    | tuple b => cases h; exact nn
    | dict b =>
      have h : Rep K F v (.dict b) := h
      generalize e : PyData.dict b = d at h
      cases h <;> first | (cases e; done) | exact nn
  | tmp o => obtain ⟨p, rfl, _⟩ := h; exact nn
  | loc i => obtain ⟨_, p, rfl⟩ := h; exact nn
theorem val_isN {a : Mlg.E} {K : Frag} {W : WX} {σ : St} {H : Hp} {Q : VK} (q : LE T K W (Mlg.eval call (.isN a)) σ H Q) : tOp (fun x y H Q => y = .non ∧ Q (.bl (decide (x = .non))) H) (LE T K W (Mlg.eval call a)) (tC .non) σ H Q := by
  obtain ⟨ρ, F, S, q⟩ := q
  refine ⟨ρ, F, S, Out.bind back_E q fun r1 ρ1 v F1 H1 s1 S1 rl1 h1 => ⟨rfl, ?_⟩⟩
  rw [none_iff rl1]
  exact out_val S1 h1 (.bl _)
theorem val_ntN {a : Mlg.E} {K : Frag} {W : WX} {σ : St} {H : Hp} {Q : VK} (q : LE T K W (Mlg.eval call (.ntN a)) σ H Q) : tOp (fun x y H Q => y = .non ∧ Q (.bl (!decide (x = .non))) H) (LE T K W (Mlg.eval call a)) (tC .non) σ H Q := by
  obtain ⟨ρ, F, S, q⟩ := q
  refine ⟨ρ, F, S, Out.bind back_E q fun r1 ρ1 v F1 H1 s1 S1 rl1 h1 => ⟨rfl, ?_⟩⟩
  rw [none_iff rl1]
  exact out_val S1 h1 (.bl _)
theorem e_isN {a : Mlg.E} (ia : PrE fnm T call k N a) : PrE fnm T call k N (.isN a) ∧ PrT fnm T call k N (.isN a) := by
  have key : ∀ (X : Cx) (W : WX) (sc : Scope) (x : Expr), Cok fnm T call k N X sc → Takes X W → mE fnm N sc (.isN a) x = true → ∃ x' j p p', x = .Compare x' [.Is] [.Constant .none j p'] p ∧ PE X x' (LE T X.K W (Mlg.eval call a)) := by
    intro X W sc x C tk h
    unfold mE at h
    try dsimp only at h
    split at h
    · rename_i x' j p' p
      exact ⟨x', j, p, p', rfl, ia X W sc x' C tk h⟩
    · cases h
  constructor
  · intro X W sc x C tk h
    obtain ⟨x', j, p, p', rfl, h1⟩ := key X W sc x C tk h
    exact PE.imp (pe_cmpR op_isN h1 pe_non rfl) fun σ H Q q => val_isN q
  · intro X W sc x C tk ht h
    obtain ⟨x', j, p, p', rfl, h1⟩ := key X W sc x C tk h
    exact PT.imp (pt_cmpR op_isN h1 pe_non rfl) fun σ H Q q => val_isN (lb_tB q)
/-! ### is True, is False -/
theorem is_bb {M : Model} {A : Around} {E : Value → Shared → Prop} {s : Shared} {Q : Value → Shared → Prop} {a b : Bool} (h : Q (.bool (a == b)) s) : wpAny M A (compareOp .Is (.bool a) (.bool b)) Q E s := by
  cases a <;> cases b <;> exact wpAny_pure h
theorem isnt_bb {M : Model} {A : Around} {E : Value → Shared → Prop} {s : Shared} {Q : Value → Shared → Prop} {a b : Bool} (h : Q (.bool (!(a == b))) s) : wpAny M A (compareOp .IsNot (.bool a) (.bool b)) Q E s := by
  cases a <;> cases b <;> exact wpAny_pure h
theorem op_isB {X : Cx} (neg : Bool) : OpR X (compareOp (if neg = true then .IsNot else .Is)) (fun x y H Q => ∃ a b, x = .bl a ∧ y = .bl b ∧ Q (.bl ((a == b) != neg)) H) := by
  intro pn s σ H x y v u Q I rx ry h
  obtain ⟨a, b, rfl, rfl, q⟩ := h
  cases rx
  cases ry
  cases neg with
  | false => exact is_bb (fin_bl I q (by cases a <;> cases b <;> rfl))
  | true => exact isnt_bb (fin_bl I q (by cases a <;> cases b <;> rfl))
theorem val_isB {a : Mlg.E} {neg b : Bool} {K : Frag} {W : WX} {σ : St} {H : Hp} {Q : VK} (q : LE T K W (Mlg.eval call (.isB neg b a)) σ H Q) : tOp (fun x y H Q => ∃ a b, x = .bl a ∧ y = .bl b ∧ Q (.bl ((a == b) != neg)) H) (LE T K W (Mlg.eval call a)) (tC (.bl b)) σ H Q := by
  obtain ⟨ρ, F, S, q⟩ := q
  refine ⟨ρ, F, S, Out.bind back_E q fun r1 ρ1 v F1 H1 s1 S1 rl1 h1 => ?_⟩
  split at h1
  · rename_i y e
    have rl1 : Rep K F1 v (.bool y) := by
      have z := rl1
      rw [show r1 = .val (.bool y) from e] at z
      exact z
    cases rl1
    exact ⟨y, b, rfl, rfl, out_val S1 h1 (.bl _)⟩
  · exact h1.elim
theorem e_isB (neg b : Bool) {a : Mlg.E} (ia : PrE fnm T call k N a) : PrE fnm T call k N (.isB neg b a) ∧ PrT fnm T call k N (.isB neg b a) := by
  have key : ∀ (X : Cx) (W : WX) (sc : Scope) (x : Expr), Cok fnm T call k N X sc → Takes X W → mE fnm N sc (.isB neg b a) x = true → ∃ x' j p p', x = .Compare x' [if neg = true then .IsNot else .Is] [.Constant (.bool b) j p'] p ∧ PE X x' (LE T X.K W (Mlg.eval call a)) := by
    intro X W sc x C tk h
    unfold mE at h
    try dsimp only at h
    split at h
    · rename_i x' op c j p' p
      obtain ⟨h1, h2, h3⟩ := and3 h
      have h1 : op = _ := of_decide_eq_true h1
      subst h1
      cases c <;> first | (cases h2; done) | skip
      rename_i z
      have h2 : b = z := eq_of_beq h2
      subst h2
      exact ⟨x', j, p, p', rfl, ia X W sc x' C tk h3⟩
    · cases h
  constructor
  · intro X W sc x C tk h
    obtain ⟨x', j, p, p', rfl, h1⟩ := key X W sc x C tk h
    exact PE.imp (pe_cmpR (op_isB neg) h1 pe_bl (by cases neg <;> rfl)) fun σ H Q q => val_isB q
  · intro X W sc x C tk ht h
    obtain ⟨x', j, p, p', rfl, h1⟩ := key X W sc x C tk h
    exact PT.imp (pt_cmpR (op_isB neg) h1 pe_bl (by cases neg <;> rfl)) fun σ H Q q => val_isB (lb_tB q)
theorem e_ntN {a : Mlg.E} (ia : PrE fnm T call k N a) : PrE fnm T call k N (.ntN a) ∧ PrT fnm T call k N (.ntN a) := by
  have key : ∀ (X : Cx) (W : WX) (sc : Scope) (x : Expr), Cok fnm T call k N X sc → Takes X W → mE fnm N sc (.ntN a) x = true → ∃ x' j p p', x = .Compare x' [.IsNot] [.Constant .none j p'] p ∧ PE X x' (LE T X.K W (Mlg.eval call a)) := by
    intro X W sc x C tk h
    unfold mE at h
    try dsimp only at h
    split at h
    · rename_i x' j p' p
      exact ⟨x', j, p, p', rfl, ia X W sc x' C tk h⟩
    · cases h
  constructor
  · intro X W sc x C tk h
    obtain ⟨x', j, p, p', rfl, h1⟩ := key X W sc x C tk h
    exact PE.imp (pe_cmpR op_notN h1 pe_non rfl) fun σ H Q q => val_ntN q
  · intro X W sc x C tk ht h
    obtain ⟨x', j, p, p', rfl, h1⟩ := key X W sc x C tk h
    exact PT.imp (pt_cmpR op_notN h1 pe_non rfl) fun σ H Q q => val_ntN (lb_tB q)

/-! ### and, or, not -/
theorem asB_bind {α : Type} (m : Res (α × Env)) (kk : α × Env → Res (R × Env)) : asB (m.bind kk) = m.bind fun p => asB (kk p) := by
  cases m <;> rfl
theorem asB_ite {c : Prop} [Decidable c] (a b : Res (R × Env)) : asB (if c then a else b) = if c then asB a else asB b := by
  split <;> rfl
section
variable {K : Frag} {W : WX} {σ : St} {H : Hp}
theorem lb_and {a b : Mlg.E} {Q : Bool → Hp → Prop} (q : LB T K W (fun ρ => asB (Mlg.eval call (.and a b) ρ)) σ H Q) : tAnd (LB T K W fun ρ => asB (Mlg.eval call a ρ)) (LB T K W fun ρ => asB (Mlg.eval call b ρ)) σ H Q := by
  obtain ⟨ρ, F, S, q⟩ := q
  unfold Mlg.eval at q
  dsimp only at q
  rw [asB_bind] at q
  refine ⟨ρ, F, S, Out.bind back_T q fun r1 ρ1 c F1 H1 s1 S1 rl1 h1 => ?_⟩
  subst rl1
  rw [asB_ite] at h1
  cases c with
  | true => rw [if_pos rfl] at h1 ⊢; exact ⟨ρ1, F1, S1, h1⟩
  | false => rw [if_neg Bool.false_ne_true] at h1 ⊢; exact h1 false F1 H1 .refl S1 rfl
theorem lb_or {a b : Mlg.E} {Q : Bool → Hp → Prop} (q : LB T K W (fun ρ => asB (Mlg.eval call (.or a b) ρ)) σ H Q) : tOr (LB T K W fun ρ => asB (Mlg.eval call a ρ)) (LB T K W fun ρ => asB (Mlg.eval call b ρ)) σ H Q := by
  obtain ⟨ρ, F, S, q⟩ := q
  unfold Mlg.eval at q
  dsimp only at q
  rw [asB_bind] at q
  refine ⟨ρ, F, S, Out.bind back_T q fun r1 ρ1 c F1 H1 s1 S1 rl1 h1 => ?_⟩
  subst rl1
  rw [asB_ite] at h1
  cases c with
  | true => rw [if_pos rfl] at h1 ⊢; exact h1 true F1 H1 .refl S1 rfl
  | false => rw [if_neg Bool.false_ne_true] at h1 ⊢; exact ⟨ρ1, F1, S1, h1⟩
theorem lb_not {a : Mlg.E} {Q : Bool → Hp → Prop} (q : LB T K W (fun ρ => asB (Mlg.eval call (.not a) ρ)) σ H Q) : tNot (LB T K W fun ρ => asB (Mlg.eval call a ρ)) σ H Q := by
  obtain ⟨ρ, F, S, q⟩ := q
  unfold Mlg.eval at q
  dsimp only at q
  rw [asB_bind] at q
  refine ⟨ρ, F, S, Out.bind back_T q fun r1 ρ1 c F1 H1 s1 S1 rl1 h1 => ?_⟩
  subst rl1
  exact h1 (!c) F1 H1 .refl S1 rfl
theorem le_and {a b : Mlg.E} {Q : VK} (q : LE T K W (Mlg.eval call (.and a b)) σ H Q) : tAndV (LE T K W (Mlg.eval call a)) (LE T K W (Mlg.eval call b)) σ H Q := by
  obtain ⟨ρ, F, S, q⟩ := q
  unfold Mlg.eval at q
  refine ⟨ρ, F, S, ?_⟩
  refine out_asB (Q := fun c H1 => if c = true then LE T K W (Mlg.eval call b) σ H1 Q else Q (.bl false) H1) (Out.bind back_E q fun r1 ρ1 c F1 H1 s1 S1 rl1 h1 => ?_)
  subst rl1
  cases c with
  | true => rw [if_pos rfl] at h1 ⊢; exact ⟨ρ1, F1, S1, h1⟩
  | false => rw [if_neg Bool.false_ne_true] at h1 ⊢; exact out_val S1 h1 (.bl false)
theorem le_or {a b : Mlg.E} {Q : VK} (q : LE T K W (Mlg.eval call (.or a b)) σ H Q) : tOrV (LE T K W (Mlg.eval call a)) (LE T K W (Mlg.eval call b)) σ H Q := by
  obtain ⟨ρ, F, S, q⟩ := q
  unfold Mlg.eval at q
  refine ⟨ρ, F, S, ?_⟩
  refine out_asB (Q := fun c H1 => if c = true then Q (.bl true) H1 else LE T K W (Mlg.eval call b) σ H1 Q) (Out.bind back_E q fun r1 ρ1 c F1 H1 s1 S1 rl1 h1 => ?_)
  subst rl1
  cases c with
  | true => rw [if_pos rfl] at h1 ⊢; exact out_val S1 h1 (.bl true)
  | false => rw [if_neg Bool.false_ne_true] at h1 ⊢; exact ⟨ρ1, F1, S1, h1⟩
theorem le_not {a : Mlg.E} {Q : VK} (q : LE T K W (Mlg.eval call (.not a)) σ H Q) : tNotV (LE T K W (Mlg.eval call a)) σ H Q := by
  obtain ⟨ρ, F, S, q⟩ := q
  unfold Mlg.eval at q
  refine ⟨ρ, F, S, ?_⟩
  refine out_asB (Q := fun c H1 => Q (.bl (!c)) H1) (Out.bind back_E q fun r1 ρ1 c F1 H1 s1 S1 rl1 h1 => ?_)
  subst rl1
  exact out_val S1 h1 (.bl _)
theorem le_ite {c a b : Mlg.E} {Q : VK} (q : LE T K W (Mlg.eval call (.ite c a b)) σ H Q) : tIf (LB T K W fun ρ => asB (Mlg.eval call c ρ)) (LE T K W (Mlg.eval call a)) (LE T K W (Mlg.eval call b)) σ H Q := by
  obtain ⟨ρ, F, S, q⟩ := q
  unfold Mlg.eval at q
  refine ⟨ρ, F, S, Out.bind back_E q fun r1 ρ1 c F1 H1 s1 S1 rl1 h1 => ?_⟩
  subst rl1
  cases c with
  | true => rw [if_pos rfl] at h1 ⊢; exact ⟨ρ1, F1, S1, h1⟩
  | false => rw [if_neg Bool.false_ne_true] at h1 ⊢; exact ⟨ρ1, F1, S1, h1⟩
end
/-- a test whatever is around, for and | or -/
def PrW (fnm : Nat → Option Str) (T : Errs) (call : CallT) (k : Nat) (N : List Str) (e : Mlg.E) : Prop :=
  ∀ (X : Cx) (W : WX) (sc : Scope) (op : BoolOp) (xs : List Expr) (p : Pos), Cok fnm T call k N X sc → Takes X W → mE fnm N sc e (.BoolOp op xs p) = true → PW X (.BoolOp op xs p) (LB T X.K W fun ρ => asB (Mlg.eval call e ρ))
theorem e_and {a b : Mlg.E} (ia : PrE fnm T call k N a) (ta : PrT fnm T call k N a) (ib : PrE fnm T call k N b) (tb : PrT fnm T call k N b) (wb : PrW fnm T call k N b) : PrE fnm T call k N (.and a b) ∧ PrT fnm T call k N (.and a b) ∧ PrW fnm T call k N (.and a b) := by
  have w : PrW fnm T call k N (.and a b) := by
    intro X W sc op xs p C tk h
    unfold mE at h
    try dsimp only at h
    split at h
    · rename_i x y p' heq
      cases heq
      obtain ⟨t1, t2, h1⟩ := and3 h
      obtain ⟨h1, h2⟩ := and2 h1
      exact PW.imp (pw_and (ta X W sc x C tk t1 h1) (pw_and1 (tb X W sc y C tk t2 h2))) fun σ H Q q => lb_and q
    · rename_i x y z r p' heq
      cases heq
      obtain ⟨t1, t2, h1⟩ := and3 h
      obtain ⟨h1, h2⟩ := and2 h1
      exact PW.imp (pw_and (ta X W sc x C tk t1 h1) (wb X W sc _ _ _ C tk h2)) fun σ H Q q => lb_and q
    · cases h
  refine ⟨fun X W sc x C tk h => ?_, fun X W sc x C tk ht h => ?_, w⟩
  · unfold mE at h
    try dsimp only at h
    split at h
    · rename_i x y p'
      obtain ⟨t1, t2, h1⟩ := and3 h
      obtain ⟨h1, h2⟩ := and2 h1
      exact PE.imp (pe_and (ia X W sc x C tk h1) (pe_one (ib X W sc y C tk h2))) fun σ H Q q => le_and q
    · rename_i x y z r p'
      obtain ⟨t1, t2, h1⟩ := and3 h
      obtain ⟨h1, h2⟩ := and2 h1
      exact PE.imp (pe_and (ia X W sc x C tk h1) (ib X W sc _ C tk h2)) fun σ H Q q => le_and q
    · cases h
  · have h0 := h
    unfold mE at h
    try dsimp only at h
    split at h
    · exact (w X W sc _ _ _ C tk h0).pt
    · exact (w X W sc _ _ _ C tk h0).pt
    · cases h
theorem e_or {a b : Mlg.E} (ia : PrE fnm T call k N a) (ta : PrT fnm T call k N a) (ib : PrE fnm T call k N b) (tb : PrT fnm T call k N b) (wb : PrW fnm T call k N b) : PrE fnm T call k N (.or a b) ∧ PrT fnm T call k N (.or a b) ∧ PrW fnm T call k N (.or a b) := by
  have w : PrW fnm T call k N (.or a b) := by
    intro X W sc op xs p C tk h
    unfold mE at h
    try dsimp only at h
    split at h
    · rename_i x y p' heq
      cases heq
      obtain ⟨t1, t2, h1⟩ := and3 h
      obtain ⟨h1, h2⟩ := and2 h1
      exact PW.imp (pw_or (ta X W sc x C tk t1 h1) (pw_or1 (tb X W sc y C tk t2 h2))) fun σ H Q q => lb_or q
    · rename_i x y z r p' heq
      cases heq
      obtain ⟨t1, t2, h1⟩ := and3 h
      obtain ⟨h1, h2⟩ := and2 h1
      exact PW.imp (pw_or (ta X W sc x C tk t1 h1) (wb X W sc _ _ _ C tk h2)) fun σ H Q q => lb_or q
    · cases h
  refine ⟨fun X W sc x C tk h => ?_, fun X W sc x C tk ht h => ?_, w⟩
  · unfold mE at h
    try dsimp only at h
    split at h
    · rename_i x y p'
      obtain ⟨t1, t2, h1⟩ := and3 h
      obtain ⟨h1, h2⟩ := and2 h1
      exact PE.imp (pe_or (ia X W sc x C tk h1) (pe_one (ib X W sc y C tk h2))) fun σ H Q q => le_or q
    · rename_i x y z r p'
      obtain ⟨t1, t2, h1⟩ := and3 h
      obtain ⟨h1, h2⟩ := and2 h1
      exact PE.imp (pe_or (ia X W sc x C tk h1) (ib X W sc _ C tk h2)) fun σ H Q q => le_or q
    · cases h
  · have h0 := h
    unfold mE at h
    try dsimp only at h
    split at h
    · exact (w X W sc _ _ _ C tk h0).pt
    · exact (w X W sc _ _ _ C tk h0).pt
    · cases h
theorem e_not {a : Mlg.E} (ia : PrE fnm T call k N a) (ta : PrT fnm T call k N a) : PrE fnm T call k N (.not a) ∧ PrT fnm T call k N (.not a) := by
  refine ⟨fun X W sc x C tk h => ?_, fun X W sc x C tk ht h => ?_⟩
  · unfold mE at h
    try dsimp only at h
    split at h
    · rename_i x p
      obtain ⟨t1, h1⟩ := and2 h
      exact PE.imp (pe_not (ia X W sc x C tk h1)) fun σ H Q q => le_not q
    · cases h
  · unfold mE at h
    try dsimp only at h
    split at h
    · rename_i x p
      obtain ⟨t1, h1⟩ := and2 h
      exact PT.imp (pt_not (ta X W sc x C tk t1 h1)) fun σ H Q q => lb_not q
    · cases h
theorem e_ite {c a b : Mlg.E} (tc : PrT fnm T call k N c) (ia : PrE fnm T call k N a) (ib : PrE fnm T call k N b) : PrE fnm T call k N (.ite c a b) := by
  intro X W sc x C tk h
  unfold mE at h
  try dsimp only at h
  split at h
  · rename_i z x y p
    obtain ⟨t1, h1⟩ := and2 h
    obtain ⟨h1, h2, h3⟩ := and3 h1
    exact PE.imp (pe_ifExp (tc X W sc z C tk t1 h1) (ia X W sc x C tk h2) (ib X W sc y C tk h3)) fun σ H Q q => le_ite q
  · cases h
/-! ### chains -/
theorem le_chain {o o2 : Cm} {a b c : Mlg.E} {K : Frag} {W : WX} {σ : St} {H : Hp} {Q : VK} (q : LE T K W (Mlg.eval call (.chn o o2 a b c)) σ H Q) : tChain (rCmp K o) (rCmp K o2) (LE T K W (Mlg.eval call a)) (LE T K W (Mlg.eval call b)) (LE T K W (Mlg.eval call c)) σ H Q := by
  obtain ⟨ρ, F, S, q⟩ := q
  unfold Mlg.eval at q
  refine ⟨ρ, F, S, Out.bind back_E q fun r1 ρ1 x F1 H1 s1 S1 rl1 h1 => ⟨ρ1, F1, S1, Out.bind back_E h1 fun r2 ρ2 y F2 H2 s2 S2 rl2 h2 => ?_⟩⟩
  have rl1 := rl1.step S1 S2 s2
  try dsimp only at h2
  cases e1 : look ρ2 r1 with
  | none => rw [e1] at h2; exact h2.elim
  | some dx =>
    rw [e1] at h2
    cases r2 with
    | tmp _ => exact h2.elim
    | loc _ => exact h2.elim
    | val dy =>
      try dsimp only at h2
      cases ec : Mlg.cmp o dx dy with
      | none => rw [ec] at h2; exact h2.elim
      | some r =>
        rw [ec] at h2
        refine cmp_ok (Q := fun z H3 => ∃ k, z = .bl k ∧ (if k = true then LE T K W (Mlg.eval call c) σ H3 fun w' H4 => rCmp K o2 y w' H4 Q else Q (.bl false) H3)) S2.fh (look_ok S2 rl1 e1) (.inl (.inl rl2)) ec ⟨r, rfl, ?_⟩
        have h2 : Out T K W ρ2 F2 σ H2 (relE K σ) (if r = true then (Mlg.eval call c ρ2).bind fun s => match look s.2 s.1 with
            | some z => (Res.of (Mlg.cmp o2 dy z)).bind fun r2 => .ok (.val (.bool r2), s.2)
            | none => .no
          else .ok (.val (.bool false), ρ2)) Q := h2
        cases r with
        | false => rw [if_neg (by decide)] at h2 ⊢; exact out_val S2 h2 (.bl false)
        | true =>
          rw [if_pos rfl] at h2 ⊢
          refine ⟨ρ2, F2, S2, Out.bind back_E h2 fun r3 ρ3 z F3 H3 s3 S3 rl3 h3 => ?_⟩
          try dsimp only at h3
          cases e3 : look ρ3 r3 with
          | none => rw [e3] at h3; exact h3.elim
          | some dz =>
            rw [e3] at h3
            try dsimp only at h3
            cases ec3 : Mlg.cmp o2 dy dz with
            | none => rw [ec3] at h3; exact h3.elim
            | some b => rw [ec3] at h3; exact cmp_ok S3.fh (.inl (.inl (Rep.mono s3.ext rl2))) (look_ok S3 rl3 e3) ec3 (out_val S3 h3 (.bl b))
theorem e_chn (o o2 : Cm) {a b c : Mlg.E} (ia : PrE fnm T call k N a) (ib : PrE fnm T call k N b) (ic : PrE fnm T call k N c) : PrE fnm T call k N (.chn o o2 a b c) ∧ PrT fnm T call k N (.chn o o2 a b c) := by
  have key : ∀ (X : Cx) (W : WX) (sc : Scope) (x : Expr), Cok fnm T call k N X sc → Takes X W → mE fnm N sc (.chn o o2 a b c) x = true → ∃ x' y z p, x = .Compare x' [cmOf o, cmOf o2] [y, z] p ∧ plainX z = true ∧ PE X x' (LE T X.K W (Mlg.eval call a)) ∧ PE X y (LE T X.K W (Mlg.eval call b)) ∧ PE X z (LE T X.K W (Mlg.eval call c)) := by
    intro X W sc x C tk h
    unfold mE at h
    try dsimp only at h
    split at h
    · rename_i x' op op2 y z p
      obtain ⟨h1, hp, h2⟩ := and3 h
      obtain ⟨h1, h1'⟩ := and2 h1
      obtain ⟨h2, h3, h4⟩ := and3 h2
      have e : op = cmOf o := of_decide_eq_true h1
      have e' : op2 = cmOf o2 := of_decide_eq_true h1'
      subst e e'
      exact ⟨x', y, z, p, rfl, hp, ia X W sc x' C tk h2, ib X W sc y C tk h3, ic X W sc z C tk h4⟩
    · cases h
  have mk : ∀ {z y : Expr}, plainX z = true → lastMarks [cmOf o, cmOf o2] [y, z] = false := fun hp => plain_marks hp
  constructor
  · intro X W sc x C tk h
    obtain ⟨x', y, z, p, rfl, hp, h1, h2, h3⟩ := key X W sc x C tk h
    exact PE.imp (pe_chain (op_cmp o (by have := C.room.un; omega)) (op_cmp o2 (by have := C.room.un; omega)) h1 h2 h3 (mk hp)) fun σ H Q q => le_chain q
  · intro X W sc x C tk ht h
    obtain ⟨x', y, z, p, rfl, hp, h1, h2, h3⟩ := key X W sc x C tk h
    exact PT.imp (pt_chain (op_cmp o (by have := C.room.un; omega)) (op_cmp o2 (by have := C.room.un; omega)) h1 h2 h3 (mk hp)) fun σ H Q q => le_chain (lb_tB q)
end
end Msd
/-! SoundP: built-ins that the layer lacks: min, max of tuples; len(set(..)); sorted tuples. -/
namespace Msd
open PySem PySem.Spec PyProof.Rows PySem.W L2 Mlg
section
variable {X : Cx}
theorem dp_ints {K : Frag} {H : Hp} : ∀ ns : List Int, DpAll K H (ns.map V.int) (ns.map PyData.int)
  | [] => .nil
  | n :: r => .cons (.int n) (dp_ints r)
theorem alikeAll_ints (ns : List Int) : AlikeAll (ns.map PyData.int) := by
  refine ⟨fun x hx y hy => ?_, fun x hx => ?_⟩
  · obtain ⟨i, _, rfl⟩ := List.mem_map.mp hx
    obtain ⟨j, _, rfl⟩ := List.mem_map.mp hy
    rfl
  · obtain ⟨i, _, rfl⟩ := List.mem_map.mp hx
    exact fun z => by cases z
theorem minI_fold : ∀ (ns : List Int) (n : Int), ns.foldl min n = minI n ns
  | [], _ => rfl
  | k :: r, n => by
    rw [List.foldl_cons, minI_fold r]
    show minI (min n k) r = minI (if k < n then k else n) r
    congr 1
    split <;> omega
theorem maxI_fold : ∀ (ns : List Int) (n : Int), ns.foldl max n = maxI n ns
  | [], _ => rfl
  | k :: r, n => by
    rw [List.foldl_cons, maxI_fold r]
    show maxI (max n k) r = maxI (if k > n then k else n) r
    congr 1
    split <;> omega
def rMinM (K : Frag) (f : Int → List Int → Int) : List V → Hp → VK → Prop := fun xs H Q => ∃ (a : Addr) (n : Int) (ns : List Int), xs = [.ref a] ∧ (SqL K H a ((n :: ns).map V.int) ∨ SqT K H a ((n :: ns).map V.int)) ∧ Q (.int (f n ns)) H
theorem cr_minM (hc : X.calm = true) (hu : X.A.units + 1 < cLine) : CallR X (.builtin "min") (rMinM X.K minI) := by
  intro pins s σ H xs us Q I r h
  obtain ⟨a, n, ns, rfl, hs, q⟩ := h
  rw [Vals.ref1 r]
  have fin : ∀ (v : Value) (h' : Heap) (tk : Nat) (bs : List Addr), Reads h' v (minD (.int n) (ns.map .int)) bs → (∀ b o, s.heap.get? b = some o → h'.get? b = some o) → EP X pins σ Q v { s with heap := h', toks := tk } := by
    intro v h' tk bs rd hk
    rw [minD_ints, minI_fold] at rd
    cases rd
    exact ⟨.int _, H, I.kept hk, ⟨_, rfl⟩, q⟩
  have hd : X.A.units + 1 + PyData.depthAll ((n :: ns).map PyData.int) < cLine := by rw [depth_ints]; exact hu
  rcases hs with hs | hs
  · obtain ⟨its, rv, hl, _⟩ := I.list hs
    obtain ⟨as, ra⟩ := Dp.readsAll I _ _ _ (dp_ints (n :: ns)) rv
    exact min_list_data (I.ok.hd hc) hl.isList (x := .int n) (xs := ns.map .int) (by simpa using ra) (alikeAll_ints (n :: ns)) hd fun i v h' tk bs _ rd hk => fin v h' tk bs rd hk
  · obtain ⟨its, rv, hl, _⟩ := I.tuple hs
    obtain ⟨as, ra⟩ := Dp.readsAll I _ _ _ (dp_ints (n :: ns)) rv
    exact min_tuple_data (I.ok.hd hc) hl (x := .int n) (xs := ns.map .int) (by simpa using ra) (alikeAll_ints (n :: ns)) hd fun i v h' tk bs _ rd hk => fin v h' tk bs rd hk
theorem cr_maxM (hc : X.calm = true) (hu : X.A.units + 1 < cLine) : CallR X (.builtin "max") (rMinM X.K maxI) := by
  intro pins s σ H xs us Q I r h
  obtain ⟨a, n, ns, rfl, hs, q⟩ := h
  rw [Vals.ref1 r]
  have fin : ∀ (v : Value) (h' : Heap) (tk : Nat) (bs : List Addr), Reads h' v (maxD (.int n) (ns.map .int)) bs → (∀ b o, s.heap.get? b = some o → h'.get? b = some o) → EP X pins σ Q v { s with heap := h', toks := tk } := by
    intro v h' tk bs rd hk
    rw [maxD_ints, maxI_fold] at rd
    cases rd
    exact ⟨.int _, H, I.kept hk, ⟨_, rfl⟩, q⟩
  have hd : X.A.units + 1 + PyData.depthAll ((n :: ns).map PyData.int) < cLine := by rw [depth_ints]; exact hu
  rcases hs with hs | hs
  · obtain ⟨its, rv, hl, _⟩ := I.list hs
    obtain ⟨as, ra⟩ := Dp.readsAll I _ _ _ (dp_ints (n :: ns)) rv
    exact max_list_data (I.ok.hd hc) hl.isList (x := .int n) (xs := ns.map .int) (by simpa using ra) (alikeAll_ints (n :: ns)) hd fun i v h' tk bs _ rd hk => fin v h' tk bs rd hk
  · obtain ⟨its, rv, hl, _⟩ := I.tuple hs
    obtain ⟨as, ra⟩ := Dp.readsAll I _ _ _ (dp_ints (n :: ns)) rv
    exact max_tuple_data (I.ok.hd hc) hl (x := .int n) (xs := ns.map .int) (by simpa using ra) (alikeAll_ints (n :: ns)) hd fun i v h' tk bs _ rd hk => fin v h' tk bs rd hk
/-! ### len(set(xs)) -/
theorem dd_mem : ∀ (ns acc : List Int) (k : Int), k ∈ ns.foldl step_dedup acc ↔ k ∈ acc ∨ k ∈ ns
  | [], acc, k => by simp
  | n :: r, acc, k => by
    rw [List.foldl_cons, dd_mem r]
    unfold step_dedup
    split
    · rename_i h
      have : n ∈ acc := by simpa using h
      constructor
      · rintro (h | h)
        · exact .inl h
        · exact .inr (List.mem_cons_of_mem _ h)
      · rintro (h | h)
        · exact .inl h
        · rcases List.mem_cons.mp h with rfl | h
          · exact .inl this
          · exact .inr h
    · simp [List.mem_append, or_assoc]
theorem dd_nodup : ∀ (ns acc : List Int), acc.Nodup → (ns.foldl step_dedup acc).Nodup
  | [], _, h => h
  | n :: r, acc, h => by
    rw [List.foldl_cons]
    refine dd_nodup r _ ?_
    unfold step_dedup
    split
    · exact h
    · rename_i hn
      have hn : n ∉ acc := by simpa using hn
      rw [List.nodup_append]
      exact ⟨h, by simp, fun a ha b hb => by rw [List.mem_singleton] at hb; subst hb; exact fun z => hn (z ▸ ha)⟩
theorem firstMet_all (ns : List Int) : firstMet (fun i => ns.getD i 0) ns.length = ns.foldl step_dedup [] := by
  unfold firstMet
  congr 1
  apply List.ext_getElem?
  intro i
  rw [List.getElem?_map]
  by_cases h : i < ns.length
  · rw [List.getElem?_range h, List.getElem?_eq_getElem h]
    simp [List.getD_eq_getElem?_getD, List.getElem?_eq_getElem h]
  · rw [List.getElem?_eq_none (by simpa using h), List.getElem?_eq_none (by omega)]
    rfl
def tLenSetM (K : Frag) (ta : TE) : TE := fun σ H Q => ta σ H fun x H1 => ∃ (l : Addr) (ns : List Int), x = .ref l ∧ (SqL K H1 l (ns.map V.int) ∨ SqT K H1 l (ns.map V.int)) ∧ ns.length ≤ 4000 ∧ Q (.int (ns.foldl step_dedup []).length) H1
theorem pe_lenSetM {a : Expr} {ta : TE} {p p2 q pos : Pos} (hc : X.calm = true) (hg : Gl X "len") (hm : X.mg "len" = none) (hg2 : Gl X "set") (hm2 : X.mg "set" = none) (ha : PE X a ta)
    (na : starEach [a] X.env = (false, PySem.eval a X.env) :: starEach [] X.env) : PE X (.Call (.Name "len" p) [.Call (.Name "set" p2) [a] [] q] [] pos) (tLenSetM X.K ta) := by
  refine ⟨fun pins s σ H Q I h => ?_⟩
  refine Call_ (ld_blt I hg hm boot_len ?_)
  refine PyProof.Rows.callWith_builtin1 (PyProof.Rows.args_cons ?_ rfl) rfl rfl
  refine Call_ (ld_blt I hg2 hm2 boot_set ?_)
  refine PyProof.Rows.callWith_type1 (PyProof.Rows.args_cons (thn (ha.run pins s σ H _ I h) fun v s1 ⟨x, H1, I1, r1, q1⟩ => PyProof.Rows.args_nil ?_) na) na rfl
  obtain ⟨l, ns, rfl, hq, hl, q1⟩ := q1
  cases r1
  rcases hq with hq | hq
  · obtain ⟨its, r, pl, hz⟩ := I1.list hq
    have hlen : its.toArray.size = ns.length := by rw [List.size_toArray, ← r.length, List.length_map]
    refine call_set_list (I1.ok.hd hc) pl.isList (by simpa using r.ints) (by rw [hlen]; unfold scanBound; omega) fun h' tk hS hk => ?_
    refine PyProof.Rows.args_nil ?_
    rw [hlen, firstMet_all] at hS
    obtain ⟨o, es, ep, t, ho, hex, hd, _, _, hsb, hf, hn⟩ := hS
    have I2 : Inv X pins σ H1 { s1 with heap := h', toks := tk } := I1.kept fun b o e => hk b o (Heap.lt_size e) e
    exact call_len_set ho hex hd hf (by unfold scanBound at hsb; omega) ⟨.int _, H1, I2.tok _, ⟨_, by rw [hn]⟩, q1⟩
  · obtain ⟨its, r, pl, hz⟩ := I1.tuple hq
    refine call_set_tupI ns (I1.ok.hd hc) pl (by simpa using r.ints) (by unfold scanBound; omega) fun h' tk c hS _ hk => ?_
    refine PyProof.Rows.args_nil ?_
    obtain ⟨o, es, ep, t, ho, hex, hd, _, hnd, hmem, hsb, hf, hn, _⟩ := hS
    have I2 : Inv X pins σ H1 { s1 with heap := h', toks := tk } := I1.kept hk
    have hp : (es.toList.map keyOf).Perm (ns.foldl step_dedup []) := by
      rw [List.perm_ext_iff_of_nodup hnd (dd_nodup ns [] List.nodup_nil)]
      intro k
      rw [← hmem k, dd_mem]
      simp
    have hs : es.size = (ns.foldl step_dedup []).length := by
      have := hp.length_eq
      simpa using this
    exact call_len_set ho hex hd hf (by unfold scanBound at hsb; omega) ⟨.int _, H1, I2.tok _, ⟨_, by rw [hs]⟩, q1⟩
/-! ### sorted(xs) of data -/
theorem vals_each : ∀ {vs : List V} {us : List Value} {ds : List PyData}, Vals vs us → vs.length = ds.length → EachIs (fun u (b : V × PyData) => RelV b.1 u) us (vs.zip ds)
  | _, _, [], .nil, _ => .nil
  | _, _, _ :: _, .nil, h => by simp at h
  | _, _, [], .cons _ _, h => by simp at h
  | _, _, _ :: _, .cons r t, h => .cons r (vals_each t (by simpa using h))
theorem each_vals : ∀ {us : List Value} {bs : List (V × PyData)}, EachIs (fun u (b : V × PyData) => RelV b.1 u) us bs → Vals (bs.map (·.1)) us
  | _, _, .nil => .nil
  | _, _, .cons h t => .cons h (each_vals t)
theorem reads_each {h : Heap} : ∀ {vs : List V} {us : List Value} {ds : List PyData} {as : List Addr}, ReadsAll h us ds as → vs.length = ds.length → EachIs (fun u (b : V × PyData) => ∃ as, Reads h u b.2 as) us (vs.zip ds)
  | [], _, _, _, .nil, _ => .nil
  | _ :: _, _, _, _, .nil, h => by simp at h
  | [], _, _, _, .cons _ _, h => by simp at h
  | _ :: vs, _, _, _, .cons r t, h => .cons ⟨_, r⟩ (reads_each (vs := vs) t (by simpa using h))
theorem dpAll_len {K : Frag} {H : Hp} : ∀ {vs : List V} {ds : List PyData}, DpAll K H vs ds → vs.length = ds.length
  | _, _, .nil => rfl
  | _, _, .cons _ t => by simp [dpAll_len t]
theorem zip_snd : ∀ {vs : List V} {ds : List PyData}, vs.length = ds.length → (vs.zip ds).map (·.2) = ds
  | [], [], _ => rfl
  | [], _ :: _, h => by simp at h
  | _ :: _, [], h => by simp at h
  | _ :: vs, _ :: ds, h => by simp [zip_snd (vs := vs) (ds := ds) (by simpa using h)]
def rSortM (K : Frag) : List V → Hp → VK → Prop := fun xs H Q => ∃ (a : Addr) (vs : List V) (ds : List PyData), xs = [.ref a] ∧ SqL K H a vs ∧ DpAll K H vs ds ∧ AllAlike ds ∧ Sortable ds ∧ (∀ d ∈ ds, d.depth ≤ 8) ∧
  ∀ p, H p = none → Q (.ref p) (upd H p (.lst (((vs.zip ds).mergeSort (dataLe false (·.2))).map (·.1))))
theorem cr_sortM (hu : X.A.units + 64 < cLine) : CallR X (.builtin "sorted") (rSortM X.K) := by
  intro pins s σ H xs us Q I r h
  obtain ⟨a, vs, ds, rfl, hs, hd, hal, hso, hdp, q⟩ := h
  rw [Vals.ref1 r]
  obtain ⟨its, rv, hl, hz⟩ := I.list hs
  obtain ⟨as, ra⟩ := Dp.readsAll I _ _ _ hd rv
  have hlen := dpAll_len hd
  have e2 := zip_snd hlen
  refine sorted_data (vs := its) (bs := vs.zip ds) (enc := (·.2)) (R := fun u (b : V × PyData) => RelV b.1 u) hl.isList (vals_each rv hlen) (reads_each ra hlen) (by rw [e2]; exact hal) (by rw [e2]; exact hso) (by rw [List.length_zip, ← hlen, Nat.min_self]; exact hz) (fun b hb => ?_) fun out ho he => ?_
  · have : b.2 ∈ ds := by rw [← e2]; exact List.mem_map_of_mem hb
    have := hdp _ this
    omega
  · obtain ⟨ep, he'⟩ := PyProof.Rows.sortedAll_at s.heap its out.toArray
    have rv' := each_vals he
    have hl2 : (((vs.zip ds).mergeSort (dataLe false (·.2))).map (·.1)).length ≤ sizeLine := by
      rw [List.length_map, List.length_mergeSort, List.length_zip, ← hlen, Nat.min_self]
      exact hz
    exact ⟨.ref _, upd H (s.heap.objs.size + 1) (.lst _), I.laid (t' := s.toks) (fun _ _ => PyProof.Rows.sortedAll_old) (Nat.le_succ _) ⟨hl2, out, ep, rv', he'⟩, rfl, q _ (I.hok.fresh (Nat.le_succ _))⟩
/-- an int, or a tuple of ints that is not empty -/
inductive Ky : PyData → Prop
  | int (i : Int) : Ky (.int i)
inductive Kt : PyData → Prop
  | tup (i : Int) (is : List Int) : Kt (.tuple ((i :: is).map .int))
theorem tupI_ok {d : PyData} (h : tupI d = true) : Kt d := by
  cases d <;> first | (cases h; done) | skip
  rename_i xs
  cases xs with
  | nil => cases h
  | cons x xs =>
    have h : (Mlg.intsD (x :: xs)).isSome = true := h
    obtain ⟨is, e⟩ := Option.isSome_iff_exists.mp h
    have e2 := ints_map e
    cases is with
    | nil => simp at e2
    | cons i is => rw [e2]; exact .tup i is
/-- two of one kind -/
structure Kin (P : PyData → Prop) : Prop where
  lt : ∀ x y, P x → P y → dataLt x y = ltD x y
  anti : ∀ x y, P x → P y → ltD x y = false → ltD y x = false → x = y
  tr : ∀ x y z, P x → P y → P z → ltD y x = false → ltD z y = false → ltD z x = false
  tot : ∀ x y, P x → P y → ltD x y = true → ltD y x = false
theorem kin_int : Kin Ky := by
  refine ⟨?_, ?_, ?_, ?_⟩
  · rintro _ _ ⟨i⟩ ⟨j⟩; exact dataLt_int i j
  · rintro _ _ ⟨i⟩ ⟨j⟩ h1 h2
    have h1 : ¬ i < j := of_decide_eq_false h1
    have h2 : ¬ j < i := of_decide_eq_false h2
    congr 1; omega
  · rintro _ _ _ ⟨i⟩ ⟨j⟩ ⟨k⟩ h1 h2
    have h1 : ¬ j < i := of_decide_eq_false h1
    have h2 : ¬ k < j := of_decide_eq_false h2
    exact decide_eq_false (by omega)
  · rintro _ _ ⟨i⟩ ⟨j⟩ h1
    have h1 : i < j := of_decide_eq_true h1
    exact decide_eq_false (by omega)
theorem ltD_tup (a b : List Int) : ltD (.tuple (a.map .int)) (.tuple (b.map .int)) = decide (a < b) := by
  show (match Mlg.intsD (a.map .int), Mlg.intsD (b.map .int) with | some a, some b => ltInts a b | _, _ => false) = _
  rw [map_ints, map_ints]
  exact ltInts_eq a b
theorem kin_tup : Kin Kt := by
  refine ⟨?_, ?_, ?_, ?_⟩
  · rintro _ _ ⟨i, a⟩ ⟨j, b⟩; exact kt_lt
  · rintro _ _ ⟨i, a⟩ ⟨j, b⟩ h1 h2
    rw [ltD_tup] at h1 h2
    have h1 := List.not_lt.mp (of_decide_eq_false h1)
    have h2 := List.not_lt.mp (of_decide_eq_false h2)
    rw [List.le_antisymm h2 h1]
  · rintro _ _ _ ⟨i, a⟩ ⟨j, b⟩ ⟨k, c⟩ h1 h2
    rw [ltD_tup] at h1 h2 ⊢
    have h1 := List.not_lt.mp (of_decide_eq_false h1)
    have h2 := List.not_lt.mp (of_decide_eq_false h2)
    exact decide_eq_false (List.not_lt.mpr (List.le_trans h1 h2))
  · rintro _ _ ⟨i, a⟩ ⟨j, b⟩ h1
    rw [ltD_tup] at h1 ⊢
    have h1 : (i :: a) < (j :: b) := of_decide_eq_true h1
    exact decide_eq_false (List.lt_asymm h1)
theorem insD_perm {x : PyData} : ∀ ys : List PyData, (insD x ys).Perm (x :: ys)
  | [] => .refl _
  | y :: ys => by
    unfold insD
    split
    · exact ((insD_perm ys).cons y).trans (.swap _ _ _)
    · exact .refl _
theorem sortD_perm : ∀ xs : List PyData, (sortD xs).Perm xs
  | [] => .refl _
  | x :: xs => (insD_perm _).trans ((sortD_perm xs).cons x)
theorem insD_sorted {P : PyData → Prop} (k : Kin P) {x : PyData} (hx : P x) : ∀ {ys : List PyData}, (∀ y ∈ ys, P y) → ys.Pairwise (fun a b => ltD b a = false) → (insD x ys).Pairwise (fun a b => ltD b a = false)
  | [], _, _ => by unfold insD; exact List.pairwise_singleton _ _
  | y :: ys, hP, hs => by
    obtain ⟨h1, h2⟩ := List.pairwise_cons.mp hs
    have hy := hP y List.mem_cons_self
    unfold insD
    split
    · rename_i c
      refine List.pairwise_cons.mpr ⟨fun z hz => ?_, insD_sorted k hx (fun z hz => hP z (List.mem_cons_of_mem _ hz)) h2⟩
      rcases List.mem_cons.mp ((insD_perm ys).mem_iff.mp hz) with rfl | hz
      · exact k.tot _ _ hy hx c
      · exact h1 z hz
    · rename_i c
      have c : ltD y x = false := by simpa using c
      refine List.pairwise_cons.mpr ⟨fun z hz => ?_, hs⟩
      rcases List.mem_cons.mp hz with rfl | hz
      · exact c
      · exact k.tr x y z hx hy (hP z (List.mem_cons_of_mem _ hz)) c (h1 z hz)
theorem sortD_sorted {P : PyData → Prop} (k : Kin P) : ∀ {xs : List PyData}, (∀ x ∈ xs, P x) → (sortD xs).Pairwise (fun a b => ltD b a = false)
  | [], _ => List.Pairwise.nil
  | x :: xs, h => insD_sorted k (h x List.mem_cons_self) (fun y hy => h y (List.mem_cons_of_mem _ ((sortD_perm xs).mem_iff.mp hy))) (sortD_sorted k fun y hy => h y (List.mem_cons_of_mem _ hy))
theorem one_sort {P : PyData → Prop} (k : Kin P) : ∀ {l m : List PyData}, l.Perm m → (∀ x ∈ l, P x) → l.Pairwise (fun a b => ltD b a = false) → m.Pairwise (fun a b => ltD b a = false) → l = m
  | [], m, p, _, _, _ => by rw [List.nil_perm.mp p]
  | x :: l, [], p, _, _, _ => by simpa using p.length_eq
  | x :: l, y :: m, p, hP, hl, hm => by
    obtain ⟨a1, a2⟩ := List.pairwise_cons.mp hl
    obtain ⟨b1, b2⟩ := List.pairwise_cons.mp hm
    have hy : y ∈ x :: l := p.symm.mem_iff.mp List.mem_cons_self
    have hx : x ∈ y :: m := p.mem_iff.mp List.mem_cons_self
    have e : x = y := by
      rcases List.mem_cons.mp hy with h | hy
      · exact h.symm
      · rcases List.mem_cons.mp hx with h | hx
        · exact h
        · exact k.anti x y (hP x List.mem_cons_self) (hP y (List.mem_cons_of_mem _ hy)) (b1 x hx) (a1 y hy)
    subst e
    rw [one_sort k (List.perm_cons x |>.mp p) (fun z hz => hP z (List.mem_cons_of_mem _ hz)) a2 b2]
/-- the layer's sort is this one -/
theorem sort_same {P : PyData → Prop} (k : Kin P) {vs : List V} {ds : List PyData} (hl : vs.length = ds.length) (hP : ∀ d ∈ ds, P d) : ((vs.zip ds).mergeSort (dataLe false (·.2))).map (·.2) = sortD ds := by
  have p1 : (((vs.zip ds).mergeSort (dataLe false (·.2))).map (·.2)).Perm ds := by
    have := (List.mergeSort_perm (vs.zip ds) (dataLe false (·.2))).map (·.2)
    rw [zip_snd hl] at this
    exact this
  have hmem : ∀ b ∈ vs.zip ds, P b.2 := fun b hb => hP _ (by rw [← zip_snd hl]; exact List.mem_map_of_mem hb)
  refine one_sort k (p1.trans (sortD_perm ds).symm) (fun x hx => hP x (p1.mem_iff.mp hx)) ?_ (sortD_sorted k hP)
  rw [List.pairwise_map]
  have q := sort_pairwise (α := V × PyData) (le := dataLe false (·.2)) (sortLe_total _ _ _) (vs.zip ds)
  refine List.Pairwise.imp_of_mem (fun {x y} hx hy h => ?_) q
  have hx := hmem x ((List.mergeSort_perm _ _).mem_iff.mp hx)
  have hy := hmem y ((List.mergeSort_perm _ _).mem_iff.mp hy)
  have h : (!dataLt y.2 x.2) = true := h
  rw [k.lt _ _ hy hx] at h
  simpa using h
end
end Msd
/-! SoundD: dicts. -/
namespace Msd
open PySem PySem.Spec PyProof.Rows L2 Mlg
/-! ### keys -/
def encK : Key → D := keyD
def encT (k : List Key) : D := .tuple (k.map keyD)
theorem eqv_keyD (a b : Key) : Mlg.eqv (keyD a) (keyD b) = decide (b = a) := by
  cases a with
  | inl i =>
    cases b with
    | inl j =>
      show (i == j) = _
      by_cases h : i = j
      · subst h; simp
      · have : ¬ (Sum.inl j : Key) = Sum.inl i := fun z => h (Sum.inl.inj z).symm
        rw [decide_eq_false this]
        simpa using h
    | inr y =>
      have : ¬ (Sum.inr y : Key) = Sum.inl i := fun z => by cases z
      rw [decide_eq_false this]
      rfl
  | inr x =>
    cases b with
    | inl j =>
      have : ¬ (Sum.inl j : Key) = Sum.inr x := fun z => by cases z
      rw [decide_eq_false this]
      rfl
    | inr y =>
      show (x == y) = _
      by_cases h : x = y
      · subst h; simp
      · have : ¬ (Sum.inr y : Key) = Sum.inr x := fun z => h (Sum.inr.inj z).symm
        rw [decide_eq_false this]
        simpa using h
theorem eqv_keysD : ∀ a b : List Key, Mlg.eqvAll (a.map keyD) (b.map keyD) = decide (b = a)
  | [], [] => rfl
  | [], _ :: _ => by simp [Mlg.eqvAll]
  | _ :: _, [] => by simp [Mlg.eqvAll]
  | x :: xs, y :: ys => by
    show (Mlg.eqv (keyD x) (keyD y) && Mlg.eqvAll (xs.map keyD) (ys.map keyD)) = _
    rw [eqv_keyD, eqv_keysD xs ys, ← Bool.decide_and]
    congr 1
    simp
theorem eqv_encT (a b : List Key) : Mlg.eqv (encT a) (encT b) = decide (b = a) := eqv_keysD a b
section
variable {K : Frag} {F H : Hp} {κ : Type} [DecidableEq κ] {enc : κ → D}
theorem assoc_find (hE : ∀ a b, Mlg.eqv (enc a) (enc b) = decide (b = a)) (k : κ) : ∀ {ks : List κ} {vs : List V} {ds : List D}, ks.length = vs.length → Reps K F vs ds →
    (∀ p, ((ks.map enc).zip ds).find? (fun q => Mlg.eqv (enc k) q.1) = some p → ∃ v, valV (ks.zip vs) k = some v ∧ Rep K F v p.2) ∧
    (((ks.map enc).zip ds).any fun q => Mlg.eqv (enc k) q.1) = (valV (ks.zip vs) k).isSome
  | [], [], [], _, .nil => ⟨fun p h => by simp at h, rfl⟩
  | a :: ks, v :: vs, d :: ds, hl, .cons h r => by
    obtain ⟨h1, h2⟩ := assoc_find hE k (ks := ks) (by simpa using hl) r
    rw [List.map_cons, List.zip_cons_cons, List.zip_cons_cons]
    by_cases e : a = k
    · subst e
      rw [valV_pos (p := (a, v)) rfl]
      constructor
      · intro p hp
        rw [List.find?_cons_of_pos (by simp [hE])] at hp
        cases hp
        exact ⟨v, rfl, h⟩
      · simp [hE]
    · rw [valV_neg (p := (a, v)) e]
      constructor
      · intro p hp
        rw [List.find?_cons_of_neg (by simp [hE, e])] at hp
        exact h1 p hp
      · rw [List.any_cons, h2]
        simp [hE, e]
theorem zip_repl {k : κ} {v : V} {d : D} (hE : ∀ a b, Mlg.eqv (enc a) (enc b) = decide (b = a)) (hv : Rep K F v d) : ∀ {ks : List κ} {vs : List V} {ds : List D}, ks.length = vs.length → Reps K F vs ds →
    ∃ (vs' : List V) (ds' : List D), ((ks.zip vs).map fun kv => if kv.1 = k then (kv.1, v) else kv) = ks.zip vs' ∧ ks.length = vs'.length ∧ Reps K F vs' ds' ∧ (((ks.map enc).zip ds).map fun p => if Mlg.eqv (enc k) p.1 = true then (p.1, d) else p) = (ks.map enc).zip ds'
  | [], [], [], _, .nil => ⟨[], [], rfl, rfl, .nil, rfl⟩
  | a :: ks, w :: vs, e :: ds, hl, .cons h r => by
    obtain ⟨vs', ds', h1, h2, h3, h4⟩ := zip_repl hE hv (ks := ks) (by simpa using hl) r
    rw [List.map_cons, List.zip_cons_cons, List.zip_cons_cons, List.map_cons, List.map_cons, h1, h4]
    by_cases ea : a = k
    · subst ea
      refine ⟨v :: vs', d :: ds', ?_, by simp [h2], .cons hv h3, ?_⟩
      · simp
      · simp [hE]
    · refine ⟨w :: vs', e :: ds', ?_, by simp [h2], .cons h h3, ?_⟩
      · simp [ea]
      · simp [hE, ea]
theorem assoc_set (hE : ∀ a b, Mlg.eqv (enc a) (enc b) = decide (b = a)) {ks : List κ} {vs : List V} {ds : List D} {k : κ} {v : V} {d : D} (hl : ks.length = vs.length) (r : Reps K F vs ds) (hv : Rep K F v d) :
    ∃ (ks' : List κ) (vs' : List V) (ds' : List D), putK (ks.zip vs) k v = ks'.zip vs' ∧ ks'.length = vs'.length ∧ Reps K F vs' ds' ∧ setKey ((ks.map enc).zip ds) (enc k) d = (ks'.map enc).zip ds' := by
  have ha := (assoc_find hE k hl r).2
  unfold putK setKey
  rw [valV_any, ← ha]
  by_cases c : ((ks.map enc).zip ds).any (fun q => Mlg.eqv (enc k) q.1) = true
  · rw [if_pos c, if_pos c]
    obtain ⟨vs', ds', h1, h2, h3, h4⟩ := zip_repl (k := k) hE hv hl r
    exact ⟨ks, vs', ds', h1, h2, h3, h4⟩
  · rw [if_neg c, if_neg c]
    refine ⟨ks ++ [k], vs ++ [v], ds ++ [d], ?_, by simp [hl], r.append (.cons hv .nil), ?_⟩
    · rw [List.zip_append hl]; rfl
    · rw [List.map_append, List.zip_append (by rw [List.length_map, hl, r.length])]; rfl
end
/-! ### what a dict is -/
section
variable {K : Frag} {F H : Hp}
/-- a dict at a, by its kind -/
def DicR (K : Frag) (F H : Hp) (a : Addr) (t : Bool) (kvs : List (D × D)) : Prop := ObjR K F H a (.dic t kvs)
theorem key_int {i : Int} : keyD (.inl i) = .int i := rfl
theorem kV_rep (k : Key) : Rep K F (kV k) (keyD k) := by
  cases k with
  | inl i => exact .int i
  | inr x => exact .str x
theorem kVs_reps : ∀ ks : List Key, Reps K F (ks.map kV) (ks.map keyD)
  | [] => .nil
  | k :: ks => .cons (kV_rep k) (kVs_reps ks)
theorem keyF_ok {d : D} {v : V} (h : keyT false d = true) (r : Rep K F v d) : ∃ k : Key, v = kV k ∧ d = keyD k := by
  cases d <;> first | (cases h; done) | skip
  · cases r; exact ⟨.inl _, rfl, rfl⟩
  · cases r; exact ⟨.inr _, rfl, rfl⟩
theorem intsK : ∀ {xs : List D} {vs : List V}, (xs.all fun d => match d with | .int _ => true | _ => false) = true → Reps K F vs xs → ∃ ks : List Key, vs = ks.map kV ∧ xs = ks.map keyD
  | [], [], _, .nil => ⟨[], rfl, rfl⟩
  | d :: ds, v :: vs, h, .cons hd r => by
    rw [List.all_cons] at h
    obtain ⟨h1, h2⟩ := Bool.and_eq_true_iff.mp h
    obtain ⟨ks, e1, e2⟩ := intsK h2 r
    cases d <;> first | (cases h1; done) | skip
    cases hd
    rename_i i
    exact ⟨.inl i :: ks, by rw [e1]; rfl, by rw [e2]; rfl⟩
theorem keyT_ok {d : D} {v : V} (fh : Same F H) (h : keyT true d = true) (r : Rep K F v d) : ∃ (k : List Key) (b : Addr), v = .ref b ∧ H b = some (.tup (k.map kV)) ∧ d = encT k := by
  cases d <;> first | (cases h; done) | skip
  rename_i xs
  cases r with
  | tup h1 h2 =>
    obtain ⟨ks, e1, e2⟩ := intsK h h2
    subst e1 e2
    exact ⟨ks, _, rfl, fh _ _ h1, rfl⟩
/-- what is found at a key -/
theorem dic_get {a : Addr} {t : Bool} {kvs : List (D × D)} {y : V} {kd : D} (fh : Same F H) (h : DicR K F H a t kvs) (hk : keyT t kd = true) (ry : Rep K F y kd) :
    ∃ o, DGet H a y o ∧ (∀ p, kvs.find? (fun q => Mlg.eqv kd q.1) = some p → ∃ v, o = some v ∧ Rep K F v p.2) ∧ (kvs.any fun q => Mlg.eqv kd q.1) = o.isSome := by
  cases t with
  | false =>
    obtain ⟨ks, vs, ds, h1, h2, h3, rfl⟩ := h
    obtain ⟨k, rfl, rfl⟩ := keyF_ok hk ry
    obtain ⟨g1, g2⟩ := assoc_find (enc := keyD) eqv_keyD k h2 h3
    exact ⟨_, DGet.k h1, fun p hp => g1 p hp, g2⟩
  | true =>
    obtain ⟨ks, vs, ds, h1, h2, h3, rfl⟩ := h
    obtain ⟨k, b, rfl, hb, rfl⟩ := keyT_ok fh hk ry
    obtain ⟨g1, g2⟩ := assoc_find (enc := encT) eqv_encT k h2 h3
    exact ⟨_, DGet.t h1 hb, fun p hp => g1 p hp, g2⟩
/-- .. and the heap behind a store -/
theorem dic_put {a : Addr} {t : Bool} {kvs : List (D × D)} {y v : V} {kd d : D} (fh : Same F H) (h : DicR K F H a t kvs) (hl : kvs.length < lim) (hk : keyT t kd = true) (ry : Rep K F y kd) (hv : Rep K F v d) :
    ∃ u, DPut H a y v (upd H a u) ∧ DicR K F (upd H a u) a t (setKey kvs kd d) := by
  have len : ∀ {α β γ : Type} {x : List α} {y : List β} {z : List γ}, x.length = y.length → y.length = z.length → (x.zip z).length < lim → (x.zip y).length < sizeLine := by
    intro α β γ x y z h1 h2 h3
    have := lim_le
    rw [List.length_zip] at h3 ⊢
    omega
  cases t with
  | false =>
    obtain ⟨ks, vs, ds, h1, h2, h3, rfl⟩ := h
    obtain ⟨k, rfl, rfl⟩ := keyF_ok hk ry
    obtain ⟨ks', vs', ds', e1, e2, e3, e4⟩ := assoc_set (enc := keyD) eqv_keyD (k := k) h2 h3 hv
    refine ⟨_, DPut.k h1 (len h2 h3.length (by simpa using hl)), ks', vs', ds', ?_, e2, e3, e4⟩
    rw [upd_same, e1]
  | true =>
    obtain ⟨ks, vs, ds, h1, h2, h3, rfl⟩ := h
    obtain ⟨k, b, rfl, hb, rfl⟩ := keyT_ok fh hk ry
    obtain ⟨ks', vs', ds', e1, e2, e3, e4⟩ := assoc_set (enc := encT) eqv_encT (k := k) h2 h3 hv
    refine ⟨_, DPut.t h1 hb (len h2 h3.length (by simpa using hl)), ks', vs', ds', ?_, e2, e3, e4⟩
    rw [upd_same, e1]
/-! ### tuples that stand are tracked -/
theorem track1 {ρ : Env} {σ : St} (S : Sim K ρ F σ H) {b : Addr} {vs : List V} (h : H b = some (.tup vs)) : ∃ F', F' b = some (.tup vs) ∧ Sim K ρ F' σ H ∧ Step ρ σ F H ρ σ F' H := by
  cases e : F b with
  | some u =>
    have := S.fh _ _ e
    rw [h] at this
    cases this
    exact ⟨F, e, S, .refl⟩
  | none =>
    have hn : ¬ Own ρ σ b := fun q => S.ownNT q vs h
    refine ⟨_, upd_same, S.freezeNew h e hn, same_new e, fun _ _ q _ => q, fun _ q => q, fun _ q => .inl q, fun _ q => .inl q, fun q f _ _ nt => ?_⟩
    rw [upd_ne (show q ≠ b from fun z => nt vs (z ▸ h))]
    exact f
theorem track {ρ : Env} {σ : St} {kvs : List (List Key × V)} {bs : List Addr} (S : Sim K ρ F σ H) (h : IsKeys H kvs bs) : ∃ F', Reps K F' (bs.map V.ref) (kvs.map fun p => encT p.1) ∧ Sim K ρ F' σ H ∧ Step ρ σ F H ρ σ F' H := by
  unfold IsKeys at h
  induction h generalizing F with
  | nil => exact ⟨F, .nil, S, .refl⟩
  | cons h1 t ih =>
    obtain ⟨F1, a1, a2, a3⟩ := track1 S h1
    obtain ⟨F2, b1, b2, b3⟩ := ih a2
    exact ⟨F2, .cons (.tup (b3.ext _ _ a1) (kVs_reps _)) b1, b2, a3.trans b3⟩
end
/-! ### d[y] -/
section
variable {X : Cx}
def rIxDc : R2 := fun x y H Q => ∃ a v, x = .ref a ∧ DGet H a y (some v) ∧ Q v H
theorem ix_dic (hu : X.A.units + 1 < cLine) : IxR X rIxDc := by
  intro value slice pins s σ H x y v u Q I rx ry h hs
  obtain ⟨a, z, rfl, g, q⟩ := h
  obtain rfl : v = Value.ref a := rx
  exact tail_any (dict_typeIs I g) PySem.F.slot_dict_getitem.lookup (d_getItem hu I g ry fun w' s' I' rw' => ⟨z, H, I', rw', q⟩) hs
end
/-! ### list(d) -/
section
variable {T : Errs} {K : Frag} {W : WX} {ρ : Env} {F H : Hp} {σ : St} {Q : VK}
def rListT : List V → Hp → VK → Prop := fun xs H Q => ∃ d kvs, xs = [V.ref d] ∧ Rd H d (.dT kvs) ∧ ∀ p bs, H p = none → IsKeys H kvs bs → Q (.ref p) (upd H p (.lst (bs.map V.ref)))
end
/-! ### list(d.values()) -/
theorem atr_base {o : Expr} {m : Str} {env : PySem.Env} {x : Sem Value} (h : atrB o = true) : attributeBase o m env x = x := by
  cases o <;> first | rfl | cases h
section
variable {X : Cx} {o : Expr} {p pos apos mpos : Pos} {td : TE}
def tListVals (td : TE) : TE := fun σ H Q => td σ H fun x H1 => ∃ a kvs, x = V.ref a ∧ H1 a = some (.dK kvs) ∧ ∀ q, H1 q = none → Q (.ref q) (upd H1 q (.lst (kvs.map (·.2))))
theorem kv_vals : ∀ {kvs : List (Key × V)} {vs : List (Key × Value)}, KV kvs vs → Vals (kvs.map (·.2)) (vs.map (·.2)) := by
  intro kvs vs r
  unfold KV at r
  induction r with
  | nil => exact .nil
  | cons h t ih => exact .cons h.2 ih
theorem pe_listVals (hc : X.calm = true) (hg : Gl X "list") (hm : X.mg "list" = none) (hd : PE X o td) (hbase : attributeBase o "values" X.env (PySem.eval o X.env) = PySem.eval o X.env) (hline : (apos.endLine == mpos.line) = true)
    (na : starEach [Expr.Call (.Attribute o "values" apos) [] [] mpos] X.env = (false, PySem.eval (Expr.Call (.Attribute o "values" apos) [] [] mpos) X.env) :: starEach [] X.env := by rfl) :
    PE X (.Call (.Name "list" p) [.Call (.Attribute o "values" apos) [] [] mpos] [] pos) (tListVals td) := by
  refine ⟨fun pins s σ H Q I h => ?_⟩
  refine Call_ (ld_blt I hg hm boot_list (PyProof.Rows.callWith_type1 (args_cons (wpAny_Call_method0_late hbase hline (thn (hd.run pins s σ H _ I h) fun v s1 ⟨x, H1, I1, r1, a, kvs, ex, ha, q⟩ => ?_)) na) na))
  subst ex
  obtain rfl : v = Value.ref a := r1
  obtain ⟨hz, hsys, vs, rel, dof⟩ := dk_of I1.hok ha
  obtain ⟨ep, dat⟩ := dof.dictAt
  have dat' := dat
  obtain ⟨ob, es, ho, ex, hdat, hko, hpr, hnd⟩ := dat'
  refine ⟨"dict", "dict.values", F.plainAttrs_dict, F.slot_dict_values, F.type_dict_values, ⟨ob, ho, ex.1⟩, fun b e => ?_, Calls.callWith_builtin rfl (PySem.evalArgs_none ?_)⟩
  · cases e
    exact ⟨ob, ho, ex.2.1⟩
  refine call_meetsIn F.slot_dict_values ⟨ob, ho, ex.1⟩ F.entry_dict_values (F.args_dict_values_1 _) (meets_dict_values (mixKind X.prog X.w) a hsys) ⟨⟨vs, dof⟩, ?_⟩
  refine args_nil ?_
  have k1 : ∀ b u, s1.heap.get? b = some u → (s1.heap.push { cls := .type "dict_values", data := .fields #[.ref a] }).get? b = some u := fun b u e => Heap.get?_push_of_some _ e
  have I2 := I1.kept (t' := s1.toks) k1
  have dat1 : (s1.heap.push { cls := .type "dict_values", data := .fields #[.ref a] }).DictAt (mixKind X.prog X.w) a vs ep := dat.keep k1
  refine PySem.W.kdl_call (PySem.W.kdl_values (knd := mixKind X.prog X.w) (kvs := vs) (ep := ep) (r := s1.heap.objs.size)) (I1.ok.hd hc) ⟨⟨_, Heap.get?_push_size _ rfl, rfl, rfl⟩, dat1⟩ (by rw [← rel.length]; exact hz) fun h' tk acc' c' kp e it => ?_
  have ea : acc'.toList = vs.map (·.2) := PySem.W.kdl_vals_eq acc'.toList (by rw [Array.length_toList]; exact it.1) fun j v hj => it.2 j v (by rw [← Array.getElem?_toList]; exact hj)
  refine ⟨.ref _, _, I2.laid (t' := tk) (o := .lst (kvs.map (·.2))) kp (Nat.le_refl _) ?_, rfl, q _ (I2.hok.fresh (Nat.le_refl _))⟩
  exact ⟨by rw [List.length_map]; exact hz, acc'.toList, c', by rw [ea]; exact kv_vals rel, by rw [Array.toArray_toList]; exact e⟩
end
/-! ### {k: v}, the key a tuple -/
section
variable {X : Cx} {kx vx : Expr} {pos : Pos} {tk tv : TE}
def tDsp (tk tv : TE) : TE := fun σ H Q => ∀ p, H p = none → tk σ (upd H p (.dT [])) fun x H1 => tv σ H1 fun y H2 => ∃ b key, x = V.ref b ∧ H2 b = some (.tup (key.map kV)) ∧ H2 p = some (.dT []) ∧ Q (.ref p) (upd H2 p (.dT [(key, y)]))
theorem pe_dsp (hu : X.A.units < cLine) (hk : PE X kx tk) (hv : PE X vx tv) : PE X (.Dict [some kx] [vx] pos) (tDsp tk tv) := by
  refine ⟨fun pins s σ H Q I q => ?_⟩
  have hn := I.hok.fresh (Nat.le_refl s.heap.objs.size)
  have I1 := I.laid (a := s.heap.objs.size) (o := .dT []) (h' := s.heap.push { cls := .type "dict", data := .dict #[] }) (t' := s.toks) (fun _ _ q => Heap.get?_push_of_some _ q) (Nat.le_refl _) (dt_empty s.heap I.big)
  refine wpAny_Dict_any rfl rfl (fun z => nomatch z) (show 1 ≤ 15 by decide) (pairTrees_cons_walk (thn (hk.run pins _ σ _ _ I1 (q _ hn)) fun u s1 ⟨x, H1, I2, rx, q1⟩ => thn (hv.run pins s1 σ H1 _ I2 q1) fun w s2 ⟨y, H2, I3, ry, b, key, ex, hb, hp, q2⟩ => pairTrees_nil_walk ?_))
  subst ex
  obtain rfl : u = Value.ref b := rx
  obtain ⟨z, hd, xs, rel, dd⟩ := dt_of I3.hok hp
  cases rel
  unfold storeAll
  rw [List.forIn_cons]
  refine wpAny_bind (wpAny_bind (wpAny_dictSet_heap (hsz := Nat.zero_le _) (knd := tupleKind (mixKind X.prog X.w)) hu (key_of I3.hok hb) dd fun h' dd' hs => wpAny_pure ?_))
  show wpAny _ _ (forIn ([] : List (Value × Value)) PUnit.unit _) _ _ _
  rw [List.forIn_nil]
  refine wpAny_pure ?_
  obtain ⟨o, es, ep, ho, h2, h3, h4, _, h5⟩ := dd'
  have rel' : KT H2 [(key, y)] (storedH [] key b w) := (KT.put (kvs := []) .nil key hb ry)
  refine ⟨.ref s.heap.objs.size, _, d_write (ob := .dT [(key, y)]) I3 (by rw [hp]; exact True.intro) hs ⟨o, ho⟩ ⟨by rw [sizeLine_eq]; show 1 ≤ 16777216; decide, hd, _, rel'.keeps fun c ys ec => ?_, o, es, ep, ho, h2, h3, h4, h5⟩, rfl, q2⟩
  rw [upd_ne (ne_of ec hp (fun z => nomatch z))]
  exact ec
end
end Msd
/-! SoundS: sorted(t), t a tuple of ints. -/
namespace Msd
open PySem PySem.Spec PyProof.Rows PySem.W L2 Mlg
section
variable {X : Cx}
theorem reads_int0 {h : Heap} {u : Value} {i : Int} (r : RelV (.int i) u) : Reads h u (.int i) [] := by
  obtain ⟨t, rfl⟩ := r
  exact .int _ _
theorem each_int0 {h : Heap} {a : Addr} : ∀ {ns : List Int} {us : List Value}, Vals (ns.map V.int) us → EachIs (fun u (b : V × PyData) => ∃ as, Reads h u b.2 as ∧ a ∉ as) us ((ns.map V.int).zip (ns.map PyData.int))
  | [], _, .nil => .nil
  | _ :: _, _, .cons r t => .cons ⟨[], reads_int0 r, by simp⟩ (each_int0 t)
def rSortT (K : Frag) : List V → Hp → VK → Prop := fun xs H Q => ∃ (a : Addr) (ns : List Int), xs = [.ref a] ∧ SqT K H a (ns.map V.int) ∧
  ∀ p, H p = none → Q (.ref p) (upd H p (.lst ((((ns.map V.int).zip (ns.map PyData.int)).mergeSort (dataLe false (·.2))).map (·.1))))
theorem cr_sortT (hu : X.A.units + 64 < cLine) : CallR X (.builtin "sorted") (rSortT X.K) := by
  intro pins s σ H xs us Q I r h
  obtain ⟨a, ns, rfl, hs, q⟩ := h
  rw [Vals.ref1 r]
  obtain ⟨its, rv, hl, hz⟩ := I.tuple hs
  obtain ⟨o, ho, hc, n, hd⟩ := hl
  have hlen : its.length = ns.length := by have := rv.length; simpa using this.symm
  refine Calls.call_function_entry kind_sorted plain_sorted entry_sorted (args_sorted1 _) ?_
  unfold Builtin.«sorted»
  refine wpAny_bind (m := checkCount "sorted" 1 1 _) (wpAny_pure ?_)
  refine wpAny_bind (wpAny_collect_seq a (.inr rfl) ho hc hd (fun h' hk => ?_) (by simp only [List.length_map] at hz; simpa [hlen] using hz))
  refine wpAny_bind (wpAny_newList ?_)
  have I1 := I.kept (t' := s.toks) hk
  have hoL : (h'.push (seqObj "list" its.toArray 0)).get? h'.objs.size = some (seqObj "list" its.toArray 0) := Heap.get?_push_size _ rfl
  have hel : (ns.map V.int).length = (ns.map PyData.int).length := by simp
  have e2 := zip_snd hel
  refine wpAny_bind (wpAny_holding (list_sort_data (s := { s with heap := h'.push (seqObj "list" its.toArray 0) }) (vs := its) (bs := (ns.map V.int).zip (ns.map PyData.int)) (enc := (·.2)) (R := fun u (b : V × PyData) => RelV b.1 u) hoL (vals_each rv hel) (each_int0 rv) ?_ ?_ ?_ (fun b hb => ?_) fun out hout he => ?_))
  · rw [e2]
    intro d hd d' hd'
    obtain ⟨i, _, rfl⟩ := List.mem_map.mp hd
    obtain ⟨j, _, rfl⟩ := List.mem_map.mp hd'
    rfl
  · rw [e2]
    refine .inr fun d hd => ?_
    obtain ⟨i, _, rfl⟩ := List.mem_map.mp hd
    exact ⟨(fun z => by cases z), (fun xs z => by cases z)⟩
  · simpa using hz
  · have : b.2 ∈ ns.map PyData.int := by rw [← e2]; exact List.mem_map_of_mem hb
    obtain ⟨i, _, e⟩ := List.mem_map.mp this
    rw [← e]
    show _ + 1 + 0 < cLine
    have : (X.A.in1).units ≤ X.A.units + 1 := by first | exact Nat.le_refl _ | simp [Around.in1, Around.units] | omega
    omega
  · obtain ⟨ep, he'⟩ := sortedHeap_at (out := out.toArray) hoL
    have rv' := each_vals he
    have hl2 : ((((ns.map V.int).zip (ns.map PyData.int)).mergeSort (dataLe false (·.2))).map (·.1)).length ≤ sizeLine := by
      rw [List.length_map, List.length_mergeSort, List.length_zip]
      simp at hz ⊢
      exact hz
    refine wpAny_pure ⟨_, rfl, ?_⟩
    refine ⟨.ref _, upd H h'.objs.size (.lst _), I1.laid (t' := s.toks) (fun b u hb => ?_) (Nat.le_refl _) ⟨hl2, out, ep, rv', he'⟩, rfl, q _ (I1.hok.fresh (Nat.le_refl _))⟩
    have hlt := Heap.lt_size hb
    show (sortedHeap _ _ _ _).get? b = some u
    rw [sortedHeap_old (Nat.ne_of_lt hlt) (by rw [size_push']; exact Nat.lt_succ_of_lt hlt)]
    exact Heap.get?_push_of_some _ hb
/-! ### len(set(xs)), xs a list of tuples of ints -/
theorem dl_mem : ∀ (ns acc : List (List Int)) (k : List Int), k ∈ ns.foldl oneMoreT acc ↔ k ∈ acc ∨ k ∈ ns
  | [], acc, k => by simp
  | n :: r, acc, k => by
    rw [List.foldl_cons, dl_mem r]
    unfold oneMoreT
    split
    · rename_i h
      constructor
      · rintro (h | h)
        · exact .inl h
        · exact .inr (List.mem_cons_of_mem _ h)
      · rintro (h' | h')
        · exact .inl h'
        · rcases List.mem_cons.mp h' with rfl | h'
          · exact .inl h
          · exact .inr h'
    · simp [List.mem_append, or_assoc]
theorem dl_nodup : ∀ (ns acc : List (List Int)), acc.Nodup → (ns.foldl oneMoreT acc).Nodup
  | [], _, h => h
  | n :: r, acc, h => by
    rw [List.foldl_cons]
    refine dl_nodup r _ ?_
    unfold oneMoreT
    split
    · exact h
    · rename_i hn
      rw [List.nodup_append]
      exact ⟨h, by simp, fun a ha b hb => by rw [List.mem_singleton] at hb; subst hb; exact fun z => hn (z ▸ ha)⟩
def kLenSetT (K : Frag) (Q : VK) : V → Hp → Prop := fun x H1 => ∃ (l : Addr) (ks : List (Addr × List Int)), x = .ref l ∧ SqL K H1 l (ks.map fun p => V.ref p.1) ∧ (∀ p ∈ ks, SqT K H1 p.1 (p.2.map V.int)) ∧ ks.length < 64 ∧ Q (.int (dedupL (ks.map (·.2))).length) H1
def tLenSetT (K : Frag) (ta : TE) : TE := fun σ H Q => ta σ H fun x H1 => (∃ (l : Addr) (ns : List Int), x = .ref l ∧ (SqL K H1 l (ns.map V.int) ∨ SqT K H1 l (ns.map V.int)) ∧ ns.length ≤ 4000 ∧ Q (.int (ns.foldl step_dedup []).length) H1) ∨ kLenSetT K Q x H1
theorem pe_lenSetT {a : Expr} {ta : TE} {p p2 q pos : Pos} (hc : X.calm = true) (hu : X.A.units + 64 < cLine) (hg : Gl X "len") (hm : X.mg "len" = none) (hg2 : Gl X "set") (hm2 : X.mg "set" = none) (ha : PE X a ta)
    (na : starEach [a] X.env = (false, PySem.eval a X.env) :: starEach [] X.env) : PE X (.Call (.Name "len" p) [.Call (.Name "set" p2) [a] [] q] [] pos) (tLenSetT X.K ta) := by
  refine ⟨fun pins s σ H Q I h => ?_⟩
  refine Call_ (ld_blt I hg hm boot_len ?_)
  refine PyProof.Rows.callWith_builtin1 (PyProof.Rows.args_cons ?_ rfl) rfl rfl
  refine Call_ (ld_blt I hg2 hm2 boot_set ?_)
  refine PyProof.Rows.callWith_type1 (PyProof.Rows.args_cons (thn (ha.run pins s σ H _ I h) fun v s1 ⟨x, H1, I1, r1, q1⟩ => PyProof.Rows.args_nil ?_) na) na rfl
  rcases q1 with q1 | q1
  · obtain ⟨l, ns, rfl, hq, hl, q1⟩ := q1
    cases r1
    rcases hq with hq | hq
    · obtain ⟨its, r, pl, hz⟩ := I1.list hq
      have hlen : its.toArray.size = ns.length := by rw [List.size_toArray, ← r.length, List.length_map]
      refine call_set_list (I1.ok.hd hc) pl.isList (by simpa using r.ints) (by rw [hlen]; unfold scanBound; omega) fun h' tk hS hk => ?_
      refine PyProof.Rows.args_nil ?_
      rw [hlen, firstMet_all] at hS
      obtain ⟨o, es, ep, t, ho, hex, hd, _, _, hsb, hf, hn⟩ := hS
      have I2 : Inv X pins σ H1 { s1 with heap := h', toks := tk } := I1.kept fun b o e => hk b o (Heap.lt_size e) e
      exact call_len_set ho hex hd hf (by unfold scanBound at hsb; omega) ⟨.int _, H1, I2.tok _, ⟨_, by rw [hn]⟩, q1⟩
    · obtain ⟨its, r, pl, hz⟩ := I1.tuple hq
      refine call_set_tupI ns (I1.ok.hd hc) pl (by simpa using r.ints) (by unfold scanBound; omega) fun h' tk c hS _ hk => ?_
      refine PyProof.Rows.args_nil ?_
      obtain ⟨o, es, ep, t, ho, hex, hd, _, hnd, hmem, hsb, hf, hn, _⟩ := hS
      have I2 : Inv X pins σ H1 { s1 with heap := h', toks := tk } := I1.kept hk
      have hp : (es.toList.map keyOf).Perm (ns.foldl step_dedup []) := by
        rw [List.perm_ext_iff_of_nodup hnd (dd_nodup ns [] List.nodup_nil)]
        intro k
        rw [← hmem k, dd_mem]
        simp
      have hs : es.size = (ns.foldl step_dedup []).length := by
        have := hp.length_eq
        simpa using this
      exact call_len_set ho hex hd hf (by unfold scanBound at hsb; omega) ⟨.int _, H1, I2.tok _, ⟨_, by rw [hs]⟩, q1⟩
  · obtain ⟨l, ks, rfl, hl, hk, hf, q1⟩ := q1
    cases r1
    obtain ⟨its, rv, pl, hz⟩ := I1.list hl
    refine call_set_tups (P := X.prog) (w := X.w) ks (I1.ok.hd hc) pl.isList (by simpa using refs_of_vals rv) (fun p hp => I1.isT (hk p hp)) hf (by have : (X.A.in1).units ≤ X.A.units + 1 := (by first | exact Nat.le_refl _ | simp [Around.in1, Around.units]); omega) fun h' tk L es ep t R g k => ?_
    refine PyProof.Rows.args_nil ?_
    have I2 : Inv X pins σ H1 { s1 with heap := h', toks := tk } := I1.kept k
    have hp : (L.map (·.2)).Perm (dedupL (ks.map (·.2))) := by
      unfold dedupL
      rw [List.perm_ext_iff_of_nodup R.nd (dl_nodup _ [] List.nodup_nil)]
      intro m
      rw [dl_mem]
      constructor
      · intro hm
        obtain ⟨p, hp, rfl⟩ := List.mem_map.mp hm
        exact .inr (List.mem_map_of_mem (List.mem_of_mem_take (g.sub p hp)))
      · rintro (hm | hm)
        · cases hm
        · obtain ⟨p, hp, rfl⟩ := List.mem_map.mp hm
          exact g.all p (by rw [List.take_length]; exact hp)
    have hs : es.size = (dedupL (ks.map (·.2))).length := by
      have h1 := hp.length_eq
      have h2 := SetTR.size (s := { s1 with heap := h', toks := tk }) R
      rw [List.length_map] at h1
      omega
    obtain ⟨o, ho, hex, hd⟩ := R.ob
    have hb := R.few
    have hsz := SetTR.size (s := { s1 with heap := h', toks := tk }) R
    exact call_len_set ho hex hd (SetTR.fits (s := { s1 with heap := h', toks := tk }) R) (by omega) ⟨.int _, H1, I2.tok _, ⟨_, by rw [hs]⟩, q1⟩
end
end Msd
/-! SoundQ0: set(xs) of a list of ints, its table told. -/
namespace Msd
open PySem PySem.Spec PyProof.Rows PySem.W L2 Mlg
/-! ### set(xs) of a list of ints, its table told -/
abbrev newS (w : World) : Obj := { cls := .type "set", dict := none, data := .set #[] 0 (.fresh 0 0 (!w.params.followText "set-order")) }
section
variable {P : Program} {w : World} {A : Around} {E : Value → Shared → Prop} {s : Shared}
theorem call_setLI {l : Addr} {its : Array Value} (ns : List Int) {Q : Value → Shared → Prop} (hh : A.handled = none) (hl : s.heap.IsList l its) (hi : IntsAre its.toList ns) (hb : ns.length + 1 < scanBound)
    (h : ∀ (h' : Heap) (tk c : Nat), SetR w h' s.heap.objs.size (fun j => decide (j ∈ ns)) c → c ≤ ns.length → (∀ b o, s.heap.get? b = some o → h'.get? b = some o) → Q (.ref s.heap.objs.size) { s with heap := h', toks := tk }) :
    wpAny (model P w) A (call (.type "set") [.ref l]) Q E s := by
  have hz : its.size = ns.length := by have q := IntsAre.length hi; rwa [Array.length_toList] at q
  obtain ⟨c, tl, hmro⟩ := F.called_set.mro
  have hmade := F.called_set.made
  have hsub := F.called_set.sub
  refine wpAny_call (codeAny_of_tree (show wpAny _ _ (callAny (.type "set") _) _ _ _ from ?_))
  refine wpAny_pure ⟨Code.quiet_builtin _ (by decide +kernel), codeAny_builtin F.entry_type_call ?_⟩
  rw [Around.under_plain (weight_type_call_type "set" [.ref l] []) rfl]
  have h1 := F.called_set.notType
  have h2 := F.called_set.canCreate
  have hct := F.typeCall_set_1 (.ref l)
  repeat (any_goals (first | assumption | wp_step))
  refine codeAny_mono (code_set_led1 (.ref l) (E := E) (Q₁ := fun obj s₁ => obj = .ref s.heap.objs.size ∧ s₁ = { s with heap := s.heap.push (newS w) }) ⟨rfl, rfl⟩) fun r s₁ hr => ?_
  cases r with
  | error e => exact hr
  | ok fl =>
    cases fl with
    | ret obj =>
      obtain ⟨rfl, rfl⟩ := hr
      have hS : (s.heap.push (newS w)).get? s.heap.objs.size = some (newS w) := Heap.get?_push_size _ rfl
      have hT : Shared.TypeIs { s with heap := s.heap.push (newS w) } (.ref s.heap.objs.size) "set" := ⟨_, hS, rfl⟩
      have hli := F.called_set.init.lookup
      have hbi := F.called_set.init.bind (.ref s.heap.objs.size)
      repeat (any_goals (first | assumption | wp_step))
      refine codeAny_mono (codeAny_call_builtin (R := wants (fun r s₂ => r = .none ∧ ∃ h' tk c, s₂ = { s with heap := h', toks := tk } ∧ SetR w h' s.heap.objs.size (fun j => decide (j ∈ ns)) c ∧ c ≤ ns.length ∧ (∀ b o, s.heap.get? b = some o → h'.get? b = some o)) E) F.called_set.init.plain F.entry_set_init (check_set_init_1 hT ?_)) fun r₂ s₂ hr₂ => ?_
      · obtain ⟨⟨ocls, odict, odata, oslots⟩, hol, hcl, nl, hdl⟩ := hl
        simp only at hcl hdl
        subst hcl; subst hdl
        have hol' : (s.heap.push (newS w)).get? l = some { cls := .type "list", dict := odict, data := .seq its nl, slots := oslots } := Heap.get?_push_of_some _ hol
        have hsls := F.sub_list_set
        have hslf := F.sub_list_frozenset
        have hne : (Value.type "list" == Value.type "dict") = false := by decide
        have hl1 : (s.heap.push (newS w)).IsList l its := ⟨_, hol', rfl, nl, rfl⟩
        unfold Builtin.«set.__init__» noKeywords Builtin.Frozenset.updateFrom
        generalize hPI : pyIter = PI
        wp_walk
        subst hPI
        refine wpAny_pyIter_list hl1 (wpAny_bind (wpAny_runValue ?_))
        have hlS : l < s.heap.objs.size := Heap.lt_size hol
        have hh3 : A.in1.in1.in1.handled = none := by simp [hh]
        have hneI : l ≠ (s.heap.push (newS w)).objs.size := by rw [Heap.size_push]; exact Nat.ne_of_lt (Nat.lt_succ_of_lt hlS)
        have hSf : s.heap.objs.size ∉ [(s.heap.push (newS w)).objs.size, l] := by
          rw [Heap.size_push]; simp only [List.mem_cons, List.mem_singleton, List.not_mem_nil, or_false, not_or]; exact ⟨Nat.ne_of_lt (Nat.lt_succ_self _), Nat.ne_of_gt hlS⟩
        have hval : ∀ (i : Nat) (v : Value), its[i]? = some v → ∃ k t, ns[i]? = some k ∧ v = .int k t := fun i v hv => by
          have hlt : i < ns.length := by rw [← hz]; exact (Array.getElem?_eq_some_iff.mp hv).1
          obtain ⟨t, e⟩ := PyProof.Rows.IntsAre.int_at hi i v (by rw [Array.getElem?_toList]; exact hv)
          exact ⟨ns[i], t, List.getElem?_eq_getElem hlt, by rw [e, List.getD_eq_getElem?_getD, List.getElem?_eq_getElem hlt] <;> rfl⟩
        refine set_update_ints ((Walks.list hh3 _ l hneI its).toS) s.heap.objs.size hSf ns hz hb hval (its.size - 0) 0 _ (by omega) (Nat.zero_le _) ⟨⟨_, Heap.get?_push_size _ rfl, rfl, rfl⟩, (hl1.push _)⟩ ?hS0 ?hR
        case hS0 => exact ⟨0, Nat.le_refl 0, setR_new_at (Heap.get?_push_of_some _ hS)⟩
        case hR =>
          intro s' c' hm hc' hS'
          obtain ⟨h', g2, d', tk', os'⟩ := s'
          have eg : g2 = s.gens := hm.gens
          have ed : d' = s.drawn := hm.drawn
          have eo : os' = s.os := hm.os
          subst eg; subst ed; subst eo
          refine wpAny_pure (show wpAny _ _ (ret Value.none) _ _ _ from ?_)
          rw [hz] at hc'
          refine wpAny_pure ⟨rfl, h', tk', c', rfl, hS', hc', fun b o e => ?_⟩
          have hb0 : b < s.heap.objs.size := Heap.lt_size e
          have hb2 : b ≠ (s.heap.push (newS w)).objs.size := by rw [Heap.size_push]; exact Nat.ne_of_lt (Nat.lt_succ_of_lt hb0)
          exact hm.heap b o (by simp only [List.mem_cons, List.mem_singleton, List.not_mem_nil, or_false, not_or]; exact ⟨Nat.ne_of_lt hb0, hb2⟩) (Heap.get?_push_of_some _ (Heap.get?_push_of_some _ e))
      · cases r₂ with
        | error e => exact hr₂
        | ok fl₂ =>
          cases fl₂ with
          | ret r =>
            obtain ⟨rfl, h', tk, c, rfl, hS', hc, hk'⟩ := hr₂
            repeat (any_goals (first | assumption | wp_step))
            exact h _ _ _ hS' hc hk'
          | _ => exact hr₂.elim
    | _ => exact hr.elim
end
end Msd
/-! SoundQ: sorted(set(xs)) of a list of ints. -/
namespace Msd
open PySem PySem.Spec PyProof.Rows PySem.W L2 Mlg
/-! ### sorted(set(xs)) -/
section
variable {X : Cx}
/-- an ascending row with the members of another one, once each -/
theorem asc_dedup {ns is : List Int} (h1 : ns.Pairwise (· < ·)) (h2 : ∀ k, k ∈ ns ↔ k ∈ is) : ns.map PyData.int = sortD ((dedupI is).map .int) := by
  have hn : ns.Nodup := h1.imp fun h => Int.ne_of_lt h
  have hp : ns.Perm (is.foldl step_dedup []) := by
    rw [List.perm_ext_iff_of_nodup hn (dd_nodup is [] List.nodup_nil)]
    intro k
    rw [h2 k, dd_mem]
    simp
  replace hp : ns.Perm (dedupI is) := hp
  refine one_sort kin_int ((hp.map PyData.int).trans (sortD_perm _).symm) ?_ ?_ (sortD_sorted kin_int ?_)
  · intro x hx
    obtain ⟨i, _, rfl⟩ := List.mem_map.mp hx
    exact .int i
  · rw [List.pairwise_map]
    refine h1.imp fun {a b} h => ?_
    show decide (b < a) = false
    exact decide_eq_false (by omega)
  · intro x hx
    obtain ⟨i, _, rfl⟩ := List.mem_map.mp hx
    exact .int i
def tSortSet (K : Frag) (ta : TE) : TE := fun σ H Q => ta σ H fun x H1 => ∃ (l : Addr) (is : List Int), x = .ref l ∧ SqL K H1 l (is.map V.int) ∧ is.length ≤ 4000 ∧ (dedupI is).length < 64 ∧
  ∀ (ns : List Int) (p : Addr), ns.map PyData.int = sortD ((dedupI is).map .int) → H1 p = none → Q (.ref p) (upd H1 p (.lst (ns.map V.int)))
theorem pe_sortSet {a : Expr} {ta : TE} {p p2 q pos : Pos} (hc : X.calm = true) (hg : Gl X "sorted") (hm : X.mg "sorted" = none) (hg2 : Gl X "set") (hm2 : X.mg "set" = none) (ha : PE X a ta)
    (na : starEach [a] X.env = (false, PySem.eval a X.env) :: starEach [] X.env) : PE X (.Call (.Name "sorted" p) [.Call (.Name "set" p2) [a] [] q] [] pos) (tSortSet X.K ta) := by
  refine ⟨fun pins s σ H Q I h => ?_⟩
  refine Call_ (ld_blt (u := .builtin "sorted") I hg hm (by decide +kernel) ?_)
  refine PyProof.Rows.callWith_builtin1 (PyProof.Rows.args_cons ?_ rfl) rfl rfl
  refine Call_ (ld_blt I hg2 hm2 boot_set ?_)
  refine PyProof.Rows.callWith_type1 (PyProof.Rows.args_cons (thn (ha.run pins s σ H _ I h) fun v s1 ⟨x, H1, I1, r1, q1⟩ => PyProof.Rows.args_nil ?_) na) na rfl
  obtain ⟨l, is, rfl, hq, hl, h64, q1⟩ := q1
  cases r1
  obtain ⟨its, r, pl, hz⟩ := I1.list hq
  refine call_setLI is (I1.ok.hd hc) pl.isList (by simpa using r.ints) (by unfold scanBound; omega) fun h' tk c R _ hk => ?_
  refine PyProof.Rows.args_nil ?_
  have hc64 : c < 64 := by
    obtain ⟨o, es, ep, t, _, _, _, _, hnd, hmem, _, _, hn, _⟩ := R
    have hp : (es.toList.map keyOf).Perm (is.foldl step_dedup []) := by
      rw [List.perm_ext_iff_of_nodup hnd (dd_nodup is [] List.nodup_nil)]
      intro k
      rw [← hmem k, dd_mem]
      simp
    replace hp : (es.toList.map keyOf).Perm (dedupI is) := hp
    have := hp.length_eq
    simp at this
    omega
  refine sorted_set (s := { s1 with heap := h', toks := tk }) R (I1.ok.hd hc) hc64 fun s' p out c' ns k g o hp hg' hi hs hm' hl' => ?_
  have I2 : Inv X pins σ H1 { s1 with heap := h', toks := tk } := I1.kept hk
  have hlen : (ns.map V.int).length ≤ sizeLine := by rw [List.length_map, hl', sizeLine_eq]; omega
  have hn : H1 p = none := I2.hok.fresh hp
  obtain ⟨sh, sg, sd, st, so⟩ := s'
  replace o : so = s1.os := o
  subst o
  replace g : sg = s1.gens := g
  subst g
  have J : Inv X pins σ (upd H1 p (.lst (ns.map V.int))) _ :=
    I2.call (h' := sh) (g' := s1.gens) (t' := st) (d' := sd) (ch := []) (Un.laid k hp hn) (I2.hok.laid k hp ⟨hlen, out.toList, c', vals_of_ints hi, hg'⟩) I2.bare (fun _ z => nomatch z)
  exact ⟨.ref p, _, J, rfl, q1 ns p (asc_dedup hs fun k => by rw [hm' k]; simp) hn⟩
end
end Msd
/-! SoundQ2: list(text), int and str of longer rows of figures. -/
namespace Msd
open PySem PySem.Spec PyProof.Rows PySem.W L2 Mlg
/-! ### list(text) -/
section
variable {X : Cx}
def rListS : List V → Hp → VK → Prop := fun xs H Q => ∃ z : Str, xs = [.str z] ∧ z.cps.size ≤ sizeLine ∧ ∀ p, H p = none → Q (.ref p) (upd H p (.lst (z.cps.toList.map fun c => V.str ⟨#[c]⟩)))
theorem cr_listS (hc : X.calm = true) : CallR X (.type "list") rListS := by
  intro pins s σ H xs us Q I r h
  obtain ⟨z, rfl, hz, q⟩ := h
  obtain ⟨u, rfl, t, rfl⟩ := vals1 r
  refine call_list_str (I.ok.hd hc) z t (fun h' tk acc c kp e hi => ?_) hz
  have rv : Vals (z.cps.toList.map fun c => V.str ⟨#[c]⟩) acc.toList := by
    obtain ⟨hz2, hv⟩ := hi
    have key : ∀ (cs : List Nat) (us : List Value), us.length = cs.length → (∀ (j : Nat) (v : Value), us[j]? = some v → ∃ c u, cs[j]? = some c ∧ v = .str ⟨#[c]⟩ u) → Vals (cs.map fun c => V.str ⟨#[c]⟩) us := by
      intro cs
      induction cs with
      | nil =>
        intro us hl _
        rw [List.length_eq_zero_iff.mp hl]
        exact .nil
      | cons c cs ih =>
        intro us hl h
        cases us with
        | nil => cases hl
        | cons u us =>
          refine .cons ?_ (ih us (by simpa using hl) fun j v e => by simpa using h (j + 1) v (by simpa using e))
          obtain ⟨c', t', h1, h2⟩ := h 0 u rfl
          cases h1
          exact ⟨t', h2⟩
    refine key _ _ (by rw [Array.length_toList, Array.length_toList]; exact hz2) fun j v e => ?_
    obtain ⟨c, u, h1, h2⟩ := hv j v (by rw [← Array.getElem?_toList]; exact e)
    exact ⟨c, u, by rw [Array.getElem?_toList]; exact h1, h2⟩
  exact ⟨.ref _, _, I.laid (t' := tk) kp (Nat.le_refl _) (show ObjOk X.prog X.w _ h' _ (.lst _) from ⟨by simpa using hz, acc.toList, c, rv, by simpa using e⟩), rfl, q _ (I.hok.fresh (Nat.le_refl _))⟩
end
/-! ### texts and numbers -/
theorem figs_ok {cs : List Nat} (h : figsL cs = true) : PySem.NumText.AllDigits cs := by
  intro c hc
  have := List.all_eq_true.mp h c hc
  simpa using this
theorem int_fig {x : Str} (h1 : x.cps.toList ≠ []) (h2 : x.cps.toList.length ≤ 9) (h : figsL x.cps.toList = true) : PySem.intText? x = some ((valL x.cps.toList : Nat) : Int) :=
  intText_digits (figs_ok h) h1 (by have : x.cps.toList.length = x.length := Array.length_toList; omega)
theorem digit_sign : ∀ d : Nat, d < 10 → (Nat.digitChar d).toNat = 48 + d := by decide
theorem dig_is : ∀ (f n : Nat), n < 10 ^ (f + 1) → digits (f + 1) n = (Nat.toDigits 10 n).map Char.toNat
  | f, n, h => by
    by_cases h1 : n < 10
    · unfold digits
      rw [if_pos h1, Nat.toDigits_of_lt_base h1]
      show _ = [(Nat.digitChar n).toNat]
      rw [digit_sign n h1]
    · cases f with
      | zero => exact absurd h (by omega)
      | succ f =>
        have ih := dig_is f (n / 10) (by rw [Nat.div_lt_iff_lt_mul (by decide)]; rw [Nat.pow_succ] at h; exact h)
        have hm : n % 10 < 10 := Nat.mod_lt n (by decide)
        have t : Nat.toDigits 10 (n / 10) ++ Nat.toDigits 10 (n % 10) = Nat.toDigits 10 (10 * (n / 10) + n % 10) := Nat.toDigits_append_toDigits (by decide) (by omega) hm
        rw [Nat.div_add_mod] at t
        rw [← t, List.map_append, Nat.toDigits_of_lt_base hm]
        show digits (f + 1 + 1) n = _ ++ [(Nat.digitChar (n % 10)).toNat]
        rw [digit_sign _ hm, ← ih]
        show (if n < 10 then [48 + n] else digits (f + 1) (n / 10) ++ [48 + n % 10]) = _
        rw [if_neg h1]
theorem str_big {i : Int} (h0 : 0 ≤ i) (h1 : i < 1000000000) : ((toString i : String) : PySem.Str) = strOf i.toNat := by
  obtain ⟨m, rfl⟩ := Int.eq_ofNat_of_zero_le h0
  have e := PySem.W.KIN.signs_num m
  rw [← dig_is 19 m (Nat.lt_of_lt_of_le (show m < 10 ^ 9 by omega) (Nat.pow_le_pow_right (by decide) (by decide)))] at e
  show PySem.Str.ofString (toString ((m : Nat) : Int)) = ⟨(digits 20 m).toArray⟩
  rw [← e]
end Msd
/-! Sound8: built-in functions of one and two arguments, isinstance. -/
namespace Msd
open PySem PySem.Spec PyProof.Rows PySem.W L2 Mlg
theorem bltB_ok {sc : Scope} {n x : Str} (h : bltB sc n x = true) : x = n ∧ sc.names.lookup x = some .globalImplicit := by
  obtain ⟨h1, h2⟩ := and2 h
  exact ⟨of_decide_eq_true h1, of_decide_eq_true h2⟩
section
variable {fnm : Nat → Option Str} {T : Errs} {call : CallT} {k : Nat} {N : List Str}
/-- a call of a built-in function by its name -/
theorem callB_of {X : Cx} {sc : Scope} {n y : Str} {p pos : Pos} {x : Expr} {xs : List Expr} {id : String} {r : List V → Hp → VK → Prop} {t : TA} (C : Cok fnm T call k N X sc) (hn : bltB sc n y = true) (hm : n ∈ builtins) (hc : CallR X (.builtin id) r) (hv : bootBuiltins n = some (.builtin id))
    (hp : ∀ z ∈ x :: xs, plainX z = true) (ha : PA X (x :: xs) t) (hnm : n ≠ "__name__") (hdb : (n == ("__debug__" : Str)) = false) : PE X (.Call (.Name y p) (x :: xs) [] pos) (tCB r t) := by
  obtain ⟨rfl, hg⟩ := bltB_ok hn
  exact pe_callB hc (by show X.env.scope.names.lookup y = _; rw [C.hsc]; exact hg) (C.G.bl y hm) hv ha hnm hdb (starEach_plain (hp x List.mem_cons_self)) (by rw [backTo_any]; exact plain_any fun z hz => hp z (List.mem_cons_of_mem _ hz))
theorem callT_of {X : Cx} {sc : Scope} {n y : Str} {p pos : Pos} {x : Expr} {xs : List Expr} {id : String} {r : List V → Hp → VK → Prop} {t : TA} (C : Cok fnm T call k N X sc) (hn : bltB sc n y = true) (hm : n ∈ builtins) (hc : CallR X (.type id) r) (hv : bootBuiltins n = some (.type id))
    (hp : ∀ z ∈ x :: xs, plainX z = true) (ha : PA X (x :: xs) t) (hnm : n ≠ "__name__") (hdb : (n == ("__debug__" : Str)) = false) : PE X (.Call (.Name y p) (x :: xs) [] pos) (tCB r t) := by
  obtain ⟨rfl, hg⟩ := bltB_ok hn
  exact pe_callTy hc (by show X.env.scope.names.lookup y = _; rw [C.hsc]; exact hg) (C.G.bl y hm) hv ha hnm hdb (starEach_plain (hp x List.mem_cons_self)) (by rw [backTo_any]; exact plain_any fun z hz => hp z (List.mem_cons_of_mem _ hz))
def rB1 (K : Frag) : B1 → List V → Hp → VK → Prop
  | .len => fun xs H Q => (∃ p ys, xs = [.ref p] ∧ (SqL K H p ys ∨ SqT K H p ys) ∧ Q (.int ys.length) H) ∨ ∃ z, xs = [.str z] ∧ z.length ≤ sizeLine ∧ Q (.int z.length) H
  | .abs => fun xs H Q => ∃ i, xs = [.int i] ∧ Q (.int (if i < 0 then -i else i)) H
  | .int => fun xs H Q => ((∃ i, xs = [.int i] ∧ Q (.int i) H) ∨ ∃ k, xs = [.bl k] ∧ Q (.int (if k then 1 else 0)) H) ∨ ∃ a n, xs = [.str a] ∧ PySem.intText? a = some n ∧ a.length ≤ 640 ∧ Q (.int n) H
  | .list => fun xs H Q => (∃ p ys, xs = [.ref p] ∧ (SqL K H p ys ∨ SqT K H p ys) ∧ ∀ l, H l = none → Q (.ref l) (upd H l (.lst ys))) ∨ rListD xs H Q ∨ rListT xs H Q ∨ rListS xs H Q
  | .str => fun xs H Q => ∃ i : Int, xs = [.int i] ∧ i.natAbs.log2 < 1920 ∧ Q (.str (toString i)) H
  | .tuple => fun xs H Q => ∃ p ys, xs = [.ref p] ∧ ((SqL K H p ys ∧ ∀ l, H l = none → Q (.ref l) (upd H l (.tup ys))) ∨ (SqT K H p ys ∧ Q (.ref p) H))
  | .sum => rSum K
  | .all => rAll K
  | .min => rMinM K minI
  | .max => rMinM K maxI
  | .sorted => fun xs H Q => rSortM K xs H Q ∨ rSortT K xs H Q
  | _ => fun _ _ _ => False
theorem pe_b1 {X : Cx} {sc : Scope} {y : Str} {p pos : Pos} {x : Expr} {f : B1} {t : TE} (C : Cok fnm T call k N X sc) (hf : b1B f = true) (hn : bltB sc (b1nm f) y = true) (hp : plainX x = true) (h : PE X x t) : PE X (.Call (.Name y p) [x] [] pos) (tCB (rB1 X.K f) (tCons t tNil)) := by
  have ha : PA X [x] (tCons t tNil) := pa_cons h pa_nil (starEach_plain hp)
  have hps : ∀ z ∈ [x], plainX z = true := fun z hz => by rw [List.mem_singleton] at hz; rw [hz]; exact hp
  cases f <;> first | (cases hf; done) | skip
  · exact callB_of C hn (by decide) (CallR.or call_len_seq call_len_str) PySem.boot_len hps ha (by decide) (by decide)
  · exact callB_of C hn (by decide) call_abs (by decide +kernel) hps ha (by decide) (by decide)
  · exact callT_of C hn (by decide) (CallR.or call_int1 call_int_str) (by decide +kernel) hps ha (by decide) (by decide)
  · exact callT_of C hn (by decide) call_str_int (by decide +kernel) hps ha (by decide) (by decide)
  · exact callB_of C hn (by decide) (cr_minM C.calm (by have := C.room.un; omega)) (by decide +kernel) hps ha (by decide) (by decide)
  · exact callB_of C hn (by decide) (cr_maxM C.calm (by have := C.room.un; omega)) (by decide +kernel) hps ha (by decide) (by decide)
  · exact callB_of C hn (by decide) (cr_sum C.calm) (by decide +kernel) hps ha (by decide) (by decide)
  · exact callB_of C hn (by decide) (cr_all C.calm) (by decide +kernel) hps ha (by decide) (by decide)
  · exact callB_of C hn (by decide) (CallR.or (cr_sortM (by have := C.room.un; omega)) (cr_sortT (by have := C.room.un; omega))) (by decide +kernel) hps ha (by decide) (by decide)
  · exact callT_of C hn (by decide) (CallR.or call_list_of (CallR.or (call_list_dK C.calm) (CallR.or (call_list_dT C.calm) (cr_listS C.calm)))) (by decide +kernel) hps ha (by decide) (by decide)
  · exact callT_of C hn (by decide) call_tuple_of (by decide +kernel) hps ha (by decide) (by decide)
theorem int_one : ∀ a : Fin 10, PySem.intText? ⟨#[48 + a.val]⟩ = some ((a.val : Nat) : Int) := by decide +kernel
theorem int_two : ∀ a b : Fin 10, PySem.intText? ⟨#[48 + a.val, 48 + b.val]⟩ = some ((10 * a.val + b.val : Nat) : Int) := by decide +kernel
theorem str_all : ∀ n : Fin 1000, ((toString (n.val : Int) : String) : PySem.Str) = strOf n.val := by decide +kernel
theorem str_small {i : Int} (h0 : 0 ≤ i) (h1 : i < 1000) : ((toString i : String) : PySem.Str) = strOf i.toNat := by
  have := str_all ⟨i.toNat, by omega⟩
  rw [← this]
  show ((toString i : String) : PySem.Str) = ((toString ((i.toNat : Nat) : Int) : String) : PySem.Str)
  rw [Int.toNat_of_nonneg h0]
section
variable {K : Frag} {W : WX} {ρ : Env} {F H : Hp} {σ : St} {Q : VK}
theorem mm_ok {g : Int → List Int → Int} {v : V} {d : D} {r : R} (S : Sim K ρ F σ H) (hx : View K F H v d) (e : ((items d).bind Mlg.intsD).bind (fun is => match is with | [] => none | x :: r => some (R.val (.int (g x r)))) = some r) (h : Out T K W ρ F σ H (relE K σ) (.ok (r, ρ)) Q) : rMinM K g [v] H Q := by
  cases d <;> first | (cases e; done) | skip
  · rename_i ds
    replace e : (Mlg.intsD ds).bind (fun is => match is with | [] => none | x :: r => some (R.val (.int (g x r)))) = some r := e
    cases q : Mlg.intsD ds with
    | none => rw [q] at e; cases e
    | some is =>
      rw [q] at e
      cases is with
      | nil => cases e
      | cons n ns =>
        cases e
        obtain ⟨a, vs, rfl, h1, h2⟩ := hx.list S.fh
        obtain ⟨h3, _⟩ := h2.ints q
        subst h3
        exact ⟨a, n, ns, rfl, .inl h1, out_val S h (.int _)⟩
  · rename_i ds
    replace e : (Mlg.intsD ds).bind (fun is => match is with | [] => none | x :: r => some (R.val (.int (g x r)))) = some r := e
    cases q : Mlg.intsD ds with
    | none => rw [q] at e; cases e
    | some is =>
      rw [q] at e
      cases is with
      | nil => cases e
      | cons n ns =>
        cases e
        obtain ⟨a, vs, rfl, h1, _, h2⟩ := hx.tuple S.fh
        obtain ⟨h3, _⟩ := h2.ints q
        subst h3
        exact ⟨a, n, ns, rfl, .inr (SqT.of h1), out_val S h (.int _)⟩
theorem reps_zip : ∀ {vs : List V} {ds : List D}, Reps K F vs ds → ∀ b ∈ vs.zip ds, Rep K F b.1 b.2
  | _, _, .nil, b, hb => by simp at hb
  | _, _, .cons h t, b, hb => by
    rcases List.mem_cons.mp (show b ∈ (_, _) :: _ from hb) with rfl | hb
    · exact h
    · exact reps_zip t b hb
theorem zip_reps : ∀ {bs : List (V × D)}, (∀ b ∈ bs, Rep K F b.1 b.2) → Reps K F (bs.map (·.1)) (bs.map (·.2))
  | [], _ => .nil
  | b :: bs, h => .cons (h b List.mem_cons_self) (zip_reps fun c hc => h c (List.mem_cons_of_mem _ hc))
theorem shp_each {n : Nat} : ∀ {ds : List D}, (∀ d ∈ ds, shp n d = true) → shpAll n ds = true
  | [], _ => by cases n <;> rfl
  | d :: ds, h => by
    have h1 := h d List.mem_cons_self
    have h2 := shp_each (n := n) (ds := ds) fun x hx => h x (List.mem_cons_of_mem _ hx)
    have e : shpAll n (d :: ds) = (shp n d && shpAll n ds) := by cases n <;> rfl
    rw [e, h1, h2]
    rfl
theorem kt_shp {d : D} (h : Kt d) : shp 1 d = true := by
  obtain ⟨i, is⟩ := h
  show shpAll 0 _ = true
  refine shp_each fun d hd => ?_
  obtain ⟨j, _, rfl⟩ := List.mem_map.mp hd
  rfl
theorem bools_shp {d : D} (h : boolsT d = true) : shp 1 d = true ∧ PyData.depth d ≤ 1 ∧ ∀ d', boolsT d' = true → alike d d' = true := by
  cases d <;> first | (cases h; done) | skip
  rename_i bs
  obtain ⟨ks, e⟩ := Option.isSome_iff_exists.mp h
  have hb : ∀ {bs : List D} {ks : List Bool}, bools bs = some ks → bs = ks.map PyData.bool := by
    intro bs
    induction bs with
    | nil => intro ks e; cases e; rfl
    | cons b bs ih =>
      intro ks e
      cases b <;> first | (cases e; done) | skip
      rename_i k
      replace e : (bools bs).map (k :: ·) = some ks := e
      cases q : bools bs with
      | none => rw [q] at e; cases e
      | some k2 => rw [q] at e; cases e; rw [ih q]; rfl
  have al : ∀ a b : List Bool, alikeAll (a.map PyData.bool) (b.map PyData.bool) = true := by
    intro a
    induction a with
    | nil => intro b; cases b <;> rfl
    | cons x a ih =>
      intro b
      cases b with
      | nil => rfl
      | cons y b => exact ih b
  have dp : ∀ a : List Bool, PyData.depthAll (a.map PyData.bool) = 0 := by
    intro a
    induction a with
    | nil => rfl
    | cons x a ih => show max 0 (PyData.depthAll (a.map PyData.bool)) = 0; rw [ih]; rfl
  rw [hb e]
  refine ⟨?_, ?_, fun d' h' => ?_⟩
  · show shpAll 0 _ = true
    refine shp_each fun d hd => ?_
    obtain ⟨k, _, rfl⟩ := List.mem_map.mp hd
    rfl
  · show PyData.depthAll _ + 1 ≤ 1
    rw [dp]
    decide
  · cases d' <;> first | (cases h'; done) | skip
    obtain ⟨k2, e2⟩ := Option.isSome_iff_exists.mp h'
    rw [hb e2]
    exact al ks k2
theorem sort_up {v : V} {ds : List D} (S : Sim K ρ F σ H) (hx : View K F H v (.list ds)) (c : upP ds = true) (h : Out T K W ρ F σ H (relE K σ) (.ok (R.tmp (.lst ds), ρ)) Q) : rSortM K [v] H Q := by
  obtain ⟨x, b, y, d, rfl, hlt, hb, hd⟩ : ∃ x b y d, ds = [.tuple [.int x, b], .tuple [.int y, d]] ∧ x < y ∧ boolsT b = true ∧ boolsT d = true := by
    unfold upP at c
    split at c
    · rename_i x b y d
      obtain ⟨c1, c3⟩ := (Bool.and_eq_true _ _ ▸ c)
      obtain ⟨c1, c2⟩ := (Bool.and_eq_true _ _ ▸ c1)
      exact ⟨x, b, y, d, rfl, of_decide_eq_true c1, c2, c3⟩
    · cases c
  obtain ⟨b1, b2, b3⟩ := bools_shp hb
  obtain ⟨d1, d2, d3⟩ := bools_shp hd
  obtain ⟨a, vs, rfl, h1, h2⟩ := hx.list S.fh
  have hlen := h2.length
  have mem : ∀ z ∈ ([.tuple [.int x, b], .tuple [.int y, d]] : List D), ∃ i e, z = .tuple [.int i, e] ∧ boolsT e = true := fun z hz => by
    rcases List.mem_cons.mp hz with rfl | hz
    · exact ⟨_, _, rfl, hb⟩
    · rw [List.mem_singleton.mp hz]; exact ⟨_, _, rfl, hd⟩
  refine ⟨a, vs, [.tuple [.int x, b], .tuple [.int y, d]], rfl, h1, ?_, fun z hz z' hz' => ?_, .inl fun z hz => ?_, fun z hz => ?_, fun p hp => ?_⟩
  · refine Reps.dp (n := 2) (shp_each fun z hz => ?_) (h2.mono S.fh)
    obtain ⟨i, e, rfl, he⟩ := mem z hz
    show shpAll 1 [.int i, e] = true
    refine shp_each fun z hz => ?_
    rcases List.mem_cons.mp hz with rfl | hz
    · rfl
    · rw [List.mem_singleton.mp hz]; exact (bools_shp he).1
  · obtain ⟨i, e, rfl, he⟩ := mem z hz
    obtain ⟨i', e', rfl, he'⟩ := mem z' hz'
    show (true && (alike e e' && true)) = true
    rw [(bools_shp he).2.2 e' he']
    rfl
  · obtain ⟨i, e, rfl, he⟩ := mem z hz
    exact ⟨_, _, rfl⟩
  · obtain ⟨i, e, rfl, he⟩ := mem z hz
    have := (bools_shp he).2.1
    show max 0 (max (PyData.depth e) 0) + 1 ≤ 8
    omega
  · have hr : Reps K F (((vs.zip [.tuple [.int x, b], .tuple [.int y, d]]).mergeSort (dataLe false (·.2))).map (·.1)) [.tuple [.int x, b], .tuple [.int y, d]] := by
      have e1 : (vs.zip [.tuple [.int x, b], .tuple [.int y, d]]).mergeSort (dataLe false (·.2)) = vs.zip [.tuple [.int x, b], .tuple [.int y, d]] := by
        refine List.mergeSort_of_pairwise ?_
        have hv : vs.length = 2 := hlen
        match vs, hv with
        | [v1, v2], _ =>
          show List.Pairwise _ [(v1, _), (v2, _)]
          refine List.pairwise_cons.mpr ⟨fun q hq => ?_, List.pairwise_singleton _ _⟩
          rw [List.mem_singleton.mp hq]
          show (!dataLt (.tuple [.int y, d]) (.tuple [.int x, b])) = true
          rw [dataLt_tuple, dataLt_all_no rfl (show PyData.eqv (.int y) (.int x) = false by show ((y == x) = false); exact beq_eq_false_iff_ne.mpr (by omega)), dataLt_int, decide_eq_false (by omega)]
          rfl
      rw [e1, List.map_fst_zip (by rw [hlen]; exact Nat.le_refl _)]
      exact h2
    exact out_lst S h hr hp
theorem sort_okL {v : V} {ds : List D} {r : R} (S : Sim K ρ F σ H) (hx : View K F H v (.list ds)) (e : b1 .sorted (.list ds) = some r) (h : Out T K W ρ F σ H (relE K σ) (.ok (r, ρ)) Q) : rSortM K [v] H Q := by
  replace e : (if sortable ds = true then some (R.tmp (.lst (sortD ds))) else if upP ds = true then some (R.tmp (.lst ds)) else none) = some r := e
  split at e
  · rename_i c
    cases e
    obtain ⟨a, vs, rfl, h1, h2⟩ := hx.list S.fh
    have hlen := h2.length
    have fin : ∀ {P : PyData → Prop}, Kin P → (∀ d ∈ ds, P d) → AllAlike ds → Sortable ds → (∀ d ∈ ds, d.depth ≤ 8) → DpAll K H vs ds → rSortM K [.ref a] H Q := by
      intro P k hP hal hso hdp hd
      refine ⟨a, vs, ds, rfl, h1, hd, hal, hso, hdp, fun p hp => ?_⟩
      have hr : Reps K F (((vs.zip ds).mergeSort (dataLe false (·.2))).map (·.1)) (sortD ds) := by
        rw [← sort_same k hlen hP]
        exact zip_reps fun b hb => reps_zip h2 b ((List.mergeSort_perm _ _).mem_iff.mp hb)
      exact out_lst S h hr hp
    rcases (Bool.or_eq_true _ _).mp c with c | c
    · obtain ⟨is, ei⟩ := Option.isSome_iff_exists.mp c
      obtain ⟨e1, e2⟩ := h2.ints ei
      subst e1 e2
      refine fin kin_int (fun d hd => ?_) (fun d hd d' hd' => ?_) (.inr fun d hd => ?_) (fun d hd => ?_) (dp_ints is)
      · obtain ⟨i, _, rfl⟩ := List.mem_map.mp hd; exact .int i
      · obtain ⟨i, _, rfl⟩ := List.mem_map.mp hd
        obtain ⟨j, _, rfl⟩ := List.mem_map.mp hd'
        rfl
      · obtain ⟨i, _, rfl⟩ := List.mem_map.mp hd
        exact ⟨(fun z => by cases z), (fun xs z => by cases z)⟩
      · obtain ⟨i, _, rfl⟩ := List.mem_map.mp hd
        exact Nat.zero_le _
    · have hk : ∀ d ∈ ds, Kt d := fun d hd => tupI_ok (List.all_eq_true.mp c d hd)
      refine fin kin_tup hk (fun d hd d' hd' => ?_) (.inl fun d hd => ?_) (fun d hd => ?_) ?_
      · obtain ⟨i, is⟩ := hk d hd
        obtain ⟨j, js⟩ := hk d' hd'
        exact alike_ints (i :: is) (j :: js)
      · obtain ⟨i, is⟩ := hk d hd
        exact ⟨_, _, rfl⟩
      · obtain ⟨i, is⟩ := hk d hd
        show PyData.depthAll _ + 1 ≤ 8
        rw [depth_ints]
        decide
      · exact Reps.dp (n := 1) (shp_each fun d hd => kt_shp (hk d hd)) (h2.mono S.fh)
  · split at e
    · rename_i c0 c
      cases e
      exact sort_up S hx c h
    · cases e
theorem sort_ok {v : V} {d : D} {r : R} (S : Sim K ρ F σ H) (hx : View K F H v d) (e : b1 .sorted d = some r) (h : Out T K W ρ F σ H (relE K σ) (.ok (r, ρ)) Q) : rSortM K [v] H Q ∨ rSortT K [v] H Q := by
  cases d <;> first | (cases e; done) | skip
  · rename_i ds
    exact .inl (sort_okL S hx e h)
  · rename_i ds
    replace e : (if (intsD ds).isSome = true then some (R.tmp (.lst (sortD ds))) else none) = some r := e
    split at e
    · rename_i c
      cases e
      obtain ⟨a, vs, rfl, h1, _, h2⟩ := hx.tuple S.fh
      obtain ⟨is, ei⟩ := Option.isSome_iff_exists.mp c
      have hlen := h2.length
      obtain ⟨e1, e2⟩ := h2.ints ei
      subst e1 e2
      refine .inr ⟨a, is, rfl, SqT.of h1, fun p hp => ?_⟩
      have hr : Reps K F ((((is.map V.int).zip (is.map PyData.int)).mergeSort (dataLe false (·.2))).map (·.1)) (sortD (is.map PyData.int)) := by
        rw [← sort_same kin_int hlen (fun d hd => by obtain ⟨i, _, rfl⟩ := List.mem_map.mp hd; exact .int i)]
        exact zip_reps fun b hb => reps_zip h2 b ((List.mergeSort_perm _ _).mem_iff.mp hb)
      exact out_lst S h hr hp
    · cases e
theorem b1_ok {f : B1} {v : V} {d : D} {r : R} (hf : b1B f = true) (S : Sim K ρ F σ H) (hx : View K F H v d) (e : b1 f d = some r) (h : Out T K W ρ F σ H (relE K σ) (.ok (r, ρ)) Q) : rB1 K f [v] H Q := by
  cases f <;> first | (cases hf; done) | skip
  · -- len
    cases d <;> first | (cases e; done) | skip
    · rename_i x
      unfold Mlg.b1 at e
      dsimp only at e
      split at e
      · rename_i c
        cases e
        rw [hx.str]
        exact .inr ⟨x, rfl, Nat.le_trans (Nat.le_of_lt c) lim_le, out_val S h (.int _)⟩
      · cases e
    · cases e
      obtain ⟨a, vs, rfl, h1, h2⟩ := hx.list S.fh
      refine .inl ⟨a, vs, rfl, .inl h1, ?_⟩
      rw [h2.length]
      exact out_val S h (.int _)
    · cases e
      obtain ⟨a, vs, rfl, h1, _, h2⟩ := hx.tuple S.fh
      refine .inl ⟨a, vs, rfl, .inr (SqT.of h1), ?_⟩
      rw [h2.length]
      exact out_val S h (.int _)
  · -- abs
    cases d <;> first | (cases e; done) | skip
    cases e
    rw [hx.int]
    exact ⟨_, rfl, out_val S h (.int _)⟩
  · -- int
    cases d <;> first | (cases e; done) | skip
    · cases e
      rw [hx.bool]
      exact .inl (.inr ⟨_, rfl, out_val S h (.int _)⟩)
    · cases e
      rw [hx.int]
      exact .inl (.inl ⟨_, rfl, out_val S h (.int _)⟩)
    · rename_i x
      rw [hx.str]
      replace e : (match x.cps.toList with
        | [c] => if 48 ≤ c ∧ c ≤ 57 then some (R.val (.int (c - 48 : Nat))) else none
        | [c, d] => if 48 ≤ c ∧ c ≤ 57 ∧ 48 ≤ d ∧ d ≤ 57 then some (R.val (.int (10 * (c - 48) + (d - 48) : Nat))) else none
        | cs => intS cs) = some r := e
      obtain ⟨cps⟩ := x
      split at e
      · rename_i c hc
        split at e
        · rename_i hd
          cases e
          have ex : cps = #[c] := by rw [← Array.toList_inj]; exact hc
          subst ex
          refine .inr ⟨_, ((c - 48 : Nat) : Int), rfl, ?_, by show 1 ≤ 640; decide, out_val S h (.int _)⟩
          have := int_one ⟨c - 48, by omega⟩
          rw [show 48 + (c - 48) = c by omega] at this
          exact this
        · cases e
      · rename_i c d hc
        split at e
        · rename_i hd
          cases e
          have ex : cps = #[c, d] := by rw [← Array.toList_inj]; exact hc
          subst ex
          refine .inr ⟨_, ((10 * (c - 48) + (d - 48) : Nat) : Int), rfl, ?_, by show 2 ≤ 640; decide, out_val S h (.int _)⟩
          have := int_two ⟨c - 48, by omega⟩ ⟨d - 48, by omega⟩
          rw [show 48 + (c - 48) = c by omega, show 48 + (d - 48) = d by omega] at this
          exact this
        · cases e
      · unfold intS at e
        split at e
        · rename_i hd
          cases e
          refine .inr ⟨_, _, rfl, int_fig (x := ⟨cps⟩) hd.2.1 hd.1 hd.2.2, ?_, out_val S h (.int _)⟩
          have e1 : (⟨cps⟩ : PySem.Str).cps.toList.length = (⟨cps⟩ : PySem.Str).length := Array.length_toList
          have := hd.1
          omega
        · cases e
  · -- str
    cases d <;> first | (cases e; done) | skip
    rename_i i
    unfold Mlg.b1 at e
    dsimp only at e
    split at e
    · rename_i c
      cases e
      rw [hx.int]
      refine ⟨i, rfl, ?_, ?_⟩
      · have : i.natAbs < 2 ^ 1920 := Nat.lt_of_lt_of_le (show i.natAbs < 2 ^ 10 by omega) (Nat.pow_le_pow_right (by decide) (by decide))
        by_cases z : i.natAbs = 0
        · rw [z]; decide
        · exact (Nat.log2_lt z).mpr this
      · rw [str_small (i := i) (by omega) (by omega)]
        exact out_val S h (.str _)
    · unfold strB at e
      split at e
      · rename_i c
        cases e
        rw [hx.int]
        refine ⟨i, rfl, ?_, ?_⟩
        · have : i.natAbs < 2 ^ 1920 := Nat.lt_of_lt_of_le (show i.natAbs < 2 ^ 30 by omega) (Nat.pow_le_pow_right (by decide) (by decide))
          by_cases z : i.natAbs = 0
          · rw [z]; decide
          · exact (Nat.log2_lt z).mpr this
        · rw [str_big (i := i) (by omega) (by omega)]
          exact out_val S h (.str _)
      · cases e
  · -- min
    exact mm_ok S hx e h
  · -- max
    exact mm_ok S hx e h
  · -- sum
    cases d <;> first | (cases e; done) | skip
    rename_i ds
    have e : (Mlg.intsD ds).map (fun is => R.val (.int is.sum)) = some r := e
    cases q2 : Mlg.intsD ds with
    | none => rw [q2] at e; cases e
    | some is =>
      rw [q2] at e
      cases e
      obtain ⟨a, vs, rfl, h1, h2⟩ := hx.list S.fh
      obtain ⟨h3, _⟩ := h2.ints q2
      subst h3
      exact ⟨a, is, rfl, h1, out_val S h (.int _)⟩
  · -- all
    cases d <;> first | (cases e; done) | skip
    rename_i ds
    have e : (Mlg.bools ds).map (fun bs => R.val (.bool (bs.all id))) = some r := e
    cases q2 : Mlg.bools ds with
    | none => rw [q2] at e; cases e
    | some bs =>
      rw [q2] at e
      cases e
      obtain ⟨a, vs, rfl, h1, h2⟩ := hx.list S.fh
      have h3 := h2.bools q2
      subst h3
      exact ⟨a, bs, rfl, h1, out_val S h (.bl _)⟩
  · -- sorted
    exact sort_ok S hx e h
  · -- list
    cases d <;> first | (cases e; done) | skip
    · rename_i z
      replace e : (if z.cps.size < lim then some (R.tmp (.lst (chars z))) else none) = some r := e
      split at e
      · rename_i c
        cases e
        rw [hx.str]
        refine .inr (.inr (.inr ⟨z, rfl, Nat.le_trans (Nat.le_of_lt c) lim_le, fun p hp => out_lst S h ?_ hp⟩))
        unfold chars
        generalize z.cps.toList = cs
        induction cs with
        | nil => exact .nil
        | cons c cs ih => exact .cons (.str _) ih
      · cases e
    · cases e
      obtain ⟨a, vs, rfl, h1, h2⟩ := hx.list S.fh
      exact .inl ⟨a, vs, rfl, .inl h1, fun p hp => out_lst S h h2 hp⟩
    · cases e
      obtain ⟨a, vs, rfl, h1, _, h2⟩ := hx.tuple S.fh
      exact .inl ⟨a, vs, rfl, .inr (SqT.of h1), fun p hp => out_lst S h h2 hp⟩
  · -- tuple
    cases d <;> first | (cases e; done) | skip
    · cases e
      obtain ⟨a, vs, rfl, h1, h2⟩ := hx.list S.fh
      exact ⟨a, vs, rfl, .inl ⟨h1, fun p hp => out_tup S h h2 hp⟩⟩
    · cases e
      obtain ⟨a, vs, rfl, h1, f1, h2⟩ := hx.tuple S.fh
      exact ⟨a, vs, rfl, .inr ⟨SqT.of h1, out_val S h (.tup f1 h2)⟩⟩
end
/-- one argument of a built-in -/
theorem le_one {K : Frag} {W : WX} {m : Env → Res (R × Env)} {kk : R → Env → Res (R × Env)} {r : List V → Hp → VK → Prop} {σ : St} {H : Hp} {Q : VK}
    (hop : ∀ (ρ : Env) (F H' : Hp) (r1 : R) (x : V) (H0 : Hp), Sim K ρ F σ H' → RelR K H0 σ ρ F H' x r1 → Out T K W ρ F σ H' (relE K σ) (kk r1 ρ) Q → r [x] H' Q)
    (h : LE T K W (fun ρ => (m ρ).bind fun p => kk p.1 p.2) σ H Q) : tCB r (tCons (LE T K W m) tNil) σ H Q := by
  obtain ⟨ρ, F, S, h⟩ := h
  exact ⟨ρ, F, S, Out.bind back_E h fun r1 ρ1 x F1 H1 s1 S1 rl1 h1 => hop ρ1 F1 H1 r1 x H S1 rl1 h1⟩
def kB1 (f : B1) (r : R) (ρ : Env) : Res (R × Env) := match look ρ r with
  | some x => (Res.of (b1 f x)).bind fun r => .ok (r, ρ)
  | none => .no
theorem kB1_ok {K : Frag} {W : WX} {f : B1} {ρ : Env} {F H H0 : Hp} {σ : St} {Q : VK} {r : R} {v : V} (S : Sim K ρ F σ H) (rl : RelR K H0 σ ρ F H v r) (h : Out T K W ρ F σ H (relE K σ) (kB1 f r ρ) Q) : ∃ d r', View K F H v d ∧ b1 f d = some r' ∧ Out T K W ρ F σ H (relE K σ) (.ok (r', ρ)) Q := by
  unfold kB1 at h
  cases e : look ρ r with
  | none => rw [e] at h; exact h.elim
  | some d =>
    rw [e] at h
    obtain ⟨r', er, h⟩ := out_of h
    exact ⟨d, r', look_ok S rl e, er, h⟩
/-! ### isinstance -/
def tyStr : Ty → String
  | .int => "int" | .bool => "bool" | .str => "str" | .tuple => "tuple" | .list => "list" | .dict => "dict"
def tyOf : D → String
  | .none => "NoneType" | .bool _ => "bool" | .int _ => "int" | .str _ => "str" | .list _ => "list" | .tuple _ => "tuple" | .dict _ => "dict"
theorem boot_ty (t : Ty) : bootBuiltins (tynm t) = some (.type (tyStr t)) := by
  cases t <;> decide +kernel
theorem mem_ty (t : Ty) : tynm t ∈ builtins := by cases t <;> decide
/-- a datum's kind, by one of its kind -/
def kdOf : Fin 7 → D
  | 0 => .none | 1 => .bool true | 2 => .int 0 | 3 => .str ⟨#[]⟩ | 4 => .list [] | 5 => .tuple [] | 6 => .dict []
theorem kit_kd (t : Ty) (i : Fin 7) : kitB (tyOf (kdOf i)) (tyStr t) = some (isTy t (kdOf i)) := by
  revert i
  cases t <;> decide +kernel
theorem kit_of_ty (K : Frag) (t : Ty) (d : D) : PySem.W.kitOne K (.type (tyOf d)) (.type (tyStr t)) = some (isTy t d) := by
  cases d
  · exact kit_ty (kit_kd t 0)
  · have h := kit_kd t 1; cases t <;> exact kit_ty h
  · have h := kit_kd t 2; cases t <;> exact kit_ty h
  · have h := kit_kd t 3; cases t <;> exact kit_ty h
  · have h := kit_kd t 4; cases t <;> exact kit_ty h
  · have h := kit_kd t 5; cases t <;> exact kit_ty h
  · have h := kit_kd t 6; cases t <;> exact kit_ty h
theorem tups_ok {K : Frag} {F H : Hp} (fh : Same F H) : ∀ {vs : List V} {ds : List D} {ls : List (List Int)}, Reps K F vs ds → tupsD ds = some ls → ∃ ks : List (Addr × List Int), vs = ks.map (fun p => V.ref p.1) ∧ ls = ks.map (·.2) ∧ ∀ p ∈ ks, SqT K H p.1 (p.2.map V.int)
  | _, _, ls, .nil, e => by cases e; exact ⟨[], rfl, rfl, fun p hp => by cases hp⟩
  | _, _, ls, .cons (d := d) (ds := ds) h r, e => by
    cases d <;> first | (cases e; done) | skip
    rename_i xs
    replace e : (Mlg.intsD xs).bind (fun is => (tupsD ds).map (is :: ·)) = some ls := e
    cases q : Mlg.intsD xs with
    | none => rw [q] at e; cases e
    | some is =>
      rw [q] at e
      replace e : (tupsD ds).map (is :: ·) = some ls := e
      cases q2 : tupsD ds with
      | none => rw [q2] at e; cases e
      | some l2 =>
        rw [q2] at e
        cases e
        obtain ⟨ks, e1, e2, g⟩ := tups_ok fh r q2
        cases h with
        | tup ha hr =>
          rename_i a ws
          obtain ⟨g3, _⟩ := hr.ints q
          subst g3 e1 e2
          refine ⟨(a, is) :: ks, rfl, rfl, fun p hp => ?_⟩
          rcases List.mem_cons.mp hp with rfl | hp
          · exact sqT_mono fh (SqT.of ha)
          · exact g p hp
theorem ls_ok {f : B1} {a : Mlg.E} (ia : PrE fnm T call k N a) {X : Cx} {W : WX} {sc : Scope} {n : Str} {p pos : Pos} {x : Expr} (C : Cok fnm T call k N X sc) (tk : Takes X W) (h : (match f, x with
      | .lenset, .Call (.Name m _) [y] [] _ => bltB sc "len" n && bltB sc "set" m && plainX y && mE fnm N sc a y
      | .sortset, .Call (.Name m _) [y] [] _ => bltB sc "sorted" n && bltB sc "set" m && plainX y && mE fnm N sc a y
      | _, _ => false) = true) : PE X (.Call (.Name n p) [x] [] pos) (LE T X.K W (Mlg.eval call (.b1 f a))) ∧ ∃ y ys p' pos', (Expr.Call (.Name n p) [x] [] pos) = .Call (.Name y p') ys [] pos' := by
  refine ⟨?_, _, _, _, _, rfl⟩
  split at h
  · rename_i m pm y py
    obtain ⟨h1, hp, h2⟩ := and3 h
    obtain ⟨hn, hm⟩ := and2 h1
    obtain ⟨rfl, hg⟩ := bltB_ok hn
    obtain ⟨rfl, hg2⟩ := bltB_ok hm
    refine PE.imp (pe_lenSetT C.calm (by have := C.room.un; omega) (by show X.env.scope.names.lookup _ = _; rw [C.hsc]; exact hg) (C.G.bl _ (by decide)) (by show X.env.scope.names.lookup _ = _; rw [C.hsc]; exact hg2) (C.G.bl _ (by decide)) (ia X W sc y C tk h2) (starEach_plain hp)) fun σ H Q q => ?_
    obtain ⟨ρ, F, S, q⟩ := q
    refine ⟨ρ, F, S, Out.bind back_E q fun r1 ρ1 v F1 H1 s1 S1 rl1 h1 => ?_⟩
    obtain ⟨d, r', hv, er, h⟩ := kB1_ok (f := .lenset) S1 rl1 h1
    replace er : (((items d).bind Mlg.intsD).bind (fun is => if is.length ≤ 4000 then some (R.val (.int (dedupI is).length)) else none)).or (lsT d) = some r' := er
    have split2 : ((items d).bind Mlg.intsD).bind (fun is => if is.length ≤ 4000 then some (R.val (.int (dedupI is).length)) else none) = some r' ∨ lsT d = some r' := by
      revert er
      generalize ((items d).bind Mlg.intsD).bind (fun is => if is.length ≤ 4000 then some (R.val (.int (dedupI is).length)) else none) = z
      intro er
      cases z with
      | none => exact .inr er
      | some y => exact .inl er
    clear er
    rcases split2 with er | er
    rotate_left
    · right
      cases d <;> first | (cases er; done) | skip
      rename_i ds
      replace er : (tupsD ds).bind (fun ls => if ls.length < 64 then some (R.val (.int (dedupL ls).length)) else none) = some r' := er
      cases q : tupsD ds with
      | none => rw [q] at er; cases er
      | some ls =>
        rw [q] at er
        replace er : (if ls.length < 64 then some (R.val (.int (dedupL ls).length)) else none) = some r' := er
        split at er
        · rename_i c
          cases er
          obtain ⟨a, vs, rfl, g1, g2⟩ := hv.list S1.fh
          obtain ⟨ks, e1, e2, g3⟩ := tups_ok S1.fh g2 q
          subst e1 e2
          exact ⟨a, ks, rfl, g1, g3, by simpa using c, out_val S1 h (.int _)⟩
        · cases er
    left
    have fin : ∀ {ds : List D}, (Mlg.intsD ds).bind (fun is => if is.length ≤ 4000 then some (R.val (.int (dedupI is).length)) else none) = some r' → ∃ is, Mlg.intsD ds = some is ∧ is.length ≤ 4000 ∧ r' = .val (.int (dedupI is).length) := by
      intro ds e
      cases q : Mlg.intsD ds with
      | none => rw [q] at e; cases e
      | some is =>
        rw [q] at e
        replace e : (if is.length ≤ 4000 then some (R.val (.int (dedupI is).length)) else none) = some r' := e
        split at e
        · rename_i c; cases e; exact ⟨is, rfl, c, rfl⟩
        · cases e
    cases d <;> first | (cases er; done) | skip
    · obtain ⟨is, ei, hl, rfl⟩ := fin er
      obtain ⟨a, vs, rfl, g1, g2⟩ := hv.list S1.fh
      obtain ⟨g3, _⟩ := g2.ints ei
      subst g3
      exact ⟨a, is, rfl, .inl g1, hl, out_val S1 h (.int _)⟩
    · obtain ⟨is, ei, hl, rfl⟩ := fin er
      obtain ⟨a, vs, rfl, g1, _, g2⟩ := hv.tuple S1.fh
      obtain ⟨g3, _⟩ := g2.ints ei
      subst g3
      exact ⟨a, is, rfl, .inr (SqT.of g1), hl, out_val S1 h (.int _)⟩
  · rename_i m pm y py
    obtain ⟨h1, hp, h2⟩ := and3 h
    obtain ⟨hn, hm⟩ := and2 h1
    obtain ⟨rfl, hg⟩ := bltB_ok hn
    obtain ⟨rfl, hg2⟩ := bltB_ok hm
    refine PE.imp (pe_sortSet C.calm (by show X.env.scope.names.lookup _ = _; rw [C.hsc]; exact hg) (C.G.bl _ (by decide)) (by show X.env.scope.names.lookup _ = _; rw [C.hsc]; exact hg2) (C.G.bl _ (by decide)) (ia X W sc y C tk h2) (starEach_plain hp)) fun σ H Q q => ?_
    obtain ⟨ρ, F, S, q⟩ := q
    refine ⟨ρ, F, S, Out.bind back_E q fun r1 ρ1 v F1 H1 s1 S1 rl1 h1 => ?_⟩
    obtain ⟨d, r', hv, er, h⟩ := kB1_ok (f := .sortset) S1 rl1 h1
    cases d <;> first | (cases er; done) | skip
    rename_i ds
    replace er : ssI ds = some r' := er
    unfold ssI at er
    cases q2 : Mlg.intsD ds with
    | none => rw [q2] at er; cases er
    | some is =>
      rw [q2] at er
      replace er : (if is.length ≤ 4000 ∧ (dedupI is).length < 64 then some (R.tmp (.lst (sortD ((dedupI is).map .int)))) else none) = some r' := er
      split at er
      · rename_i c
        cases er
        obtain ⟨a, vs, rfl, g1, g2⟩ := hv.list S1.fh
        obtain ⟨g3, _⟩ := g2.ints q2
        subst g3
        refine ⟨a, is, rfl, g1, c.1, c.2, fun ns p en hp => out_lst S1 h ?_ hp⟩
        rw [← en]
        clear en
        induction ns with
        | nil => exact .nil
        | cons c cs ih => exact .cons (.int _) ih
      · cases er
  · cases h
theorem e_b1 (f : B1) {a : Mlg.E} (ia : PrE fnm T call k N a) : PrE fnm T call k N (.b1 f a) ∧ PrT fnm T call k N (.b1 f a) := by
  have key : ∀ (X : Cx) (W : WX) (sc : Scope) (x : Expr), Cok fnm T call k N X sc → Takes X W → mE fnm N sc (.b1 f a) x = true → PE X x (LE T X.K W (Mlg.eval call (.b1 f a))) ∧ ∃ y ys p pos, x = .Call (.Name y p) ys [] pos := by
    intro X W sc x C tk h
    unfold mE at h
    try dsimp only at h
    split at h
    · rename_i n p x pos
      rcases (Bool.or_eq_true _ _).mp h with h | h
      rotate_left
      · exact ls_ok ia C tk h
      obtain ⟨h1, hp, h2⟩ := and3 h
      obtain ⟨hf, hn⟩ := and2 h1
      refine ⟨PE.imp (pe_b1 C hf hn hp (ia X W sc x C tk h2)) fun σ H Q q => ?_, _, _, _, _, rfl⟩
      refine le_one (kk := kB1 f) (fun ρ F H' r1 x H0 S rl h => ?_) q
      obtain ⟨d, r', hv, er, h⟩ := kB1_ok S rl h
      exact b1_ok hf S hv er h
    · rename_i n p x y p2 pos
      split at h
      · rename_i t
        cases h
      · cases h
    · cases h
  refine ⟨fun X W sc x C tk h => (key X W sc x C tk h).1, fun X W sc x C tk ht h => ?_⟩
  obtain ⟨h1, y, ys, p, pos, rfl⟩ := key X W sc x C tk h
  exact pt_of h1 (by intro _; rfl)
def rB2 : B2 → List V → Hp → VK → Prop
  | .min => fun xs H Q => ∃ i j, xs = [.int i, .int j] ∧ Q (.int (if j < i then j else i)) H
  | .max => fun xs H Q => ∃ i j, xs = [.int i, .int j] ∧ Q (.int (if j > i then j else i)) H
theorem e_b2 (f : B2) {a b : Mlg.E} (ia : PrE fnm T call k N a) (ib : PrE fnm T call k N b) : PrE fnm T call k N (.b2 f a b) := by
  intro X W sc x C tk h
  unfold mE at h
  try dsimp only at h
  split at h
  · rename_i n p x y pos
    obtain ⟨h1, hpy, h2⟩ := and3 h
    obtain ⟨hn, hpx⟩ := and2 h1
    obtain ⟨h2, h3⟩ := and2 h2
    have ha : PA X [x, y] (tCons (LE T X.K W (Mlg.eval call a)) (tCons (LE T X.K W (Mlg.eval call b)) tNil)) := pa_cons (ia X W sc x C tk h2) (pa_cons (ib X W sc y C tk h3) pa_nil (starEach_plain hpy)) (starEach_plain hpx)
    have hps : ∀ z ∈ [x, y], plainX z = true := fun z hz => by
      rcases List.mem_cons.mp hz with rfl | hz
      · exact hpx
      · rw [List.mem_singleton] at hz; rw [hz]; exact hpy
    have hc : PE X (.Call (.Name n p) [x, y] [] pos) (tCB (rB2 f) (tCons (LE T X.K W (Mlg.eval call a)) (tCons (LE T X.K W (Mlg.eval call b)) tNil))) := by
      cases f with
      | min => exact callB_of C hn (by decide) (call_min2 C.calm) (by decide +kernel) hps ha (by decide) (by decide)
      | max => exact callB_of C hn (by decide) (call_max2 C.calm) (by decide +kernel) hps ha (by decide) (by decide)
    refine PE.imp hc fun σ H Q q => ?_
    obtain ⟨ρ, F, S, q⟩ := q
    refine ⟨ρ, F, S, Out.bind back_E q fun r1 ρ1 v F1 H1 s1 S1 rl1 h1 => ⟨ρ1, F1, S1, Out.bind back_E h1 fun r2 ρ2 u F2 H2 s2 S2 rl2 h2 => ?_⟩⟩
    have rl1 := rl1.step S1 S2 s2
    cases r1 with
    | tmp _ => exact h2.elim
    | loc _ => exact h2.elim
    | val dx =>
      cases r2 with
      | tmp _ => exact h2.elim
      | loc _ => exact h2.elim
      | val dy =>
        obtain ⟨r, er, h⟩ := out_of h2
        cases f <;> (cases dx <;> first | (cases er; done) | skip) <;> (cases dy <;> first | (cases er; done) | skip)
        · cases er; cases rl1; cases rl2; exact ⟨_, _, rfl, out_val S2 h (.int _)⟩
        · cases er; cases rl1; cases rl2; exact ⟨_, _, rfl, out_val S2 h (.int _)⟩
  · cases h
end
end Msd
/-! Sound9: subscripts, slices, displays, methods of lists. -/
namespace Msd
open PySem PySem.Spec PyProof.Rows L2 Mlg
section
variable {K : Frag} {F H : Hp}
theorem plain_ix {y : Expr} (h : plainX y = true) : PlainIx y := by
  intro o i
  cases y <;> first | rfl | cases h
theorem Reps.atI {vs : List V} {ds : List D} (r : Reps K F vs ds) {i : Int} {d : D} (h : (place ds.length i).bind (fun j => ds[j]?) = some d) : ∃ v, atI vs i = some v ∧ Rep K F v d := by
  have e : place ds.length i = ixN vs.length i := by rw [r.length]; rfl
  rw [e] at h
  unfold L2.atI
  cases q : ixN vs.length i with
  | none => rw [q] at h; cases h
  | some j =>
    rw [q] at h
    exact r.get' h
end
section
variable {fnm : Nat → Option Str} {T : Errs} {call : CallT} {k : Nat} {N : List Str}
section
variable {K : Frag} {W : WX} {ρ : Env} {F H : Hp} {σ : St} {Q : VK}
theorem ix_ok {x y : V} {dx dy : D} {r : R} (S : Sim K ρ F σ H) (hx : View K F H x dx) (hy : Rep K F y dy) (e : ixD dx dy = some r) (h : Out T K W ρ F σ H (relE K σ) (.ok (r, ρ)) Q) : rIx K x y H Q ∨ rIxDc x y H Q := by
  cases dx <;> first | (cases e; done) | skip
  · -- a text
    cases dy <;> first | (cases e; done) | skip
    rename_i z i
    unfold ixD at e
    dsimp only at e
    split at e
    · rename_i c
      cases q : place z.cps.toList.length i with
      | none => rw [q] at e; cases e
      | some j =>
        rw [q] at e
        have e : (z.cps.toList[j]?).map (fun c => R.val (.str ⟨#[c]⟩)) = some r := e
        cases q2 : z.cps.toList[j]? with
        | none => rw [q2] at e; cases e
        | some ch =>
          rw [q2] at e
          cases e
          cases hy
          rw [hx.str]
          refine .inl (.inr (.inr ⟨z, i, ch, rfl, rfl, Nat.le_trans (Nat.le_of_lt c) lim_le, ?_, out_val S h (.str _)⟩))
          unfold L2.atI
          rw [show ixN z.cps.toList.length i = some j from q]
          exact q2
    · cases e
  · cases dy <;> first | (cases e; done) | skip
    rename_i xs i
    have e : (place xs.length i).bind (fun j => (xs[j]?).map R.val) = some r := e
    obtain ⟨a, vs, rfl, h1, h2⟩ := hx.list S.fh
    cases q : (place xs.length i).bind fun j => xs[j]? with
    | none =>
      cases q2 : place xs.length i with
      | none => rw [q2] at e; cases e
      | some j => rw [q2] at e q; have q : xs[j]? = none := q; have e : (xs[j]?).map R.val = some r := e; rw [q] at e; cases e
    | some d =>
      have er : r = .val d := by
        cases q2 : place xs.length i with
        | none => rw [q2] at q; cases q
        | some j => rw [q2] at e q; have q : xs[j]? = some d := q; have e : (xs[j]?).map R.val = some r := e; rw [q] at e; cases e; rfl
      subst er
      obtain ⟨v, h3, h4⟩ := h2.atI q
      cases hy
      exact .inl (.inl ⟨a, vs, i, v, rfl, rfl, h1, h3, out_val S h h4⟩)
  · cases dy <;> first | (cases e; done) | skip
    rename_i xs i
    have e : (place xs.length i).bind (fun j => (xs[j]?).map R.val) = some r := e
    obtain ⟨a, vs, rfl, h1, f1, h2⟩ := hx.tuple S.fh
    cases q : (place xs.length i).bind fun j => xs[j]? with
    | none =>
      cases q2 : place xs.length i with
      | none => rw [q2] at e; cases e
      | some j => rw [q2] at e q; have q : xs[j]? = none := q; have e : (xs[j]?).map R.val = some r := e; rw [q] at e; cases e
    | some d =>
      have er : r = .val d := by
        cases q2 : place xs.length i with
        | none => rw [q2] at q; cases q
        | some j => rw [q2] at e q; have q : xs[j]? = some d := q; have e : (xs[j]?).map R.val = some r := e; rw [q] at e; cases e; rfl
      subst er
      obtain ⟨v, h3, h4⟩ := h2.atI q
      cases hy
      exact .inl (.inr (.inl ⟨a, vs, i, v, rfl, rfl, SqT.of h1, h3, out_val S h h4⟩))
end
theorem e_ix {a i : Mlg.E} (ia : PrE fnm T call k N a) (ii : PrE fnm T call k N i) : PrE fnm T call k N (.ix a i) ∧ PrT fnm T call k N (.ix a i) := by
  have key : ∀ (X : Cx) (W : WX) (sc : Scope) (x : Expr), Cok fnm T call k N X sc → Takes X W → mE fnm N sc (.ix a i) x = true → PE X x (LE T X.K W (Mlg.eval call (.ix a i))) ∧ ∃ y z p, x = .Subscript y z p := by
    intro X W sc x C tk h
    unfold mE at h
    try dsimp only at h
    split at h
    · rename_i x y p
      obtain ⟨hp, h1⟩ := and2 h
      obtain ⟨h1, h2⟩ := and2 h1
      refine ⟨PE.imp (pe_ix (IxR.or ix_seq (ix_dic (by have := C.room.un; omega))) (ia X W sc x C tk h1) (ii X W sc y C tk h2) (plain_ix hp)) fun σ H Q q => ?_, _, _, _, rfl⟩
      refine le_two (kk := fun r1 r2 ρ => match look ρ r1, r2 with
        | some x, .val y => (Res.of (ixD x y)).bind fun r => .ok (r, ρ)
        | _, _ => .no) (fun ρ F H' r1 r2 x y H0 S h1 h2 h => ?_) q
      try dsimp only at h
      cases e1 : look ρ r1 with
      | none => rw [e1] at h; exact h.elim
      | some dx =>
        rw [e1] at h
        cases r2 with
        | tmp _ => exact h.elim
        | loc _ => exact h.elim
        | val dy =>
          obtain ⟨r, er, h⟩ := out_of h
          exact ix_ok S (look_ok S h1 e1) h2 er h
    · cases h
  refine ⟨fun X W sc x C tk h => (key X W sc x C tk h).1, fun X W sc x C tk ht h => ?_⟩
  obtain ⟨h1, y, z, p, rfl⟩ := key X W sc x C tk h
  exact pt_of h1 (by intro _; rfl)

/-! ### slices -/
theorem sIx_is (n d : Nat) (o : Option Int) : HT.sIx n d o = Mlg.sIx n d o := by cases o <;> rfl
theorem Reps.cut {K : Frag} {F : Hp} {vs : List V} {ds : List D} (r : Reps K F vs ds) (lo hi : Option Int) : Reps K F (cutV vs lo hi) (cutL ds lo hi) := by
  unfold cutV cutL
  rw [r.length, sIx_is, sIx_is]
  exact (r.drop _).take _
abbrev relOI : St → Hp → Env → Hp → Hp → Option Int → Option Int → Prop := fun _ _ _ _ _ a b => a = b
theorem back_OI {σ : St} : Back (relOI σ) := fun _ _ _ _ _ _ _ _ h => h
def PrO (fnm : Nat → Option Str) (T : Errs) (call : CallT) (k : Nat) (N : List Str) (e : Mlg.Eo) : Prop :=
  ∀ (X : Cx) (W : WX) (sc : Scope) (x : Option Expr), Cok fnm T call k N X sc → Takes X W → mEo fnm N sc e x = true → PO X x (LX T X.K W relOI (Mlg.evalo call e))
theorem PO.imp {X : Cx} {x : Option Expr} {t t' : TO} (h : PO X x t) (i : ∀ σ H Q, t' σ H Q → t σ H Q) : PO X x t' := ⟨fun pins s σ H Q I q => h.run pins s σ H Q I (i σ H Q q)⟩
theorem o_no : PrO fnm T call k N .no := by
  intro X W sc x C tk h
  unfold mEo at h
  try dsimp only at h
  split at h
  · exact PO.imp po_none fun σ H Q q => by obtain ⟨ρ, F, S, q⟩ := q; exact q none F H .refl S rfl
  · cases h
theorem o_so {e : Mlg.E} (ie : PrE fnm T call k N e) : PrO fnm T call k N (.so e) := by
  intro X W sc x C tk h
  unfold mEo at h
  try dsimp only at h
  split at h
  · rename_i x
    refine PO.imp (po_some (ie X W sc x C tk h)) fun σ H Q q => ?_
    obtain ⟨ρ, F, S, q⟩ := q
    refine ⟨ρ, F, S, Out.bind back_OI q fun r1 ρ1 v F1 H1 s1 S1 rl1 h1 => ?_⟩
    cases r1 with
    | tmp _ => exact h1.elim
    | loc _ => exact h1.elim
    | val d =>
      cases d <;> first | exact h1.elim | skip
      cases rl1
      exact ⟨_, rfl, h1 _ F1 H1 .refl S1 rfl⟩
  · cases h
def rSlAll (K : Frag) : V → Option Int → Option Int → Hp → VK → Prop := fun x lo hi H Q => rSlL K x lo hi H Q ∨ rSlA K x lo hi H Q ∨ L2.rSlS x lo hi H Q
theorem cut_whole {α : Type} {xs : List α} {lo hi : Option Int} (h : Mlg.sIx xs.length 0 lo = 0 ∧ Mlg.sIx xs.length xs.length hi = xs.length) : cutL xs lo hi = xs := by
  unfold cutL
  rw [h.1, h.2, List.drop_zero, Nat.sub_zero, List.take_length]
theorem e_sl {a : Mlg.E} {lo hi : Mlg.Eo} (ia : PrE fnm T call k N a) (il : PrO fnm T call k N lo) (ih : PrO fnm T call k N hi) : PrE fnm T call k N (.sl a lo hi) := by
  intro X W sc x C tk h
  unfold mE at h
  try dsimp only at h
  split at h
  · rename_i x l u p2 pos
    obtain ⟨h1, h2, h3⟩ := and3 h
    refine PE.imp (pe_slice (r := rSlAll X.K) (SlR.or sl_list (SlR.or sl_tupA sl_str)) (ia X W sc x C tk h1) (il X W sc l C tk h2) (ih X W sc u C tk h3)) fun σ H Q q => ?_
    obtain ⟨ρ, F, S, q⟩ := q
    refine ⟨ρ, F, S, Out.bind back_E q fun r1 ρ1 x F1 H1 s1 S1 rl1 h1 => ⟨ρ1, F1, S1, Out.bind back_E h1 fun o2 ρ2 o2' F2 H2 s2 S2 rl2 h2 => ⟨ρ2, F2, S2, Out.bind back_E h2 fun o3 ρ3 o3' F3 H3 s3 S3 rl3 h3 => ?_⟩⟩⟩
    have rl1 := (rl1.step S1 S2 s2).step S2 S3 s3
    subst rl2 rl3
    try dsimp only at h3
    cases e1 : look ρ3 r1 with
    | none => rw [e1] at h3; exact h3.elim
    | some d =>
      rw [e1] at h3
      obtain ⟨r, er, h⟩ := out_of h3
      have hv := look_ok S3 rl1 e1
      cases d <;> first | (cases er; done) | skip
      · rename_i z
        replace er : (if z.cps.size < lim then some (R.val (.str ⟨(cutL z.cps.toList o2' o3').toArray⟩)) else none) = some r := er
        split at er
        · rename_i cz
          cases er
          rw [hv.str]
          refine .inr (.inr ⟨z, rfl, Nat.le_trans (Nat.le_of_lt cz) lim_le, ?_⟩)
          have ec : cutS z o2' o3' = ⟨(cutL z.cps.toList o2' o3').toArray⟩ := by
            unfold cutS cutL
            rw [sIx_is, sIx_is]
            rfl
          rw [ec]
          exact out_val S3 h (.str _)
        · cases er
      · cases er
        obtain ⟨a, vs, rfl, h4, h5⟩ := hv.list S3.fh
        exact .inl ⟨a, vs, rfl, h4, fun p hp => out_lst S3 h (h5.cut _ _) hp⟩
      · cases er
        obtain ⟨a, vs, rfl, h4, f4, h5⟩ := hv.tuple S3.fh
        refine .inr (.inl ⟨a, vs, rfl, SqT.of h4, fun c => ?_, fun c p hp => out_tup S3 h (h5.cut _ _) hp⟩)
        rw [sIx_is, sIx_is, h5.length] at c
        rw [cut_whole c] at h
        exact out_val S3 h (.tup f4 h5)
  · cases h

/-! ### displays -/
theorem fix_ok {K : Frag} {ρ ρ' : Env} {F H H0 : Hp} {σ : St} {v : V} {r : R} {d : D} (S : Sim K ρ F σ H) (rl : RelR K H0 σ ρ F H v r) (e : fix ρ r = some (d, ρ')) :
    ∃ F', Sim K ρ' F' σ H ∧ Rep K F' v d ∧ Same F F' ∧ (∀ p, Own ρ' σ p → Own ρ σ p) ∧ (∀ p, OwnU ρ' σ p → OwnU ρ σ p) ∧ (∀ p, F p = none → (H0 p ≠ none ∧ ¬ OwnU ρ σ p) → F' p = none) := by
  cases r with
  | val d' => cases e; exact ⟨F, S, rl, .refl _, fun _ h => h, fun _ h => h, fun _ h _ => h⟩
  | tmp o =>
    obtain ⟨d', hd, e⟩ := Option.map_eq_some_iff.mp (show o.toD.map (fun d => (d, ρ)) = some (d, ρ') from e)
    cases e
    obtain ⟨p, rfl, hF, ho, hn, h0⟩ := rl
    obtain ⟨u, hu, hr⟩ := ho.rep hF hd
    exact ⟨_, S.freezeNew hu hF hn, hr, same_new hF, fun _ h => h, fun _ h => h, fun q h ⟨h1, _⟩ => by rw [upd_ne (show q ≠ p from fun z => h1 (z ▸ h0))]; exact h⟩
  | loc i =>
    obtain ⟨rl, _⟩ := rl
    unfold fix at e
    dsimp only at e
    split at e
    · rename_i d' hi
      cases e
      obtain ⟨v', h1, h2⟩ := S.slot i _ hi
      rw [rl] at h1
      cases h1
      exact ⟨F, S, h2, .refl _, fun _ h => h, fun _ h => h, fun _ h _ => h⟩
    · rename_i o hi
      obtain ⟨d', hd, e⟩ := Option.map_eq_some_iff.mp e
      cases e
      obtain ⟨p, u, h1, h2, h3, h4, h5, h6⟩ := S.freeze hi hd
      rw [rl] at h1
      cases h1
      refine ⟨_, h5, h4, same_new h3, fun q hq => ?_, fun q hq => ?_, fun q h ⟨_, hn⟩ => ?_⟩
      · refine own_sub (fun j s o' hj ho => ?_) q hq
        rcases isOwn_set (lt_of_get hi) hj ho with ⟨_, z⟩ | ⟨_, hj⟩
        · cases z
        · exact ⟨s, o', hj, ho⟩
      · obtain ⟨j, o', hj, ej⟩ := hq
        rcases isOwn_set (lt_of_get hi) hj rfl with ⟨_, z⟩ | ⟨_, hj⟩
        · cases z
        · exact ⟨j, o', hj, ej⟩
      · rw [upd_ne (show q ≠ p from fun z => hn ⟨i, o, hi, z ▸ rl⟩)]; exact h
    · cases e
/-- a value made of a result, over the state ahead -/
theorem fix_step {K : Frag} {ρ ρ1 ρ' : Env} {F F1 H H1 : Hp} {σ : St} {v : V} {r : R} {d : D} (st : Step ρ σ F H ρ1 σ F1 H1) (S : Sim K ρ1 F1 σ H1) (rl : RelR K H σ ρ1 F1 H1 v r) (e : fix ρ1 r = some (d, ρ')) :
    ∃ F', Step ρ σ F H ρ' σ F' H1 ∧ Sim K ρ' F' σ H1 ∧ Rep K F' v d := by
  obtain ⟨F', S', hr, ex, ow, owU, fr⟩ := fix_ok S rl e
  refine ⟨F', ⟨st.ext.trans ex, st.keep, st.dom, fun p q => st.own p (ow p q), fun p q => st.ownU p (owU p q), fun p h1 h2 h3 h4 => ?_⟩, S', hr⟩
  exact fr p (st.frz p h1 h2 h3 h4) ⟨h2, fun q => (st.ownU p q).elim h3 h2⟩
abbrev relV (K : Frag) : St → Hp → Env → Hp → Hp → List V → List D → Prop := fun _ _ _ F' _ vs ds => Reps K F' vs ds
theorem back_V {K : Frag} {σ : St} : Back (relV K σ) := fun _ _ _ _ _ _ _ _ h => h
def PrV (fnm : Nat → Option Str) (T : Errs) (call : CallT) (k : Nat) (N : List Str) (es : Mlg.Es) : Prop :=
  ∀ (X : Cx) (W : WX) (sc : Scope) (xs : List Expr), Cok fnm T call k N X sc → Takes X W → mEs fnm N sc es xs = true → PA X xs (LX T X.K W (relV X.K) (Mlg.evalv call es))
theorem v_nil : PrV fnm T call k N .nil := by
  intro X W sc x C tk h
  unfold mEs at h
  try dsimp only at h
  split at h
  · exact PA.imp pa_nil fun σ H Q q => by obtain ⟨ρ, F, S, q⟩ := q; exact q [] F H .refl S .nil
  · cases h
theorem v_cons {e : Mlg.E} {es : Mlg.Es} (ie : PrE fnm T call k N e) (is : PrV fnm T call k N es) : PrV fnm T call k N (.cons e es) := by
  intro X W sc x C tk h
  unfold mEs at h
  try dsimp only at h
  split at h
  · rename_i x xs
    obtain ⟨hp, h1⟩ := and2 h
    obtain ⟨h1, h2⟩ := and2 h1
    refine PA.imp (pa_cons (ie X W sc x C tk h1) (is X W sc xs C tk h2) (starEach_plain hp)) fun σ H Q q => ?_
    obtain ⟨ρ, F, S, q⟩ := q
    refine ⟨ρ, F, S, Out.bind0 q fun r1 ρ1 v F1 H1 s1 S1 rl1 h1 => ?_⟩
    try dsimp only at h1
    cases ef : fix ρ1 r1 with
    | none => rw [ef] at h1; exact h1.elim
    | some p =>
      obtain ⟨d, ρ'⟩ := p
      rw [ef] at h1
      obtain ⟨F', st', S', hr⟩ := fix_step s1 S1 rl1 ef
      refine ⟨ρ', F', S', Out.bind back_V (Out.rebase back_V st' h1) fun ds ρ2 vs F2 H2 s2 S2 rl2 h2 => ?_⟩
      exact h2 _ F2 H2 .refl S2 (.cons (hr.mono s2.ext) rl2)
  · cases h
theorem v_star {e : Mlg.E} {es : Mlg.Es} (ie : PrE fnm T call k N e) (is : PrV fnm T call k N es) : PrV fnm T call k N (.star e es) := by
  intro X W sc x C tk h
  unfold mEs at h
  try dsimp only at h
  split at h
  · rename_i x p xs
    obtain ⟨h1, h2⟩ := and2 h
    refine PA.imp (StX.pa_star (ie X W sc x C tk h1) (is X W sc xs C tk h2)) fun σ H Q q => ?_
    obtain ⟨ρ, F, S, q⟩ := q
    refine ⟨ρ, F, S, Out.bind back_V q fun r1 ρ1 v F1 H1 s1 S1 rl1 h1 => ?_⟩
    cases r1 with
    | tmp _ => exact h1.elim
    | loc _ => exact h1.elim
    | val d =>
      replace h1 : Out T X.K W ρ1 F1 σ H1 (relV X.K σ) ((Res.of (items d)).bind fun xs => (Mlg.evalv call es ρ1).bind fun q => .ok (xs ++ q.1, q.2)) Q := h1
      cases ei : items d with
      | none => rw [ei] at h1; exact h1.elim
      | some ds =>
        rw [ei] at h1
        have hv : View X.K F1 H1 v d := .inl (.inl rl1)
        obtain ⟨a, vs, ev, hs, hr⟩ := hv.seq S1.fh ei
        refine ⟨a, vs, ev, hs.symm, ρ1, F1, S1, Out.bind back_V (show Out T X.K W ρ1 F1 σ H1 (relV X.K σ) ((Mlg.evalv call es ρ1).bind fun q => .ok (ds ++ q.1, q.2)) Q from h1) fun ds2 ρ2 vs2 F2 H2 s2 S2 rl2 h2 => ?_⟩
        exact h2 _ F2 H2 .refl S2 ((hr.mono s2.ext).append rl2)
  · cases h
theorem small_le {ds : List D} (h : small ds = true) : ds.length ≤ sizeLine := Nat.le_trans (Nat.le_of_lt (of_decide_eq_true h)) lim_le
theorem e_tup {es : Mlg.Es} (is : PrV fnm T call k N es) : PrE fnm T call k N (.tup es) := by
  intro X W sc x C tk h
  unfold mE at h
  try dsimp only at h
  split at h
  · rename_i xs j pos
    refine PE.imp (pe_tup (is X W sc xs C tk h)) fun σ H Q q => ?_
    obtain ⟨ρ, F, S, q⟩ := q
    refine ⟨ρ, F, S, Out.bind back_E q fun ds ρ1 vs F1 H1 s1 S1 rl1 h1 => ?_⟩
    try dsimp only at h1
    split at h1
    · rename_i c
      exact ⟨by rw [Reps.length rl1]; exact small_le c, fun p hp => out_tup S1 h1 rl1 hp⟩
    · exact h1.elim
  · cases h
theorem e_lst {es : Mlg.Es} (is : PrV fnm T call k N es) : PrE fnm T call k N (.lst es) := by
  intro X W sc x C tk h
  unfold mE at h
  try dsimp only at h
  split at h
  · rename_i xs pos
    refine PE.imp (pe_lst (is X W sc xs C tk h)) fun σ H Q q => ?_
    obtain ⟨ρ, F, S, q⟩ := q
    refine ⟨ρ, F, S, Out.bind back_E q fun ds ρ1 vs F1 H1 s1 S1 rl1 h1 => ?_⟩
    try dsimp only at h1
    split at h1
    · rename_i c
      exact ⟨by rw [Reps.length rl1]; exact small_le c, fun p hp => out_lst S1 h1 rl1 hp⟩
    · exact h1.elim
  · cases h
/-! ### xs.append(e), xs.pop(..) -/
theorem ownL_ok {ρ : Env} {i : Nat} {xs : List D} (h : ownL ρ i = some xs) : ρ[i]? = some (.own (.lst xs)) := by
  unfold ownL at h
  split at h
  · rename_i ys e; cases h; exact e
  · cases h
theorem ownL_at {K : Frag} {ρ : Env} {F H : Hp} {σ : St} {i : Nat} (S : Sim K ρ F σ H) (h : (ownL ρ i).isSome = true) : ∃ p vs, σ[i]? = some (some (.ref p)) ∧ H p = some (.lst vs) := by
  cases e : ownL ρ i with
  | none => rw [e] at h; cases h
  | some xs =>
    obtain ⟨p, h1, _, vs, h2, _⟩ := S.slot i _ (ownL_ok e)
    exact ⟨p, vs, h1, h2⟩
theorem few_one {y : Expr} {cpos : Pos} {env : PySem.Env} (hp : plainX y = true) : ((backTo cpos (starEach [y] env)).all (fun x => !x.1) && (backToKw cpos (keywordEach [] env)).all (fun x => x.1.isSome)
      && decide ([y].length + ([] : List Keyword).length + (if ([] : List Keyword).isEmpty then 0 else 1) < 30)) = true := by
  rw [starEach_plain hp]; rfl
theorem e_app (i : Nat) {a : Mlg.E} (ia : PrE fnm T call k N a) : PrE fnm T call k N (.app i a) := by
  intro X W sc x C tk h
  unfold mE at h
  try dsimp only at h
  split at h
  · rename_i x p m apos y cpos
    obtain ⟨h1, hp, h2⟩ := and3 h
    obtain ⟨h1, hn, hl⟩ := and3 h1
    obtain ⟨hm, hN, hv⟩ := and3 h1
    obtain ⟨n1, n2, _⟩ := nameB_ok hn
    have e : m = ("append" : Str) := of_decide_eq_true hm
    subst e
    have po : PE X (.Name x p) (tVar i) := pe_var (i := i) (by rw [C.hN]; exact of_decide_eq_true hN) (by rw [C.hsc]; exact visB_ok hv) n1 n2
    have pa : PA X [y] (tCons (LE T X.K W (Mlg.eval call a)) tNil) := pa_cons (ia X W sc y C tk h2) pa_nil (starEach_plain hp)
    refine PE.imp (pe_bm PySem.F.plainAttrs_list PySem.F.slot_list_append PySem.F.type_list_append mt_append po pa (by rfl) (few_one hp) hl (starEach_plain hp) (by rfl)) fun σ H Q q => ?_
    obtain ⟨ρ, F, S, q⟩ := q
    unfold Mlg.eval at q
    split at q
    · rename_i c
      obtain ⟨pa0, vs0, g1, g2⟩ := ownL_at S c
      refine ⟨_, g1, .inl ⟨rfl, vs0, SqL.of g2⟩, ρ, F, S, Out.bind0 q fun r1 ρ1 v F1 H1 s1 S1 rl1 h1 => ?_⟩
      try dsimp only at h1
      cases ef : fix ρ1 r1 with
      | none => rw [ef] at h1; exact h1.elim
      | some pr =>
        obtain ⟨d, ρ'⟩ := pr
        rw [ef] at h1
        try dsimp only at h1
        obtain ⟨F', st', S', hr⟩ := fix_step s1 S1 rl1 ef
        have h1 := Out.rebase back_E st' h1
        cases eo : ownL ρ' i with
        | none => rw [eo] at h1; exact h1.elim
        | some xs =>
          rw [eo] at h1
          try dsimp only at h1
          split at h1
          · rename_i cs
            obtain ⟨p', k1, kF, vs, k2, k3⟩ := S'.slot i _ (ownL_ok eo)
            rw [g1] at k1
            cases k1
            obtain ⟨S2, st2⟩ := S'.change (u := .lst (vs ++ [v])) (o' := .lst (xs ++ [d])) (ownL_ok eo) g1 ⟨_, upd_same, k3.append (.cons hr .nil)⟩
            refine ⟨pa0, vs, v, rfl, rfl, k2, ?_, h1 .non F' _ st2 S2 .non⟩
            rw [k3.length]
            exact Nat.lt_of_lt_of_le (of_decide_eq_true cs) lim_le
          · exact h1.elim
    · exact q.elim
  · cases h
theorem e_pop (i : Nat) {a : Mlg.Eo} (ia : ∀ e, a = .so e → PrE fnm T call k N e) : PrE fnm T call k N (.pop i a) := by
  intro X W sc x C tk h
  unfold mE at h
  try dsimp only at h
  split at h
  · rename_i x p m apos y cpos
    obtain ⟨h1, hp, h2⟩ := and3 h
    obtain ⟨h1, hn, hl⟩ := and3 h1
    obtain ⟨hm, hN, hv⟩ := and3 h1
    obtain ⟨n1, n2, _⟩ := nameB_ok hn
    have e : m = ("pop" : Str) := of_decide_eq_true hm
    subst e
    cases a with
    | no => unfold mEo at h2; cases h2
    | so e =>
      have h2 : mE fnm N sc e y = true := by unfold mEo at h2; exact h2
      have po : PE X (.Name x p) (tVar i) := pe_var (i := i) (by rw [C.hN]; exact of_decide_eq_true hN) (by rw [C.hsc]; exact visB_ok hv) n1 n2
      have pa : PA X [y] (tCons (LE T X.K W (Mlg.eval call e)) tNil) := pa_cons (ia e rfl X W sc y C tk h2) pa_nil (starEach_plain hp)
      refine PE.imp (pe_bm PySem.F.plainAttrs_list PySem.F.slot_list_pop PySem.F.type_list_pop mt_popAt po pa (by rfl) (few_one hp) hl (starEach_plain hp) (by rfl)) fun σ H Q q => ?_
      obtain ⟨ρ, F, S, q⟩ := q
      unfold Mlg.eval at q
      split at q
      · rename_i c
        obtain ⟨pa0, vs0, g1, g2⟩ := ownL_at S c
        refine ⟨_, g1, .inl ⟨rfl, vs0, SqL.of g2⟩, ρ, F, S, ?_⟩
        unfold Mlg.evalo at q
        have q : Out T X.K W ρ F σ H (relE X.K σ) ((Mlg.eval call e ρ).bind fun p => (match p.1 with
            | .val (.int i) => Res.ok (some i, p.2)
            | _ => .no).bind fun p => match ownL p.2 i with
          | some xs => (match p.1 with
            | none => (match xs[xs.length - 1]? with | some x => .ok (.val x, p.2.set i (.own (.lst xs.dropLast))) | none => .no)
            | some j => if 0 ≤ j ∧ j < 1000000 then (match xs[j.toNat]? with | some x => .ok (.val x, p.2.set i (.own (.lst (xs.eraseIdx j.toNat)))) | none => .no) else .no)
          | none => .no) Q := by
          cases hq : Mlg.eval call e ρ with
          | no => rw [hq] at q; exact q
          | exc c f ρ' => rw [hq] at q; exact q
          | ok p => rw [hq] at q; exact q
        refine Out.bind back_E q fun r1 ρ1 v F1 H1 s1 S1 rl1 h1 => ?_
        cases r1 with
        | tmp _ => exact h1.elim
        | loc _ => exact h1.elim
        | val d =>
          cases d <;> first | exact h1.elim | skip
          rename_i j
          cases rl1
          have h1 : Out T X.K W ρ1 F1 σ H1 (relE X.K σ) (match ownL ρ1 i with
            | some xs => (if 0 ≤ j ∧ j < 1000000 then (match xs[j.toNat]? with | some x => .ok (.val x, ρ1.set i (.own (.lst (xs.eraseIdx j.toNat)))) | none => .no) else .no)
            | none => .no) Q := h1
          cases eo : ownL ρ1 i with
          | none => rw [eo] at h1; exact h1.elim
          | some xs =>
            rw [eo] at h1
            try dsimp only at h1
            split at h1
            · rename_i cj
              cases ex : xs[j.toNat]? with
              | none => rw [ex] at h1; exact h1.elim
              | some x =>
                rw [ex] at h1
                obtain ⟨p', k1, kF, vs, k2, k3⟩ := S1.slot i _ (ownL_ok eo)
                rw [g1] at k1
                cases k1
                obtain ⟨v, ev, hv⟩ := k3.get' ex
                obtain ⟨S2, st2⟩ := S1.change (u := .lst (vs.eraseIdx j.toNat)) (o' := .lst (xs.eraseIdx j.toNat)) (ownL_ok eo) g1 ⟨_, upd_same, k3.eraseIdx _⟩
                refine ⟨pa0, vs, j, j.toNat, v, rfl, rfl, k2, by omega, by omega, ?_, ev, h1 v F1 _ st2 S2 hv⟩
                have hlt := lt_of_get ev
                unfold seqIndex?
                have n1 : ¬ j < 0 := by omega
                simp only [n1, if_false]
                rw [if_pos]
                have a1 : decide (0 ≤ j) = true := decide_eq_true cj.1
                have a2 : decide (j < (vs.length : Int)) = true := decide_eq_true (by omega)
                rw [a1, a2]
                rfl
            · exact h1.elim
      · exact q.elim
  · rename_i x p m apos cpos
    obtain ⟨h1, hl, h2⟩ := and3 h
    obtain ⟨h1, hv, hn⟩ := and3 h1
    obtain ⟨hm, hN⟩ := and2 h1
    obtain ⟨n1, n2, _⟩ := nameB_ok hn
    have e : m = ("pop" : Str) := of_decide_eq_true hm
    subst e
    cases a with
    | so e => unfold mEo at h2; cases h2
    | no =>
      have po : PE X (.Name x p) (tVar i) := pe_var (i := i) (by rw [C.hN]; exact of_decide_eq_true hN) (by rw [C.hsc]; exact visB_ok hv) n1 n2
      refine PE.imp (pe_bm0 PySem.F.plainAttrs_list PySem.F.slot_list_pop PySem.F.type_list_pop mt_pop po (by rfl) hl) fun σ H Q q => ?_
      obtain ⟨ρ, F, S, q⟩ := q
      unfold Mlg.eval at q
      split at q
      · rename_i c
        obtain ⟨pa0, vs0, g1, g2⟩ := ownL_at S c
        refine ⟨_, g1, .inl ⟨rfl, vs0, SqL.of g2⟩, ?_⟩
        have q : Out T X.K W ρ F σ H (relE X.K σ) (match ownL ρ i with
          | some xs => (match xs[xs.length - 1]? with | some x => .ok (.val x, ρ.set i (.own (.lst xs.dropLast))) | none => .no)
          | none => .no) Q := q
        cases eo : ownL ρ i with
        | none => rw [eo] at q; exact q.elim
        | some xs =>
          rw [eo] at q
          try dsimp only at q
          cases ex : xs[xs.length - 1]? with
          | none => rw [ex] at q; exact q.elim
          | some x =>
            rw [ex] at q
            obtain ⟨p', k1, kF, vs, k2, k3⟩ := S.slot i _ (ownL_ok eo)
            rw [g1] at k1
            cases k1
            rw [← k3.length] at ex
            obtain ⟨v, ev, hv⟩ := k3.get' ex
            have hd : Reps X.K F vs.dropLast xs.dropLast := by
              rw [List.dropLast_eq_take, List.dropLast_eq_take, k3.length]
              exact k3.take _
            obtain ⟨S2, st2⟩ := S.change (u := .lst vs.dropLast) (o' := .lst xs.dropLast) (ownL_ok eo) g1 ⟨_, upd_same, hd⟩
            exact ⟨pa0, vs, v, rfl, rfl, k2, ev, q v F _ st2 S2 hv⟩
      · exact q.elim
  · cases h
end
end Msd
/-! SoundZ2: error objects as values, in the small language. -/
namespace Msd
open PySem PySem.Spec PyProof.Rows L2 Mlg
section
variable {fnm : Nat → Option Str} {T : Errs} {call : CallT} {k : Nat} {N : List Str}
theorem gloZ {X : Cx} {sc : Scope} {x : Str} (e : X.env.scope = sc) (h : gloB sc x = true) : Gl X x := by
  have : sc.names.lookup x = some .globalImplicit := of_decide_eq_true h
  show X.env.scope.names.lookup x = _
  rw [e]; exact this
theorem e_er0 (c : Nat) : PrE fnm T call k N (.er0 c) := by
  intro X W sc x C tk h
  unfold mE at h
  try dsimp only at h
  split at h
  · rename_i y py pos
    obtain ⟨h1, h2⟩ := and2 h
    obtain ⟨hc, hy⟩ := and2 h1
    obtain ⟨h2, hn, hf⟩ := (show _ ∧ _ ∧ _ from let ⟨a, b⟩ := and2 h2; let ⟨a1, a2⟩ := and2 a; ⟨a1, a2, b⟩)
    have hc : c < 14 := of_decide_eq_true hc
    have hy : fnm (600000 + c) = some y := of_decide_eq_true hy
    have hf : fldOf c = none := of_decide_eq_true hf
    obtain ⟨rfl, gC, kC, e0, _, kp⟩ := C.G.kx c y hc hy
    refine PE.imp (pe_er0 PySem.F.excBase_ValueError (e0 hf) gC kC (gloZ C.hsc h2) (nameB_ok hn).1) fun σ H Q q a ha => ?_
    obtain ⟨ρ, F, S, q⟩ := q
    exact q _ _ _ (Step.laidF (S.new ha).1 ha) (S.laidF ha) (.er0 c upd_same kp hf)
  · cases h
theorem e_er1 (c : Nat) {a : Mlg.E} (ia : PrE fnm T call k N a) : PrE fnm T call k N (.er1 c a) := by
  intro X W sc x C tk h
  unfold mE at h
  try dsimp only at h
  split at h
  · rename_i y py z pos
    obtain ⟨h1, hp, hz⟩ := and3 h
    obtain ⟨h1, h2⟩ := and2 h1
    obtain ⟨hc, hy⟩ := and2 h1
    obtain ⟨h2, hn, hf⟩ := (show _ ∧ _ ∧ _ from let ⟨a, b⟩ := and2 h2; let ⟨a1, a2⟩ := and2 a; ⟨a1, a2, b⟩)
    have hc : c < 14 := of_decide_eq_true hc
    have hy : fnm (600000 + c) = some y := of_decide_eq_true hy
    obtain ⟨f, hf⟩ : ∃ f, fldOf c = some f := by
      cases e : fldOf c with
      | none => rw [e] at hf; cases hf
      | some f => exact ⟨f, rfl⟩
    obtain ⟨rfl, gC, kC, _, e1, kp⟩ := C.G.kx c y hc hy
    refine PE.imp (pe_er1 (e1 f hf) (C.room.mono (by omega)) (gloZ C.hsc h2) gC (nameB_ok hn).1 (ia X W sc z C tk hz) (starEach_plain hp)) fun σ H Q q => ?_
    obtain ⟨ρ, F, S, q⟩ := q
    refine ⟨ρ, F, S, Out.bind0 q fun r1 ρ1 v F1 H1 s1 S1 rl1 h1 => ?_⟩
    intro a ha
    refine ⟨a, v, rfl, upd_same, fun dx hx ne => ⟨rfl, ?_⟩⟩
    rw [upd_ne ne] at hx
    try dsimp only at h1
    cases ef : fix ρ1 r1 with
    | none => rw [ef] at h1; exact h1.elim
    | some p =>
      obtain ⟨d, ρ2⟩ := p
      rw [ef] at h1
      try dsimp only at h1
      obtain ⟨F2, st2, S2, hr⟩ := fix_step s1 S1 rl1 ef
      have eH : upd (upd (upd H1 a (exo a (He.ga X.K (enm c)) none)) dx (exd dx [(f, v)])) a (exo a (He.ga X.K (enm c)) (some dx)) = upd (upd H1 dx (exd dx [(f, v)])) a (exo a (He.ga X.K (enm c)) (some dx)) := by
        funext b
        by_cases hb : b = a
        · subst hb; rw [upd_same, upd_same]
        · rw [upd_ne hb, upd_ne hb]
          by_cases hd : b = dx
          · subst hd; rw [upd_same, upd_same]
          · rw [upd_ne hd, upd_ne hd, upd_ne hb]
      rw [eH]
      have hxF := (S2.new hx).1
      have S3 := S2.laidF (u := exd dx [(f, v)]) hx
      have ha' : upd H1 dx (exd dx [(f, v)]) a = none := by rw [upd_ne (Ne.symm ne)]; exact ha
      have haF := (S3.new ha').1
      have s3 := (st2.trans (Step.laidF (u := exd dx [(f, v)]) hxF hx)).trans (Step.laidF (u := exo a (He.ga X.K (enm c)) (some dx)) haF ha')
      refine h1 _ _ _ s3 (S3.laidF ha') (.er1 c f upd_same (by rw [upd_ne ne, upd_same]) kp hf (hr.mono fun b u e => ?_))
      have hba : b ≠ a := ne_of_none (S2.fh _ _ e) ha
      have hbd : b ≠ dx := ne_of_none (S2.fh _ _ e) hx
      rw [upd_ne hba, upd_ne hbd]
      exact e
  · cases h
/-- what is asked of an error's class -/
theorem ecls_ok {K : Frag} {F H : Hp} {v : V} {d : D} {c : Nat} {b : Bool} (fh : Same F H) (r : Rep K F v d) (e : ecls c d = some b) (hc : c < 14 ∨ c = 100) :
    ∃ (a C : Addr) (dd : Option Addr), v = .ref a ∧ H a = some (exo a C dd) ∧ (∀ dx, dd = some dx → ∃ fs, H dx = some (exd dx fs)) ∧ KxC K C ∧ (c = 100 → PySem.W.kitOne K (.ref C) (.type "ValueError") = some b) ∧ (c < 14 → PySem.W.kitOne K (.ref C) (.ref (He.ga K (enm c))) = some b) := by
  have tab : ∀ j : Nat, KxP K j → some (decide (c = 100) || decide (c = 0) || decide ((c : Int) = (j : Int))) = some b → (c = 100 → PySem.W.kitOne K (.ref (He.ga K (enm j))) (.type "ValueError") = some b) ∧ (c < 14 → PySem.W.kitOne K (.ref (He.ga K (enm j))) (.ref (He.ga K (enm c))) = some b) := fun j kp eb => by
    constructor
    · rintro rfl
      rw [kp.kve]
      exact eb
    · intro h14
      rw [kp.kit c h14]
      have n100 : ¬ c = 100 := by omega
      rw [decide_eq_false n100, Bool.false_or] at eb
      rw [← eb]
      by_cases z : c = j
      · rw [decide_eq_true z, decide_eq_true (show (c : Int) = (j : Int) by omega)]
      · rw [decide_eq_false z, decide_eq_false (show ¬ (c : Int) = (j : Int) by omega)]
  cases d <;> first | (cases e; done) | skip
  rename_i kvs
  generalize hD : PyData.dict kvs = D0 at r
  cases r <;> first | (cases hD; done) | skip
  · rename_i a ks vs ds h1 h2 h3
    cases hD
    exfalso
    cases ks with
    | nil => cases e
    | cons k0 ks =>
      cases ds with
      | nil => cases e
      | cons d0 ds => cases k0 <;> cases e
  · rename_i a ks vs ds h1 h2 h3
    cases hD
    exfalso
    cases ks with
    | nil => cases e
    | cons k0 ks =>
      cases ds with
      | nil => cases e
      | cons d0 ds => cases e
  · rename_i a j h1 kp hf
    cases hD
    obtain ⟨t1, t2⟩ := tab j kp e
    exact ⟨a, _, none, rfl, fh _ _ h1, (fun dx z => by cases z), kp.toKxC, t1, t2⟩
  · rename_i a dx v d j f h1 h2 kp hf hr
    cases hD
    obtain ⟨t1, t2⟩ := tab j kp e
    exact ⟨a, _, some dx, rfl, fh _ _ h1, (fun y z => by cases z; exact ⟨_, fh _ _ h2⟩), kp.toKxC, t1, t2⟩
theorem e_isE (c : Nat) {a : Mlg.E} (ia : PrE fnm T call k N a) : PrE fnm T call k N (.isE c a) ∧ PrT fnm T call k N (.isE c a) := by
  have key : ∀ (X : Cx) (W : WX) (sc : Scope) (x : Expr), Cok fnm T call k N X sc → Takes X W → mE fnm N sc (.isE c a) x = true → PE X x (LE T X.K W (Mlg.eval call (.isE c a))) ∧ ∃ y ys p pos, x = .Call (.Name y p) ys [] pos := by
    intro X W sc x C tk h
    unfold mE at h
    try dsimp only at h
    split at h
    · rename_i n p x y p2 pos
      obtain ⟨h1, hy, h2⟩ := and3 h
      obtain ⟨hn, hp⟩ := and2 h1
      have hps : ∀ z ∈ [x, .Name y p2], plainX z = true := fun z hz => by
        rcases List.mem_cons.mp hz with rfl | hz
        · exact hp
        · rw [List.mem_singleton] at hz; rw [hz]; rfl
      obtain ⟨cv, cw, hcw, hb, hcc⟩ : ∃ (cv : V) (cw : Value), (∀ u, RelV cv u → u = cw) ∧ PE X (.Name y p2) (tC cv) ∧ ((c = 100 ∧ cw = .type "ValueError") ∨ (c < 14 ∧ cw = .ref (He.ga X.K (enm c)))) := by
        by_cases z : c = 100
        · rw [if_pos z] at hy
          obtain ⟨rfl, hg⟩ := bltB_ok hy
          exact ⟨.ty "ValueError", .type "ValueError", fun u r => r, pe_bltn (by show X.env.scope.names.lookup _ = _; rw [C.hsc]; exact hg) (C.G.bl _ (by decide)) (by decide +kernel) rfl (by decide) (by decide), .inl ⟨z, rfl⟩⟩
        · rw [if_neg z] at hy
          obtain ⟨h3, h4⟩ := and2 hy
          obtain ⟨hc, hy⟩ := and2 h3
          obtain ⟨h4, h5⟩ := and2 h4
          have hc : c < 14 := of_decide_eq_true hc
          obtain ⟨rfl, gC, _⟩ := C.G.kx c y hc (of_decide_eq_true hy)
          exact ⟨.ref (He.ga X.K (enm c)), _, fun u r => r, pe_glob (gloZ C.hsc h4) gC rfl (nameB_ok h5).1, .inr ⟨hc, rfl⟩⟩
      have ha : PA X [x, .Name y p2] (tCons (LE T X.K W (Mlg.eval call a)) (tCons (tC cv) tNil)) := pa_cons (ia X W sc x C tk h2) (pa_cons hb pa_nil) (starEach_plain hp)
      refine ⟨PE.imp (callB_of C hn (by decide) call_isX (by decide +kernel) hps ha (by decide) (by decide)) fun σ H Q q => ?_, _, _, _, _, rfl⟩
      obtain ⟨ρ, F, S, q⟩ := q
      refine ⟨ρ, F, S, Out.bind back_E q fun r1 ρ1 v F1 H1 s1 S1 rl1 h1 => ?_⟩
      cases r1 with
      | tmp _ => exact h1.elim
      | loc _ => exact h1.elim
      | val d =>
        replace h1 : Out T X.K W ρ1 F1 σ H1 (relE X.K σ) ((Res.of (ecls c d)).bind fun b => .ok (.val (.bool b), ρ1)) Q := h1
        cases e : ecls c d with
        | none => rw [e] at h1; exact h1.elim
        | some b =>
          rw [e] at h1
          obtain ⟨a0, C0, dd, rfl, g1, g2, g3, g4, g5⟩ := ecls_ok S1.fh rl1 e (by rcases hcc with z | z; exact .inr z.1; exact .inl z.1)
          refine ⟨a0, C0, dd, cv, cw, b, rfl, g1, g2, g3, hcw, ?_, out_val S1 h1 (.bl b)⟩
          rcases hcc with ⟨z, rfl⟩ | ⟨z, rfl⟩
          · exact g4 z
          · exact g5 z
    · cases h
  refine ⟨fun X W sc x C tk h => (key X W sc x C tk h).1, fun X W sc x C tk ht h => ?_⟩
  obtain ⟨h1, y, ys, p, pos, rfl⟩ := key X W sc x C tk h
  exact pt_of h1 (by intro _; rfl)
theorem efld_ok {K : Frag} {F H : Hp} {v : V} {d x : D} {f : Str} (fh : Same F H) (r : Rep K F v d) (e : efld f d = some x) :
    ∃ (a C dx : Addr) (u : V), v = .ref a ∧ H a = some (exo a C (some dx)) ∧ H dx = some (exd dx [(f, u)]) ∧ XfC K C ∧ PySem.W.findIn K (.ref C) f = some none ∧ Rep K F u x := by
  cases d <;> first | (cases e; done) | skip
  rename_i kvs
  generalize hD : PyData.dict kvs = D0 at r
  cases r <;> first | (cases hD; done) | skip
  · rename_i a ks vs ds h1 h2 h3
    cases hD
    exfalso
    cases ks with
    | nil => cases e
    | cons k0 ks =>
      cases ds with
      | nil => cases e
      | cons d0 ds => cases k0 <;> cases e
  · rename_i a ks vs ds h1 h2 h3
    cases hD
    exfalso
    cases ks with
    | nil => cases e
    | cons k0 ks =>
      cases ds with
      | nil => cases e
      | cons d0 ds => cases e
  · cases hD
    cases e
  · rename_i a dx v d j g h1 h2 kp hf hr
    cases hD
    replace e : (if (if (j : Int) = 7 then some ("index" : Str) else if (j : Int) = 13 then some ("word" : Str) else none) = some f then some d else none) = some x := e
    have hg : (if (j : Int) = 7 then some ("index" : Str) else if (j : Int) = 13 then some ("word" : Str) else none) = fldOf j := by
      unfold fldOf
      by_cases c1 : j = 7
      · rw [if_pos c1, if_pos (by omega)]
      · rw [if_neg c1, if_neg (by omega)]
        by_cases c2 : j = 13
        · rw [if_pos c2, if_pos (by omega)]
        · rw [if_neg c2, if_neg (by omega)]
    rw [hg, hf] at e
    split at e
    · rename_i z
      cases e
      cases z
      obtain ⟨x1, x2⟩ := kp.xf _ hf
      exact ⟨a, _, dx, v, rfl, fh _ _ h1, fh _ _ h2, x1, x2, hr⟩
    · cases e
theorem e_xfd (i : Nat) (f : Str) : PrE fnm T call k N (.xfd i f) := by
  intro X W sc x C tk h
  unfold mE at h
  try dsimp only at h
  split at h
  · rename_i y py g pg
    obtain ⟨h1, h2⟩ := and2 h
    obtain ⟨hN, hv, hn⟩ := and3 h1
    obtain ⟨n1, n2, _⟩ := nameB_ok hn
    have hg : g = f := of_decide_eq_true h2
    subst hg
    have po : PE X (.Name y py) (tVar i) := pe_var (i := i) (by rw [C.hN]; exact of_decide_eq_true hN) (by rw [C.hsc]; exact visB_ok hv) n1 n2
    refine PE.imp (pe_xfv po rfl) fun σ H Q q => ?_
    obtain ⟨ρ, F, S, q⟩ := q
    unfold Mlg.eval at q
    cases e : ρ[i]? with
    | none => rw [e] at q; exact q.elim
    | some s =>
      rw [e] at q
      cases s with
      | val d =>
        replace q : Out T X.K W ρ F σ H (relE X.K σ) ((Res.of (efld g d)).bind fun x => .ok (.val x, ρ)) Q := q
        cases e2 : efld g d with
        | none => rw [e2] at q; exact q.elim
        | some x =>
          rw [e2] at q
          obtain ⟨v, s1, rv⟩ := S.slot i _ e
          obtain ⟨a, C0, dx, u, rfl, g1, g2, g3, g4, g5⟩ := efld_ok S.fh rv e2
          exact ⟨_, s1, a, C0, dx, _, u, rfl, g1, g2, g3, g4, by simp [List.lookup], out_val S q g5⟩
      | un => exact q.elim
      | own _ => exact q.elim
      | lck _ => exact q.elim
      | ro _ => exact q.elim
  · cases h
end
end Msd
/-! Sound10: calls of the text's defs. -/
namespace Msd
open PySem PySem.Spec PyProof.Rows L2 Mlg
/-! ### what is handed over, what comes back -/
inductive Conv : Slot → Slot → Prop
  | own (o : O) : Conv (.own o) (.own o)
  | lck (o : O) : Conv (.lck o) (.own o)
  | val (d : D) : Conv (.val d) (.val d)
theorem argsOf_spec {ρ : Env} : ∀ {rs : List R} {ss : List Slot}, argsOf ρ rs = some ss → ss.length = rs.length ∧ ∀ (i : Nat) (r : R), rs[i]? = some r → ∃ s, ss[i]? = some s ∧ argOf ρ r = some s
  | [], ss, h => by cases h; exact ⟨rfl, fun i r e => by simp at e⟩
  | r :: rs, ss, h => by
    have h : (argOf ρ r).bind (fun s => (argsOf ρ rs).map (s :: ·)) = some ss := h
    cases e1 : argOf ρ r with
    | none => rw [e1] at h; cases h
    | some s =>
      rw [e1] at h
      have h : (argsOf ρ rs).map (s :: ·) = some ss := h
      cases e2 : argsOf ρ rs with
      | none => rw [e2] at h; cases h
      | some ss' =>
        rw [e2] at h
        cases h
        obtain ⟨h1, h2⟩ := argsOf_spec e2
        refine ⟨by simp [h1], fun i r' e => ?_⟩
        cases i with
        | zero => simp at e; subst e; exact ⟨s, by simp, e1⟩
        | succ i => simp at e; obtain ⟨s', a, b⟩ := h2 i r' e; exact ⟨s', by simpa using a, b⟩
theorem lent_mem {ρ : Env} : ∀ {rs : List R} {i j : Nat} {o : O}, rs[i]? = some (.loc j) → ρ[j]? = some (.own o) → j ∈ lent ρ rs
  | [], i, j, o, h, _ => by simp at h
  | r :: rs, i, j, o, h, ho => by
    cases i with
    | zero =>
      simp at h
      subst h
      unfold lent
      rw [ho]
      exact List.mem_append_left _ (by simp)
    | succ i =>
      simp at h
      have := lent_mem (ρ := ρ) h ho
      cases r with
      | val _ => exact this
      | tmp _ => exact this
      | loc _ => exact List.mem_append_right _ this
theorem lent_nodup {ρ : Env} : ∀ {rs : List R} {i i' j : Nat} {o : O}, nodupN (lent ρ rs) = true → rs[i]? = some (.loc j) → rs[i']? = some (.loc j) → ρ[j]? = some (.own o) → i = i'
  | [], i, _, j, o, _, h, _, _ => by simp at h
  | r :: rs, i, i', j, o, hn, h, h', ho => by
    have tail : nodupN (lent ρ rs) = true := by
      cases r with
      | val _ => exact hn
      | tmp _ => exact hn
      | loc a =>
        unfold lent at hn
        split at hn
        · exact (and2 hn).2
        · exact hn
    cases i with
    | zero =>
      cases i' with
      | zero => rfl
      | succ i' =>
        simp at h h'
        subst h
        have hm := lent_mem h' ho
        unfold lent at hn
        rw [ho] at hn
        have := (and2 hn).1
        simp [List.contains_iff_mem] at this
        exact absurd hm this
    | succ i =>
      cases i' with
      | zero =>
        simp at h h'
        subst h'
        have hm := lent_mem h ho
        unfold lent at hn
        rw [ho] at hn
        have := (and2 hn).1
        simp [List.contains_iff_mem] at this
        exact absurd hm this
      | succ i' =>
        simp at h h'
        rw [lent_nodup tail h h' ho]
theorem backArgs_spec : ∀ {rs : List R} {ss : List Slot} {ρ ρ' : Env}, backArgs ρ rs ss = some ρ' → ρ'.length = ρ.length ∧ ∀ j : Nat,
    (∀ o, ρ[j]? = some (.own o) → (∃ i : Nat, rs[i]? = some (.loc j)) → ∃ (i : Nat) (s t : Slot), rs[i]? = some (.loc j) ∧ ss[i]? = some s ∧ Conv s t ∧ ρ'[j]? = some t) ∧
    (((∀ o, ρ[j]? ≠ some (.own o)) ∨ ∀ i : Nat, rs[i]? ≠ some (.loc j)) → ρ'[j]? = ρ[j]?)
  | [], ss, ρ, ρ', h => by
    cases ss with
    | nil => cases h; exact ⟨rfl, fun j => ⟨fun o _ ⟨i, e⟩ => by simp at e, fun _ => rfl⟩⟩
    | cons _ _ => cases h
  | r :: rs, [], ρ, ρ', h => by cases r <;> cases h
  | r :: rs, s :: ss, ρ, ρ', h => by
    -- nothing of this one comes back
    have skip : backArgs ρ rs ss = some ρ' → (∀ j o, r = .loc j → ρ[j]? ≠ some (.own o)) → ρ'.length = ρ.length ∧ ∀ j : Nat,
        (∀ o, ρ[j]? = some (.own o) → (∃ i : Nat, (r :: rs)[i]? = some (.loc j)) → ∃ (i : Nat) (s' t : Slot), (r :: rs)[i]? = some (.loc j) ∧ (s :: ss)[i]? = some s' ∧ Conv s' t ∧ ρ'[j]? = some t) ∧
        (((∀ o, ρ[j]? ≠ some (.own o)) ∨ ∀ i : Nat, (r :: rs)[i]? ≠ some (.loc j)) → ρ'[j]? = ρ[j]?) := by
      intro h hr
      obtain ⟨h1, h2⟩ := backArgs_spec h
      refine ⟨h1, fun j => ⟨fun o ho ⟨i, e⟩ => ?_, fun c => ?_⟩⟩
      · cases i with
        | zero => simp at e; exact absurd ho (hr j o e)
        | succ i =>
          simp at e
          obtain ⟨i', s', t, a, b, c, d⟩ := (h2 j).1 o ho ⟨i, e⟩
          exact ⟨i' + 1, s', t, by simpa using a, by simpa using b, c, d⟩
      · refine (h2 j).2 (c.elim .inl fun c => .inr fun i e => c (i + 1) (by simpa using e))
    -- a lent one
    have put : ∀ a o t, r = .loc a → ρ[a]? = some (.own o) → Conv s t → backArgs (ρ.set a t) rs ss = some ρ' → ρ'.length = ρ.length ∧ ∀ j : Nat,
        (∀ o, ρ[j]? = some (.own o) → (∃ i : Nat, (r :: rs)[i]? = some (.loc j)) → ∃ (i : Nat) (s' t : Slot), (r :: rs)[i]? = some (.loc j) ∧ (s :: ss)[i]? = some s' ∧ Conv s' t ∧ ρ'[j]? = some t) ∧
        (((∀ o, ρ[j]? ≠ some (.own o)) ∨ ∀ i : Nat, (r :: rs)[i]? ≠ some (.loc j)) → ρ'[j]? = ρ[j]?) := by
      intro a o t er ha cv h
      have la := lt_of_get ha
      obtain ⟨h1, h2⟩ := backArgs_spec h
      refine ⟨by rw [h1, List.length_set], fun j => ⟨fun o' ho ⟨i, e⟩ => ?_, fun c => ?_⟩⟩
      · by_cases hj : j = a
        · subst hj
          cases t with
          | own o2 =>
            by_cases hx : ∃ i : Nat, rs[i]? = some (.loc j)
            · obtain ⟨i', s', t', a', b', c', d'⟩ := (h2 j).1 o2 (by rw [List.getElem?_set_self la]) hx
              exact ⟨i' + 1, s', t', by simpa using a', by simpa using b', c', d'⟩
            · refine ⟨0, s, _, by simp [er], by simp, cv, ?_⟩
              rw [(h2 j).2 (.inr fun i e => hx ⟨i, e⟩), List.getElem?_set_self la]
          | val d =>
            refine ⟨0, s, _, by simp [er], by simp, cv, ?_⟩
            rw [(h2 j).2 (.inl fun o e => by rw [List.getElem?_set_self la] at e; cases e), List.getElem?_set_self la]
          | un => cases cv
          | lck _ => cases cv
          | ro _ => cases cv
        · have hj' : (ρ.set a t)[j]? = ρ[j]? := List.getElem?_set_ne (Ne.symm hj)
          cases i with
          | zero => simp [er] at e; exact absurd e.symm hj
          | succ i =>
            simp at e
            obtain ⟨i', s', t', a', b', c', d'⟩ := (h2 j).1 o' (by rw [hj']; exact ho) ⟨i, e⟩
            exact ⟨i' + 1, s', t', by simpa using a', by simpa using b', c', d'⟩
      · have hj : j ≠ a := by
          rintro rfl
          rcases c with c | c
          · exact c o ha
          · exact c 0 (by simp [er])
        have hj' : (ρ.set a t)[j]? = ρ[j]? := List.getElem?_set_ne (Ne.symm hj)
        rw [← hj']
        refine (h2 j).2 ?_
        rcases c with c | c
        · exact .inl (by rw [hj']; exact c)
        · exact .inr fun i e => c (i + 1) (by simpa using e)
    cases r with
    | val d => exact skip h (fun _ _ e => by cases e)
    | tmp o => exact skip h (fun _ _ e => by cases e)
    | loc a =>
      unfold backArgs at h
      split at h
      · rename_i o1 o2 ha; exact put a _ _ rfl ha (.own _) h
      · rename_i o1 o2 ha; exact put a _ _ rfl ha (.lck _) h
      · rename_i o1 o2 ha; exact put a _ _ rfl ha (.val _) h
      · rename_i o1 ha; exact skip h (fun j o e => by cases e; rw [ha]; exact fun z => by cases z)
      · rename_i o1 ha; exact skip h (fun j o e => by cases e; rw [ha]; exact fun z => by cases z)
      · cases h

/-! ### the arguments -/
inductive RelRs (K : Frag) (H : Hp) (σ : St) (ρ' : Env) (F' H' : Hp) : List V → List R → Prop
  | nil : RelRs K H σ ρ' F' H' [] []
  | cons {v : V} {vs : List V} {r : R} {rs : List R} : RelR K H σ ρ' F' H' v r → RelRs K H σ ρ' F' H' vs rs →
      (∀ p o, v = .ref p → r = .tmp o → ∀ i : Nat, vs[i]? = some (.ref p) → ∀ o', rs[i]? ≠ some (.tmp o')) → RelRs K H σ ρ' F' H' (v :: vs) (r :: rs)
section
variable {K : Frag} {H : Hp} {σ : St} {ρ' : Env} {F' H' : Hp}
theorem RelRs.length : ∀ {vs : List V} {rs : List R}, RelRs K H σ ρ' F' H' vs rs → vs.length = rs.length
  | _, _, .nil => rfl
  | _, _, .cons _ r _ => by simp [RelRs.length r]
theorem RelRs.get : ∀ {vs : List V} {rs : List R} {i : Nat} {r : R}, RelRs K H σ ρ' F' H' vs rs → rs[i]? = some r → ∃ v, vs[i]? = some v ∧ RelR K H σ ρ' F' H' v r
  | _, _, _, _, .nil, e => by simp at e
  | _, _, 0, _, .cons h _ _, e => by simp at e; subst e; exact ⟨_, rfl, h⟩
  | _, _, i + 1, r, .cons _ t _, e => by
    obtain ⟨v, a, b⟩ := RelRs.get (i := i) t (by simpa using e)
    exact ⟨v, by simpa using a, b⟩
theorem RelRs.sep : ∀ {vs : List V} {rs : List R} {i j : Nat} {p : Addr} {o o' : O}, RelRs K H σ ρ' F' H' vs rs → rs[i]? = some (.tmp o) → rs[j]? = some (.tmp o') → vs[i]? = some (.ref p) → vs[j]? = some (.ref p) → i = j
  | _, _, _, _, _, _, _, .nil, e, _, _, _ => by simp at e
  | _, _, 0, 0, _, _, _, .cons _ _ _, _, _, _, _ => rfl
  | _, _, 0, j + 1, p, o, o', .cons _ _ d, e, e', ev, ev' => by
    simp at e ev
    subst e ev
    exact absurd (by simpa using e') (d p o rfl rfl j (by simpa using ev') o')
  | _, _, i + 1, 0, p, o, o', .cons _ _ d, e, e', ev, ev' => by
    simp at e' ev'
    subst e' ev'
    exact absurd (by simpa using e) (d p o' rfl rfl i (by simpa using ev) o)
  | _, _, i + 1, j + 1, _, _, _, .cons _ t _, e, e', ev, ev' => by
    exact congrArg (· + 1) (RelRs.sep t (i := i) (j := j) (by simpa using e) (by simpa using e') (by simpa using ev) (by simpa using ev'))
end
abbrev relA (K : Frag) : St → Hp → Env → Hp → Hp → List V → List R → Prop := fun σ H ρ' F' H' vs rs => RelRs K H σ ρ' F' H' vs rs
theorem back_A {K : Frag} {σ : St} : Back (relA K σ) := by
  intro H H1 ρ' F' H' vs rs hd h
  induction h with
  | nil => exact .nil
  | cons h t d ih => exact .cons (back_E _ _ _ _ _ _ _ hd h) ih d
section
variable {fnm : Nat → Option Str} {T : Errs} {call : CallT} {k : Nat} {N : List Str}
def PrA (fnm : Nat → Option Str) (T : Errs) (call : CallT) (k : Nat) (N : List Str) (es : Mlg.Es) : Prop := nst es = true →
  ∀ (X : Cx) (W : WX) (sc : Scope) (xs : List Expr), Cok fnm T call k N X sc → Takes X W → mEs fnm N sc es xs = true → PA X xs (LX T X.K W (relA X.K) (Mlg.evals call es)) ∧ ∀ x ∈ xs, plainX x = true
theorem a_star {e : Mlg.E} {es : Mlg.Es} : PrA fnm T call k N (.star e es) := fun h => by cases h
theorem a_nil : PrA fnm T call k N .nil := by
  intro _ X W sc x C tk h
  unfold mEs at h
  try dsimp only at h
  split at h
  · exact ⟨PA.imp pa_nil fun σ H Q q => by obtain ⟨ρ, F, S, q⟩ := q; exact q [] F H .refl S .nil, fun x hx => by simp at hx⟩
  · cases h
theorem a_cons {e : Mlg.E} {es : Mlg.Es} (ie : PrE fnm T call k N e) (is : PrA fnm T call k N es) : PrA fnm T call k N (.cons e es) := by
  intro hst X W sc x C tk h
  unfold mEs at h
  try dsimp only at h
  split at h
  · rename_i x xs
    obtain ⟨hp, h1⟩ := and2 h
    obtain ⟨h1, h2⟩ := and2 h1
    obtain ⟨i1, i2⟩ := is hst X W sc xs C tk h2
    refine ⟨PA.imp (pa_cons (ie X W sc x C tk h1) i1 (starEach_plain hp)) fun σ H Q q => ?_, fun y hy => ?_⟩
    · obtain ⟨ρ, F, S, q⟩ := q
      refine ⟨ρ, F, S, Out.bind0 q fun r1 ρ1 v F1 H1 s1 S1 rl1 h1 => ⟨ρ1, F1, S1, Out.bind1 (Rl := relA X.K σ) s1 h1 fun rs ρ2 vs F2 H2 s2 S2 rl2 h2 => ?_⟩⟩
      have rl1' := rl1.step S1 S2 s2
      refine h2 (v :: vs) F2 H2 (s1.trans s2) S2 (.cons rl1' (back_A _ _ _ _ _ _ _ s1.dom rl2) fun p o ev er i hi o' ho => ?_)
      · subst er ev
        obtain ⟨p', e', _, ho1, _, _⟩ := rl1
        cases e'
        obtain ⟨u, hu⟩ := ho1.at
        obtain ⟨v', hv', rv⟩ := rl2.get ho
        rw [hi] at hv'
        cases hv'
        obtain ⟨p'', e'', _, _, _, h0⟩ := rv
        cases e''
        rw [hu] at h0
        cases h0
    · rcases List.mem_cons.mp hy with rfl | hy
      · exact hp
      · exact i2 y hy
  · cases h
end
end Msd
/-! Sound11: the call itself. -/
namespace Msd
open PySem PySem.Spec PyProof.Rows L2 Mlg
section
variable {K : Frag} {ρ ρ' : Env} {F F' H H' H0 : Hp} {σ : St} {vs : List V} {rs : List R} {ss outs : List Slot}
theorem map_some {i : Nat} {x : Option V} (h : (vs.map some)[i]? = some x) : ∃ v, x = some v ∧ vs[i]? = some v := by
  rw [List.getElem?_map] at h
  cases e : vs[i]? with
  | none => rw [e] at h; cases h
  | some v => rw [e] at h; cases h; exact ⟨v, rfl, rfl⟩
theorem map_some' {i : Nat} {v : V} (h : vs[i]? = some v) : (vs.map some)[i]? = some (some v) := by
  rw [List.getElem?_map, h]; rfl
/-- an own argument: a new object, or a name's -/
theorem arg_own {i : Nat} {s : Slot} {o : O} (S : Sim K ρ F σ H) (rl : RelRs K H0 σ ρ F H vs rs) (ha : argsOf ρ rs = some ss) (hs : ss[i]? = some s) (ho : isOwn s = some o) :
    ∃ p, vs[i]? = some (.ref p) ∧ F p = none ∧ ObjR K F H p o ∧ s = .own o ∧ ((rs[i]? = some (.tmp o) ∧ ¬ Own ρ σ p ∧ H0 p = none) ∨ ∃ j, rs[i]? = some (.loc j) ∧ ρ[j]? = some (.own o) ∧ σ[j]? = some (some (.ref p))) := by
  obtain ⟨hl, hsp⟩ := argsOf_spec ha
  have hi : i < rs.length := by rw [← hl]; exact lt_of_get hs
  obtain ⟨s', h1, h2⟩ := hsp i rs[i] (List.getElem?_eq_getElem hi)
  rw [hs] at h1
  cases h1
  obtain ⟨v, hv, rv⟩ := rl.get (List.getElem?_eq_getElem hi)
  have er := List.getElem?_eq_getElem hi
  generalize rs[i] = r at h2 rv er
  cases r with
  | val d => cases h2; cases ho
  | tmp o' =>
    cases h2; cases ho
    obtain ⟨p, rfl, a, b, c, d⟩ := rv
    exact ⟨p, hv, a, b, rfl, .inl ⟨er, c, d⟩⟩
  | loc j =>
    unfold argOf at h2
    dsimp only at h2
    split at h2
    · cases h2; cases ho
    · rename_i o' hj
      cases h2; cases ho
      obtain ⟨p, a, b, c⟩ := S.slot j _ hj
      have rv := rv.1
      rw [rv] at a
      cases a
      exact ⟨p, hv, b, c, rfl, .inr ⟨j, er, hj, rv⟩⟩
    · cases h2; cases ho
    · cases h2
/-- the callee's state -/
theorem args_sim (S : Sim K ρ F σ H) (rl : RelRs K H0 σ ρ F H vs rs) (ha : argsOf ρ rs = some ss) (hn : nodupN (lent ρ rs) = true) : Sim K ss F (vs.map some) H := by
  obtain ⟨hl, hsp⟩ := argsOf_spec ha
  refine ⟨S.fh, by rw [List.length_map, hl, rl.length], fun i s hs => ?_, fun i j si sj oi oj p hi hj hoi hoj ei ej => ?_⟩
  · have hi : i < rs.length := by rw [← hl]; exact lt_of_get hs
    cases hO : isOwn s with
    | some o =>
      obtain ⟨p, h1, h2, h3, rfl, _⟩ := arg_own S rl ha hs hO
      exact ⟨p, map_some' h1, h2, h3⟩
    | none =>
      obtain ⟨s', h1, h2⟩ := hsp i rs[i] (List.getElem?_eq_getElem hi)
      rw [hs] at h1
      cases h1
      obtain ⟨v, hv, rv⟩ := rl.get (List.getElem?_eq_getElem hi)
      generalize rs[i] = r at h2 rv
      cases r with
      | val d => cases h2; exact ⟨v, map_some' hv, rv⟩
      | tmp o' => cases h2; cases hO
      | loc j =>
        unfold argOf at h2
        dsimp only at h2
        split at h2
        · rename_i d hj
          cases h2
          obtain ⟨v', a, b⟩ := S.slot j _ hj
          rw [rv.1] at a
          cases a
          exact ⟨v, map_some' hv, b⟩
        · cases h2; cases hO
        · rename_i xs hj
          cases h2
          obtain ⟨a, ws, b, c, d⟩ := S.slot j _ hj
          rw [rv.1] at b
          cases b
          exact ⟨a, ws, map_some' hv, c, d⟩
        · cases h2
  · obtain ⟨p1, a1, _, _, _, c1⟩ := arg_own S rl ha hi hoi
    obtain ⟨p2, a2, _, _, _, c2⟩ := arg_own S rl ha hj hoj
    obtain ⟨v1, e1, b1⟩ := map_some ei
    obtain ⟨v2, e2, b2⟩ := map_some ej
    cases e1
    cases e2
    rw [a1] at b1
    rw [a2] at b2
    cases b1
    cases b2
    rcases c1 with ⟨t1, n1, _⟩ | ⟨j1, l1, o1, q1⟩
    · rcases c2 with ⟨t2, n2, _⟩ | ⟨j2, l2, o2, q2⟩
      · exact rl.sep t1 t2 a1 a2
      · exact absurd ⟨j2, _, _, o2, rfl, q2⟩ n1
    · rcases c2 with ⟨t2, n2, _⟩ | ⟨j2, l2, o2, q2⟩
      · exact absurd ⟨j1, _, _, o1, rfl, q1⟩ n2
      · have := S.sep j1 j2 _ _ _ _ p o1 o2 rfl rfl q1 q2
        subst this
        exact lent_nodup hn l1 l2 o1
/-- what the callee does not own -/
theorem not_arg {p : Addr} (S : Sim K ρ F σ H) (rl : RelRs K H0 σ ρ F H vs rs) (ha : argsOf ρ rs = some ss) (h0 : H0 p ≠ none) (hO : ∀ j o, ρ[j]? = some (.own o) → σ[j]? = some (some (.ref p)) → ∀ i : Nat, rs[i]? ≠ some (.loc j)) : ¬ Own ss (vs.map some) p := by
  rintro ⟨i, s, o, h1, h2, h3⟩
  obtain ⟨p1, a1, _, _, _, c1⟩ := arg_own S rl ha h1 h2
  obtain ⟨v1, e1, b1⟩ := map_some h3
  cases e1
  rw [a1] at b1
  cases b1
  rcases c1 with ⟨_, _, n⟩ | ⟨j, l, o1, q⟩
  · exact h0 n
  · exact hO j o o1 q i l
/-- back at the caller -/
theorem back_sim {ρ0 : Env} {F0 : Hp} (s0 : Step ρ0 σ F0 H0 ρ σ F H) (S : Sim K ρ F σ H) (rl : RelRs K H0 σ ρ F H vs rs) (ha : argsOf ρ rs = some ss) (st : Step ss (vs.map some) F H outs (vs.map some) F' H') (S' : Sim K outs F' (vs.map some) H')
    (hb : backArgs ρ rs outs = some ρ') : Step ρ0 σ F0 H0 ρ' σ F' H' ∧ Sim K ρ' F' σ H' ∧ ∀ p, Own ρ' σ p → Own ρ σ p := by
  obtain ⟨bl, bs⟩ := backArgs_spec hb
  -- the names' objects behind the call
  have own_old : ∀ (j : Nat) (s : Slot) (o : O), ρ'[j]? = some s → isOwn s = some o → ∃ s' o', ρ[j]? = some s' ∧ isOwn s' = some o' := by
    intro j s o hs ho
    by_cases c : ∃ o', ρ[j]? = some (.own o')
    · obtain ⟨o', c⟩ := c
      exact ⟨_, o', c, rfl⟩
    · have := (bs j).2 (.inl fun o' e => c ⟨o', e⟩)
      rw [hs] at this
      exact ⟨s, o, this.symm, ho⟩
  have ownS : ∀ p, Own ρ' σ p → Own ρ σ p := fun p q => own_sub own_old p q
  have ownSU : ∀ p, OwnU ρ' σ p → OwnU ρ σ p := by
    rintro p ⟨j, o, hj, ej⟩
    by_cases c : ∃ o', ρ[j]? = some (.own o')
    · obtain ⟨o', c⟩ := c
      exact ⟨j, o', c, ej⟩
    · have := (bs j).2 (.inl fun o' e => c ⟨o', e⟩)
      rw [hj] at this
      exact ⟨j, o, this.symm, ej⟩
  have nA : ∀ p, H0 p ≠ none → ¬ OwnU ρ0 σ p → ¬ OwnU ss (vs.map some) p := fun p h1 h2 q => not_arg S rl ha h1 (fun j o h3 h4 _ _ =>
    (s0.ownU p ⟨j, o, h3, h4⟩).elim h2 h1) q.own
  refine ⟨⟨s0.ext.trans st.ext, fun a o h n => ?_, fun a h => s0.dom a (st.dom a h), fun p q => s0.own p (ownS p q), fun p q => s0.ownU p (ownSU p q), fun p h1 h2 h3 h4 => ?_⟩, ⟨S'.fh, by rw [bl, S.len], fun j s hs => ?_, fun i j si sj oi oj p hi hj hoi hoj ei ej => ?_⟩, ownS⟩
  · exact st.keep a o (s0.keep a o h n) (nA a (by rw [h]; exact fun z => by cases z) n)
  · exact st.frz p (s0.frz p h1 h2 h3 h4) (fun z => h2 (s0.dom p z)) (nA p h2 h3) (h4.keep h2 fun o e => s0.keep p o e h3)
  · by_cases c : (∃ o, ρ[j]? = some (.own o)) ∧ ∃ i : Nat, rs[i]? = some (.loc j)
    · obtain ⟨⟨o, c1⟩, c2⟩ := c
      obtain ⟨i, s1, t, b1, b2, b3, b4⟩ := (bs j).1 o c1 c2
      rw [hs] at b4
      cases b4
      obtain ⟨v, hv, rv⟩ := rl.get b1
      have rv := rv.1
      have sl := S'.slot i s1 b2
      cases b3 with
      | own o' =>
        obtain ⟨p, e, f, g⟩ := sl
        obtain ⟨v', e', b'⟩ := map_some e
        cases e'
        rw [hv] at b'
        cases b'
        exact ⟨p, rv, f, g⟩
      | lck o' =>
        obtain ⟨p, e, f, g⟩ := sl
        obtain ⟨v', e', b'⟩ := map_some e
        cases e'
        rw [hv] at b'
        cases b'
        exact ⟨p, rv, f, g⟩
      | val d =>
        obtain ⟨w, e, f⟩ := sl
        obtain ⟨v', e', b'⟩ := map_some e
        cases e'
        rw [hv] at b'
        cases b'
        exact ⟨_, rv, f⟩
    · have hc : (∀ o, ρ[j]? ≠ some (.own o)) ∨ ∀ i : Nat, rs[i]? ≠ some (.loc j) := by
        by_cases c1 : ∃ o, ρ[j]? = some (.own o)
        · exact .inr fun i e => c ⟨c1, i, e⟩
        · exact .inl fun o e => c1 ⟨o, e⟩
      rw [(bs j).2 hc] at hs
      refine (S.slot j s hs).move st.ext fun p u e ⟨o, ho⟩ hu => ?_
      have nO : ¬ Own ss (vs.map some) p := by
        rintro ⟨i, s1, o1, h1, h2, h3⟩
        obtain ⟨p1, a1, _, _, _, c1⟩ := arg_own S rl ha h1 h2
        obtain ⟨v1, e1, b1⟩ := map_some h3
        cases e1
        rw [a1] at b1
        cases b1
        rcases c1 with ⟨_, n, _⟩ | ⟨j', l, o2, q⟩
        · exact n ⟨j, s, o, hs, ho, e⟩
        · have := S.sep j j' s _ o o1 p hs o2 ho rfl e q
          subst this
          rcases hc with hc | hc
          · exact hc _ o2
          · exact hc i l
      exact ⟨st.keep p u hu fun q => nO q.own, st.frz p (S.ownAt ⟨j, s, o, hs, ho, e⟩).1 (by rw [hu]; exact fun z => by cases z) (fun q => nO q.own) (S.ownNT ⟨j, s, o, hs, ho, e⟩)⟩
  · obtain ⟨si', oi', a1, a2⟩ := own_old i si oi hi hoi
    obtain ⟨sj', oj', b1, b2⟩ := own_old j sj oj hj hoj
    exact S.sep i j si' sj' oi' oj' p a1 b1 a2 b2 ei ej
end
section
variable {fnm : Nat → Option Str} {T : Errs} {call : CallT} {k : Nat} {N : List Str}
/-- the promise that the callee is asked for -/
theorem call_ok {K : Frag} {W : WX} {f : Nat} {ρ0 ρ : Env} {F0 F H0 H : Hp} {σ : St} {vs : List V} {rs : List R} {Q : VK} (s0 : Step ρ0 σ F0 H0 ρ σ F H) (S : Sim K ρ F σ H) (rl : RelRs K H0 σ ρ F H vs rs)
    (h : Out T K W ρ0 F0 σ H0 (relE K σ) (doCall call f rs ρ) Q) : spF T K call f vs H Q (WE W σ) := by
  unfold doCall at h
  cases ha : argsOf ρ rs with
  | none => rw [ha] at h; exact h.elim
  | some ss =>
    rw [ha] at h
    try dsimp only at h
    split at h
    · rename_i hn
      refine ⟨ss, F, args_sim S rl ha hn, ?_⟩
      cases hc : call f ss with
      | no => rw [hc] at h; exact h.elim
      | ok p =>
        rw [hc] at h
        try dsimp only at h
        split at h
        · rename_i nl
          obtain ⟨r, outs⟩ := p
          cases hb : backArgs ρ rs outs with
          | none => rw [hb] at h; exact h.elim
          | some ρ' =>
            rw [hb] at h
            intro v F' H' st S' rv
            obtain ⟨st', S2, ow⟩ := back_sim s0 S rl ha st S' hb
            refine h v F' H' st' S2 ?_
            cases r with
            | val d => exact rv
            | loc i => cases nl
            | tmp o =>
              obtain ⟨p, e, a, b, c, d⟩ := rv
              have h0 : H0 p = none := by
                rcases d with d | ⟨i, s1, o1, h1, h2, h3⟩
                · exact s0.dom p d
                · obtain ⟨p1, a1, _, _, _, c1⟩ := arg_own S rl ha h1 h2
                  obtain ⟨v1, e1, b1⟩ := map_some h3
                  cases e1
                  rw [a1] at b1
                  cases b1
                  rcases c1 with ⟨_, _, n⟩ | ⟨j, l, o2, q⟩
                  · exact n
                  · exfalso
                    obtain ⟨_, bs⟩ := backArgs_spec hb
                    obtain ⟨i', s', t', g1, g2, g3, g4⟩ := (bs j).1 _ o2 ⟨i, l⟩
                    have ei := lent_nodup hn g1 l o2
                    subst ei
                    have sl := S'.slot i' s' g2
                    cases g3 with
                    | own o' => exact c ⟨i', _, o', g2, rfl, h3⟩
                    | lck o' => exact c ⟨i', _, o', g2, rfl, h3⟩
                    | val d' =>
                      obtain ⟨w, w1, w2⟩ := sl
                      rw [h3] at w1
                      cases w1
                      have : ∃ u, F' p = some u := by
                        generalize ew : V.ref p = w at w2
                        cases w2 <;> first | (cases ew; done) | (cases ew; exact ⟨_, by assumption⟩)
                      obtain ⟨u, hu⟩ := this
                      rw [a] at hu
                      cases hu
              refine ⟨p, e, a, b, fun q => ?_, h0⟩
              obtain ⟨j, s1, o1, q1, q2, q3⟩ := q
              obtain ⟨_, bs⟩ := backArgs_spec hb
              by_cases hl : (∃ o', ρ[j]? = some (.own o')) ∧ ∃ i : Nat, rs[i]? = some (.loc j)
              · obtain ⟨⟨o', ho'⟩, hi⟩ := hl
                obtain ⟨i', s', t', g1, g2, g3, g4⟩ := (bs j).1 o' ho' hi
                rw [q1] at g4
                cases g4
                obtain ⟨w, hw, rw'⟩ := rl.get g1
                have rw' := rw'.1
                rw [q3] at rw'
                cases rw'
                cases g3 with
                | own o' => exact c ⟨i', _, o', g2, rfl, map_some' hw⟩
                | lck o' => exact c ⟨i', _, o', g2, rfl, map_some' hw⟩
                | val d' => cases q2
              · have hc' : (∀ o, ρ[j]? ≠ some (.own o)) ∨ ∀ i : Nat, rs[i]? ≠ some (.loc j) := by
                  by_cases c1 : ∃ o, ρ[j]? = some (.own o)
                  · exact .inr fun i e => hl ⟨c1, i, e⟩
                  · exact .inl fun o e => c1 ⟨o, e⟩
                rw [(bs j).2 hc'] at q1
                obtain ⟨_, u, hu⟩ := S.ownAt ⟨j, s1, o1, q1, q2, q3⟩
                rcases d with d | ⟨i, s2, o2, h1, h2, h3⟩
                · rw [d] at hu; cases hu
                · obtain ⟨p1, a1, _, _, _, c1⟩ := arg_own S rl ha h1 h2
                  obtain ⟨v1, e1, b1⟩ := map_some h3
                  cases e1
                  rw [a1] at b1
                  cases b1
                  rcases c1 with ⟨_, n, _⟩ | ⟨j', l, o3, q'⟩
                  · exact n ⟨j, s1, o1, q1, q2, q3⟩
                  · have := S.sep j j' _ _ _ _ p q1 o3 q2 rfl q3 q'
                    subst this
                    exact hl ⟨⟨_, o3⟩, i, l⟩
        · exact h.elim
      | exc c d outs =>
        rw [hc] at h
        try dsimp only at h
        cases hb : backArgs ρ rs outs with
        | none => rw [hb] at h; exact h.elim
        | some ρ' =>
          rw [hb] at h
          intro F' H' cls dd st S' ex
          obtain ⟨st', S2, ow⟩ := back_sim s0 S rl ha st S' hb
          exact h F' H' cls dd st' S2 ex
    · exact h.elim
/-- f() where what is raised is wished for at the slots -/
theorem pe_callS0 {X : Cx} {CX : CXT} {f : Addr} {fd : FuncData} {ps : List Str} {sp : Sp} {E : St → XK} {x : Str} {p pos : Pos} (F : FnOk X.prog X.w X.K X.mg X.base CX k f fd ps sp) (hr : Room k X.A) (hg : Gl X x) (hm : X.mg x = some (.ref f)) (hk : PySem.W.keepIn X.K (.ref f) = true) (hb : Binds X.K fd ps []) (hx : ∀ σ, PassesAt CX X σ (E σ))
    (hdb : (x == ("__debug__" : Str)) = false := by decide) : PE X (.Call (.Name x p) [] [] pos) (tCallS sp E tNil) := by
  refine ⟨fun pins s σ H Q I h => ?_⟩
  refine wpAny_Call_Name_kw (ld_glob I hg hm ?_ hdb)
  exact PySem.W.callWith_K0 I.kIn hk (run_fnS F hr hb (hx σ) I .nil h)
theorem e_call (f : Nat) {as : Mlg.Es} (ia : PrA fnm T call k N as) : PrE fnm T call k N (.call f as) ∧ PrT fnm T call k N (.call f as) := by
  have key : ∀ (X : Cx) (W : WX) (sc : Scope) (x : Expr), Cok fnm T call k N X sc → Takes X W → mE fnm N sc (.call f as) x = true → PE X x (LE T X.K W (Mlg.eval call (.call f as))) ∧ ∃ y ys p pos, x = .Call (.Name y p) ys [] pos := by
    intro X W sc x C tk h
    unfold mE at h
    try dsimp only at h
    split at h
    · rename_i x p xs pos
      obtain ⟨h1, hn, h2⟩ := and3 h
      obtain ⟨hf0, hf, hg⟩ := and3 h1
      obtain ⟨hn, hst⟩ := and2 hn
      obtain ⟨n1, n2, _⟩ := nameB_ok hn
      obtain ⟨a, fd, ps, g1, g2, g3, g4⟩ := C.G.fn f x (of_decide_eq_true hf0) (of_decide_eq_true hf)
      obtain ⟨i1, i2⟩ := ia hst X W sc xs C tk h2
      have hgl : Gl X x := by show X.env.scope.names.lookup x = _; rw [C.hsc]; exact of_decide_eq_true hg
      refine ⟨?_, _, _, _, _, rfl⟩
      have fin : ∀ {t : TA}, (∀ σ H (Q : List V → Hp → Prop), LX T X.K W (relA X.K) (Mlg.evals call as) σ H Q → t σ H Q) → PE X (.Call (.Name x p) xs [] pos) (tCallS (spF T X.K call f) (WE W) t) → PE X (.Call (.Name x p) xs [] pos) (LE T X.K W (Mlg.eval call (.call f as))) := by
        intro t ht hp
        refine PE.imp hp fun σ H Q q => ?_
        obtain ⟨ρ, F, S, q⟩ := q
        refine ht σ H _ ⟨ρ, F, S, Out.bind0 q fun rs ρ1 vs F1 H1 s1 S1 rl1 h1 => ?_⟩
        exact call_ok s1 S1 rl1 h1
      cases xs with
      | nil =>
        refine fin (t := tNil) (fun σ H Q q => ?_) (pe_callS0 g4 (C.room.mono (by omega)) hgl g1 g2 g3 (fun σ => passAt tk σ) n1)
        cases as with
        | nil => obtain ⟨ρ, F, S, q⟩ := q; exact q [] F H .refl S .nil
        | cons _ _ => unfold mEs at h2; cases h2
        | star _ _ => unfold mEs at h2; cases h2
      | cons y ys =>
        exact fin (fun σ H Q q => q) (pe_callS g4 (C.room.mono (by omega)) hgl g1 g2 g3 (fun σ => passAt tk σ) i1 n1 (starEach_plain (i2 y List.mem_cons_self)) (by rw [backTo_any]; exact plain_any fun z hz => i2 z (List.mem_cons_of_mem _ hz)))
    · cases h
  refine ⟨fun X W sc x C tk h => (key X W sc x C tk h).1, fun X W sc x C tk ht h => ?_⟩
  obtain ⟨h1, y, ys, p, pos, rfl⟩ := key X W sc x C tk h
  exact pt_of h1 (by intro _; rfl)
end
end Msd
/-! Sound12: names get values; targets; locks. -/
namespace Msd
open PySem PySem.Spec PyProof.Rows L2 Mlg
section
variable {K : Frag} {ρ ρ' : Env} {F F' H H' H0 : Hp} {σ σ' : St}
theorem SlotR.congr {j : Nat} {s : Slot} (e : σ'[j]? = σ[j]?) (h : SlotR K F H σ j s) : SlotR K F H σ' j s := by
  cases s with
  | un => trivial
  | val d => obtain ⟨v, a, b⟩ := h; exact ⟨v, by rw [e]; exact a, b⟩
  | own o => obtain ⟨v, a, b⟩ := h; exact ⟨v, by rw [e]; exact a, b⟩
  | lck o => obtain ⟨v, a, b⟩ := h; exact ⟨v, by rw [e]; exact a, b⟩
  | ro xs => obtain ⟨v, w, a, b⟩ := h; exact ⟨v, w, by rw [e]; exact a, b⟩
theorem Sim.setSlot (S : Sim K ρ F σ H) {i : Nat} (hi : i < ρ.length) {x : Option V} {s' : Slot} (hs : SlotR K F H (σ.set i x) i s')
    (hsep : ∀ o p, isOwn s' = some o → x = some (.ref p) → ∀ (j : Nat) (s : Slot) (o' : O), j ≠ i → ρ[j]? = some s → isOwn s = some o' → σ[j]? ≠ some (some (.ref p))) : Sim K (ρ.set i s') F (σ.set i x) H := by
  have hiσ : i < σ.length := by rw [← S.len]; exact hi
  refine ⟨S.fh, by rw [List.length_set, List.length_set]; exact S.len, fun j s h => ?_, fun j k sj sk oj ok p hj hk hoj hok ej ek => ?_⟩
  · by_cases e : j = i
    · subst e
      rw [List.getElem?_set_self hi] at h
      cases h
      exact hs
    · rw [List.getElem?_set_ne (Ne.symm e)] at h
      exact (S.slot j s h).congr (List.getElem?_set_ne (Ne.symm e))
  · by_cases e1 : j = i
    · by_cases e2 : k = i
      · rw [e1, e2]
      · subst e1
        rw [List.getElem?_set_self hi] at hj
        cases hj
        rw [List.getElem?_set_self hiσ] at ej
        rw [List.getElem?_set_ne (Ne.symm e2)] at hk ek
        exact absurd ek (hsep oj p hoj (Option.some.inj ej) k sk ok e2 hk hok)
    · by_cases e2 : k = i
      · subst e2
        rw [List.getElem?_set_self hi] at hk
        cases hk
        rw [List.getElem?_set_self hiσ] at ek
        rw [List.getElem?_set_ne (Ne.symm e1)] at hj ej
        exact absurd ej (hsep ok p hok (Option.some.inj ek) j sj oj e1 hj hoj)
      · rw [List.getElem?_set_ne (Ne.symm e1)] at hj ej
        rw [List.getElem?_set_ne (Ne.symm e2)] at hk ek
        exact S.sep j k sj sk oj ok p hj hk hoj hok ej ek
/-- the names' objects where a slot is set to what is none -/
theorem own_set {i : Nat} {x : Option V} {s' : Slot} (hi : i < ρ.length) (hn : isOwn s' = none) {p : Addr} (h : Own (ρ.set i s') (σ.set i x) p) : Own ρ σ p := by
  obtain ⟨j, s, o, h1, h2, h3⟩ := h
  rcases isOwn_set hi h1 h2 with ⟨_, z⟩ | ⟨nj, hj⟩
  · rw [hn] at z; cases z
  · rw [List.getElem?_set_ne (Ne.symm nj)] at h3
    exact ⟨j, s, o, hj, h2, h3⟩
theorem ownU_set {i : Nat} {x : Option V} {s' : Slot} (hi : i < ρ.length) (hn : isOwn s' = none) {p : Addr} (h : OwnU (ρ.set i s') (σ.set i x) p) : OwnU ρ σ p := by
  obtain ⟨j, o, h1, h3⟩ := h
  rcases isOwn_set hi h1 rfl with ⟨_, z⟩ | ⟨nj, hj⟩
  · rw [hn] at z; cases z
  · rw [List.getElem?_set_ne (Ne.symm nj)] at h3
    exact ⟨j, o, hj, h3⟩
theorem Step.setSlot {i : Nat} {x : Option V} {s' : Slot} (hi : i < ρ.length) (hn : isOwn s' = none) : Step ρ σ F H (ρ.set i s') (σ.set i x) F H :=
  ⟨.refl _, fun _ _ h _ => h, fun _ h => h, fun _ q => .inl (own_set hi hn q), fun _ q => .inl (ownU_set hi hn q), fun _ h _ _ _ => h⟩
/-- a value at a name -/
theorem Sim.putV (S : Sim K ρ F σ H) {i : Nat} {v : V} {d : D} (hi : i < ρ.length) (hr : Rep K F v d) : Sim K (ρ.set i (.val d)) F (σ.set i (some v)) H :=
  S.setSlot hi ⟨v, List.getElem?_set_self (by rw [← S.len]; exact hi), hr⟩ fun o p h => by cases h
/-- a name is forgotten -/
theorem Sim.putUn (S : Sim K ρ F σ H) {i : Nat} {x : Option V} (hi : i < ρ.length) : Sim K (ρ.set i .un) F (σ.set i x) H := S.setSlot hi trivial fun o p h => by cases h
/-- a new object at a name -/
theorem Sim.putOwn (S : Sim K ρ F σ H) {i : Nat} {p : Addr} {o : O} (hi : i < ρ.length) (hF : F p = none) (ho : ObjR K F H p o) (hn : ¬ Own ρ σ p) : Sim K (ρ.set i (.own o)) F (σ.set i (some (.ref p))) H :=
  S.setSlot hi ⟨p, List.getElem?_set_self (by rw [← S.len]; exact hi), hF, ho⟩ fun o' q h e j s o'' nj hj hs ej => by
    cases e
    exact hn ⟨j, s, o'', hj, hs, ej⟩
theorem Step.putOwn {ρ0 : Env} {σ0 : St} {F0 : Hp} {i : Nat} {p : Addr} {o : O} (st : Step ρ0 σ0 F0 H0 ρ σ F H) (hi : i < ρ.length) (h0 : H0 p = none) (hiσ : i < σ.length) : Step ρ0 σ0 F0 H0 (ρ.set i (.own o)) (σ.set i (some (.ref p))) F H := by
  refine ⟨st.ext, st.keep, st.dom, fun q h => ?_, fun q h => ?_, st.frz⟩
  · obtain ⟨j, s, o', h1, h2, h3⟩ := h
    rcases isOwn_set hi h1 h2 with ⟨ej, _⟩ | ⟨nj, hj⟩
    · subst ej
      rw [List.getElem?_set_self hiσ] at h3
      cases h3
      exact .inr h0
    · rw [List.getElem?_set_ne (Ne.symm nj)] at h3
      exact st.own q ⟨j, s, o', hj, h2, h3⟩
  · obtain ⟨j, o', h1, h3⟩ := h
    rcases isOwn_set hi h1 rfl with ⟨ej, _⟩ | ⟨nj, hj⟩
    · subst ej
      rw [List.getElem?_set_self hiσ] at h3
      cases h3
      exact .inr h0
    · rw [List.getElem?_set_ne (Ne.symm nj)] at h3
      exact st.ownU q ⟨j, o', hj, h3⟩
/-- slots that may not be stored to -/
def Fx (fx : Nat → Bool) (σ σ' : St) : Prop := σ'.length = σ.length ∧ ∀ i, fx i = true → σ'[i]? = σ[i]?
theorem Fx.refl {fx : Nat → Bool} : Fx fx σ σ := ⟨rfl, fun _ _ => rfl⟩
theorem Fx.trans {fx : Nat → Bool} {σ'' : St} (a : Fx fx σ σ') (b : Fx fx σ' σ'') : Fx fx σ σ'' := ⟨b.1.trans a.1, fun i h => (b.2 i h).trans (a.2 i h)⟩
theorem Fx.set {fx : Nat → Bool} {i : Nat} {x : Option V} (h : fx i = false) : Fx fx σ (σ.set i x) := ⟨List.length_set, fun j hj => by
  have : j ≠ i := fun e => by rw [e, h] at hj; cases hj
  exact List.getElem?_set_ne (Ne.symm this)⟩

/-! ### targets -/
def gNames : List Nat → TGs
  | [] => gNil
  | i :: is => gCons (gName i) (gNames is)
def gTg (K : Frag) : Tg → TG
  | .nm i => gName i
  | .tup is => gTup K is.length (gNames is)
theorem go_len {N : List Str} {sc : Scope} {fx : Nat → Bool} : ∀ {is : List Nat} {xs : List Expr}, tgB.go N sc fx is xs = true → is.length = xs.length
  | [], [], _ => rfl
  | [], _ :: _, h => by cases h
  | _ :: _, [], h => by cases h
  | i :: is, x :: xs, h => by
    cases x <;> first | (cases h; done) | skip
    rename_i x p
    have h : (decide (N[i]? = some x) && locB sc x && nameB x && !fx i && tgB.go N sc fx is xs) = true := h
    simp [go_len (and2 h).2]
theorem pgs_go {X : Cx} {N : List Str} {sc : Scope} {fx : Nat → Bool} (hN : X.N = N) (nd : N.Nodup) (hsc : ∀ x, locB sc x = true → Loc X.env.scope x) (hf : ∀ x, locB sc x = true → X.fn x = true ∨ X.env.scope.names.lookup x = some .local) : ∀ {is : List Nat} {xs : List Expr}, tgB.go N sc fx is xs = true → PGs X xs (gNames is)
  | [], [], _ => pgs_nil
  | [], _ :: _, h => by cases h
  | _ :: _, [], h => by cases h
  | i :: is, x :: xs, h => by
    cases x <;> first | (cases h; done) | skip
    rename_i x p
    have h : (decide (N[i]? = some x) && locB sc x && nameB x && !fx i && tgB.go N sc fx is xs) = true := h
    obtain ⟨h1, _, h2⟩ := and3 h
    obtain ⟨a, b, _⟩ := and3 h1
    exact pgs_cons (pg_name (by rw [hN]; exact nd) (by rw [hN]; exact of_decide_eq_true a) (hsc x b) (hf x b)) (pgs_go hN nd hsc hf h2)
theorem go_each {N : List Str} {sc : Scope} {fx : Nat → Bool} {env : PySem.Env} : ∀ {is : List Nat} {xs : List Expr}, tgB.go N sc fx is xs = true → (assignEach xs env).length = is.length ∧ (assignEach xs env).findIdx? (·.1) = none
  | [], [], _ => ⟨rfl, rfl⟩
  | [], _ :: _, h => by cases h
  | _ :: _, [], h => by cases h
  | i :: is, x :: xs, h => by
    cases x <;> first | (cases h; done) | skip
    rename_i x p
    have h : (decide (N[i]? = some x) && locB sc x && nameB x && !fx i && tgB.go N sc fx is xs) = true := h
    obtain ⟨h1, h2⟩ := go_each (env := env) (and2 h).2
    refine ⟨congrArg (· + 1) h1, ?_⟩
    show List.findIdx? (·.1) ((false, assign (.Name x p) env) :: assignEach xs env) = none
    rw [List.findIdx?_cons, h2]
    rfl
theorem pg_tg {X : Cx} {N : List Str} {sc : Scope} {fx : Nat → Bool} {tg : Tg} {t : Expr} (hN : X.N = N) (nd : N.Nodup) (hsc : ∀ x, locB sc x = true → Loc X.env.scope x) (hc : X.calm = true) (hf : ∀ x, locB sc x = true → X.fn x = true ∨ X.env.scope.names.lookup x = some .local) (h : tgB N sc fx tg t = true) : PG X t (gTg X.K tg) := by
  cases tg with
  | nm i =>
    unfold tgB at h
    cases t <;> first | (cases h; done) | skip
    rename_i x p
    obtain ⟨h1, _, _⟩ := and3 h
    obtain ⟨a, b⟩ := and2 h1
    exact pg_name (by rw [hN]; exact nd) (by rw [hN]; exact of_decide_eq_true a) (hsc x b) (hf x b)
  | tup is =>
    unfold tgB at h
    cases t <;> first | (cases h; done) | skip
    rename_i xs kk p
    have h : tgB.go N sc fx is xs = true := h
    have hl := go_len h
    obtain ⟨h1, h2⟩ := go_each (env := X.env) h
    exact pg_tup (n := is.length) hc (pgs_go hN nd hsc hf h) h1 h2
/-- the store of an item -/
theorem put_ok {ρ1 : Env} {i : Nat} {v : V} {d : D} (S : Sim K ρ F σ H) (hr : Rep K F v d) (e : putV ρ i d = some ρ1) : Sim K ρ1 F (σ.set i (some v)) H ∧ Step ρ σ F H ρ1 (σ.set i (some v)) F H := by
  unfold Mlg.putV at e
  split at e
  · rename_i c
    cases e
    exact ⟨S.putV c hr, Step.setSlot c rfl⟩
  · cases e
theorem puts_ok {fx : Nat → Bool} : ∀ {is : List Nat} {vs : List V} {ds : List D} {ρ ρ1 : Env} {σ : St} {Q : St → Hp → Prop}, Sim K ρ F σ H → Reps K F vs ds → putVs ρ is ds = some ρ1 → (∀ i ∈ is, fx i = false) →
    (∀ σ', Sim K ρ1 F σ' H → Step ρ σ F H ρ1 σ' F H → Fx fx σ σ' → (∀ j, j ∉ is → σ'[j]? = σ[j]?) → Q σ' H) → gNames is vs σ H Q
  | [], _, _, ρ, ρ1, σ, Q, S, .nil, e, _, h => by cases e; exact ⟨rfl, h σ S .refl .refl fun _ _ => rfl⟩
  | [], _, _, ρ, ρ1, σ, Q, S, .cons _ _, e, _, h => by cases e
  | i :: is, _, _, ρ, ρ1, σ, Q, S, .nil, e, _, h => by cases e
  | i :: is, _, _, ρ, ρ1, σ, Q, S, .cons (d := d) (ds := ds) (v := v) (vs := vs) hr rs, e, hfx, h => by
    have e : (putV ρ i d).bind (fun ρ' => putVs ρ' is ds) = some ρ1 := e
    cases e1 : putV ρ i d with
    | none => rw [e1] at e; cases e
    | some ρ2 =>
      rw [e1] at e
      obtain ⟨S2, st2⟩ := put_ok S hr e1
      have hi := hfx i List.mem_cons_self
      refine ⟨v, vs, rfl, puts_ok S2 rs e (fun j hj => hfx j (List.mem_cons_of_mem _ hj)) fun σ' S' st' fx' ot => h σ' S' (st2.trans st') ((Fx.set hi).trans fx') fun j hj => ?_⟩
      rw [ot j fun z => hj (List.mem_cons_of_mem _ z), List.getElem?_set_ne (show i ≠ j from fun z => hj (by rw [z]; exact List.mem_cons_self))]
theorem putVs_len : ∀ {is : List Nat} {ds : List D} {ρ ρ1 : Env}, putVs ρ is ds = some ρ1 → ds.length = is.length
  | [], [], _, _, _ => rfl
  | [], _ :: _, _, _, e => by cases e
  | _ :: _, [], _, _, e => by cases e
  | i :: is, d :: ds, ρ, ρ1, e => by
    have e : (putV ρ i d).bind (fun ρ' => putVs ρ' is ds) = some ρ1 := e
    cases e1 : putV ρ i d with
    | none => rw [e1] at e; cases e
    | some ρ2 => rw [e1] at e; simp [putVs_len e]
def tgSlots : Tg → List Nat
  | .nm i => [i]
  | .tup is => is
theorem go_fx {N : List Str} {sc : Scope} {fx : Nat → Bool} : ∀ {is : List Nat} {xs : List Expr}, tgB.go N sc fx is xs = true → ∀ i ∈ is, fx i = false
  | [], _, _, i, hi => by simp at hi
  | _ :: _, [], h, _, _ => by cases h
  | i :: is, x :: xs, h, j, hj => by
    cases x <;> first | (cases h; done) | skip
    rename_i x p
    have h : (decide (N[i]? = some x) && locB sc x && nameB x && !fx i && tgB.go N sc fx is xs) = true := h
    rcases List.mem_cons.mp hj with rfl | hj
    · have := (and2 (and2 h).1).2
      simpa using this
    · exact go_fx (and2 h).2 j hj
theorem tg_fx {N : List Str} {sc : Scope} {fx : Nat → Bool} {tg : Tg} {t : Expr} (h : tgB N sc fx tg t = true) : ∀ i ∈ tgSlots tg, fx i = false := by
  cases tg with
  | nm i =>
    unfold tgB at h
    cases t <;> first | (cases h; done) | skip
    intro j hj
    have : j = i := by simpa [tgSlots] using hj
    subst this
    have := (and2 h).2
    simpa using this
  | tup is =>
    unfold tgB at h
    cases t <;> first | (cases h; done) | skip
    exact go_fx h
theorem tg_ok {fx : Nat → Bool} {tg : Tg} {v : V} {d : D} {ρ1 : Env} {Q : St → Hp → Prop} (S : Sim K ρ F σ H) (hr : Rep K F v d) (e : putTg ρ tg d = some ρ1) (hfx : ∀ i ∈ tgSlots tg, fx i = false)
    (h : ∀ σ', Sim K ρ1 F σ' H → Step ρ σ F H ρ1 σ' F H → Fx fx σ σ' → (∀ j, j ∉ tgSlots tg → σ'[j]? = σ[j]?) → Q σ' H) : gTg K tg v σ H Q := by
  cases tg with
  | nm i =>
    obtain ⟨S', st'⟩ := put_ok S hr e
    exact h _ S' st' (Fx.set (hfx i (by simp [tgSlots]))) fun j hj => List.getElem?_set_ne fun z => hj (by simp [tgSlots, z])
  | tup is =>
    cases d <;> first | (cases e; done) | skip
    rename_i ds
    have e : putVs ρ is ds = some ρ1 := e
    cases hr with
    | tup ha rs =>
      refine ⟨_, _, rfl, SqT.of (S.fh _ _ ha), ?_, puts_ok S rs e hfx h⟩
      rw [rs.length]
      exact putVs_len e

/-! ### locks -/
/-- a name's object is locked -/
theorem Sim.lock (S : Sim K ρ F σ H) {i : Nat} {o : O} (h : ρ[i]? = some (.own o)) : Sim K (ρ.set i (.lck o)) F σ H ∧ Step ρ σ F H (ρ.set i (.lck o)) σ F H := by
  have hi := lt_of_get h
  refine ⟨⟨S.fh, by rw [List.length_set]; exact S.len, fun j s hs => ?_, fun j k sj sk oj ok p hj hk hoj hok ej ek => ?_⟩, .refl _, fun _ _ h _ => h, fun _ h => h, fun p q => ?_, fun p q => ?_, fun _ h _ _ _ => h⟩
  · by_cases e : j = i
    · subst e
      rw [List.getElem?_set_self hi] at hs
      cases hs
      have hs := S.slot j _ h
      exact hs
    · rw [List.getElem?_set_ne (Ne.symm e)] at hs
      exact S.slot j s hs
  · have old : ∀ {j : Nat} {s : Slot} {o' : O}, (ρ.set i (.lck o))[j]? = some s → isOwn s = some o' → ∃ s' o'', ρ[j]? = some s' ∧ isOwn s' = some o'' := by
      intro j s o' h1 h2
      rcases isOwn_set hi h1 h2 with ⟨rfl, _⟩ | ⟨_, hj⟩
      · exact ⟨_, o, h, rfl⟩
      · exact ⟨s, o', hj, h2⟩
    obtain ⟨s1, o1, a1, b1⟩ := old hj hoj
    obtain ⟨s2, o2, a2, b2⟩ := old hk hok
    exact S.sep j k s1 s2 o1 o2 p a1 a2 b1 b2 ej ek
  · obtain ⟨j, s, o', h1, h2, h3⟩ := q
    rcases isOwn_set hi h1 h2 with ⟨rfl, _⟩ | ⟨_, hj⟩
    · exact .inl ⟨_, _, o, h, rfl, h3⟩
    · exact .inl ⟨j, s, o', hj, h2, h3⟩
  · obtain ⟨j, o', h1, h3⟩ := q
    by_cases e : j = i
    · subst e; rw [List.getElem?_set_self hi] at h1; cases h1
    · rw [List.getElem?_set_ne (Ne.symm e)] at h1
      exact .inl ⟨j, o', h1, h3⟩
/-- .. and free again: it was so ahead -/
theorem Sim.unlock {ρ0 : Env} {σ0 : St} {F0 : Hp} (S : Sim K ρ F σ H) (st : Step ρ0 σ0 F0 H0 ρ σ F H) {i : Nat} {o : O} (h : ρ[i]? = some (.lck o)) {p : Addr} (hp : σ[i]? = some (some (.ref p))) (h0 : OwnU ρ0 σ0 p) :
    Sim K (ρ.set i (.own o)) F σ H ∧ Step ρ0 σ0 F0 H0 (ρ.set i (.own o)) σ F H := by
  have hi := lt_of_get h
  have old : ∀ {j : Nat} {s : Slot} {o' : O}, (ρ.set i (.own o))[j]? = some s → isOwn s = some o' → ∃ s' o'', ρ[j]? = some s' ∧ isOwn s' = some o'' := by
    intro j s o' h1 h2
    rcases isOwn_set hi h1 h2 with ⟨rfl, _⟩ | ⟨_, hj⟩
    · exact ⟨_, o, h, rfl⟩
    · exact ⟨s, o', hj, h2⟩
  refine ⟨⟨S.fh, by rw [List.length_set]; exact S.len, fun j s hs => ?_, fun j k sj sk oj ok p hj hk hoj hok ej ek => ?_⟩, st.ext, st.keep, st.dom, fun q hq => ?_, fun q hq => ?_, st.frz⟩
  · by_cases e : j = i
    · subst e
      rw [List.getElem?_set_self hi] at hs
      cases hs
      have hs := S.slot j _ h
      exact hs
    · rw [List.getElem?_set_ne (Ne.symm e)] at hs
      exact S.slot j s hs
  · obtain ⟨s1, o1, a1, b1⟩ := old hj hoj
    obtain ⟨s2, o2, a2, b2⟩ := old hk hok
    exact S.sep j k s1 s2 o1 o2 p a1 a2 b1 b2 ej ek
  · obtain ⟨j, s, o', h1, h2, h3⟩ := hq
    obtain ⟨s1, o1, a1, b1⟩ := old h1 h2
    exact st.own q ⟨j, s1, o1, a1, b1, h3⟩
  · obtain ⟨j, o', h1, h3⟩ := hq
    by_cases e : j = i
    · subst e
      rw [hp] at h3
      cases h3
      exact .inl h0
    · rw [List.getElem?_set_ne (Ne.symm e)] at h1
      exact st.ownU q ⟨j, o', h1, h3⟩
end
end Msd
/-! SoundO: instances of the text's one class. -/
namespace Msd
open PySem PySem.Spec PyProof.Rows L2 Mlg
/-! ### fields -/
section
variable {K : Frag} {F F' : Hp}
theorem fld_look {f : Str} : ∀ {gs : List (Str × V)} {fs : List (Str × D)} {d : D}, gs.map (·.1) = fs.map (·.1) → Reps K F (gs.map (·.2)) (fs.map (·.2)) → fs.lookup f = some d → ∃ v, gs.lookup f = some v ∧ Rep K F v d
  | [], [], _, _, _, h => by cases h
  | [], _ :: _, _, h, _, _ => by cases h
  | _ :: _, [], _, h, _, _ => by cases h
  | (a, v) :: gs, (b, e) :: fs, d, h, r, l => by
    rw [List.map_cons, List.map_cons] at h
    injection h with h1 h2
    have h1 : a = b := h1
    subst h1
    cases r with
    | cons r1 r2 =>
      rw [lookup_put'] at l ⊢
      by_cases c : f = a
      · rw [if_pos c] at l ⊢
        cases l
        exact ⟨v, rfl, r1⟩
      · rw [if_neg c] at l ⊢
        exact fld_look h2 r2 l
where
  lookup_put' {α : Type} {f a : Str} {x : α} {l : List (Str × α)} : ((a, x) :: l).lookup f = if f = a then some x else l.lookup f := by
    by_cases h : f = a
    · subst h; simp [List.lookup]
    · have e : (f == a) = false := by simpa using h
      rw [if_neg h]
      simp [List.lookup, e]
theorem look_none {m : Str} : ∀ {gs : List (Str × V)}, m ∉ gs.map (·.1) → gs.lookup m = none
  | [], _ => rfl
  | (a, v) :: gs, h => by
    rw [fld_look.lookup_put', if_neg (fun z => h (by rw [z]; simp))]
    exact look_none fun z => h (by simp [z])
theorem put_names {f : Str} {v : V} {d : D} : ∀ {gs : List (Str × V)} {fs : List (Str × D)}, gs.map (·.1) = fs.map (·.1) → (L2.putF f v gs).map (·.1) = (putFd f d fs).map (·.1)
  | [], [], _ => rfl
  | [], _ :: _, h => by cases h
  | _ :: _, [], h => by cases h
  | (a, x) :: gs, (b, y) :: fs, h => by
    rw [List.map_cons, List.map_cons] at h
    injection h with h1 h2
    have h1 : a = b := h1
    subst h1
    unfold L2.putF putFd
    by_cases c : a = f
    · rw [if_pos c, if_pos c, List.map_cons, List.map_cons, h2]
    · rw [if_neg c, if_neg c, List.map_cons, List.map_cons, put_names h2]
theorem put_reps {f : Str} {v : V} {d : D} (hr : Rep K F v d) : ∀ {gs : List (Str × V)} {fs : List (Str × D)}, gs.map (·.1) = fs.map (·.1) → Reps K F (gs.map (·.2)) (fs.map (·.2)) → Reps K F ((L2.putF f v gs).map (·.2)) ((putFd f d fs).map (·.2))
  | [], [], _, _ => .cons hr .nil
  | [], _ :: _, h, _ => by cases h
  | _ :: _, [], h, _ => by cases h
  | (a, x) :: gs, (b, y) :: fs, h, r => by
    rw [List.map_cons, List.map_cons] at h
    injection h with h1 h2
    have h1 : a = b := h1
    subst h1
    cases r with
    | cons r1 r2 =>
      unfold L2.putF putFd
      by_cases c : a = f
      · rw [if_pos c, if_pos c]; exact .cons hr r2
      · rw [if_neg c, if_neg c]; exact .cons r1 (put_reps hr h2 r2)
theorem put_mem {f : Str} {d : D} {n : Str} : ∀ {fs : List (Str × D)}, n ∈ (putFd f d fs).map (·.1) → n = f ∨ n ∈ fs.map (·.1)
  | [], h => .inl (by simpa [putFd] using h)
  | (a, x) :: fs, h => by
    unfold putFd at h
    by_cases c : a = f
    · rw [if_pos c] at h; exact .inr h
    · rw [if_neg c, List.map_cons] at h
      rcases List.mem_cons.mp h with h | h
      · exact .inr (by rw [List.map_cons, h]; exact .head _)
      · rcases put_mem h with h | h
        · exact .inl h
        · exact .inr (by rw [List.map_cons]; exact .tail _ h)
end
section
variable {fnm : Nat → Option Str} {T : Errs} {call : CallT} {k : Nat} {N : List Str}
theorem fldOfE_at {K : Frag} {ρ : Env} {F H : Hp} {σ : St} {i : Nat} {f : Str} {d : D} (S : Sim K ρ F σ H) (h : fldOfE ρ i f = some d) : ∃ p dx gs v, σ[i]? = some (some (.ref p)) ∧ H p = some (.ins (deckC K) dx gs) ∧ gs.lookup f = some v ∧ Rep K F v d := by
  unfold fldOfE at h
  split at h
  · rename_i fs hi
    obtain ⟨p, h1, h2, dx, gs, h3, a, r, z⟩ := S.slot i _ hi
    obtain ⟨v, l, rv⟩ := fld_look a r h
    exact ⟨p, dx, gs, v, h1, h3, l, rv⟩
  · cases h
theorem isIns_at {K : Frag} {ρ : Env} {F H : Hp} {σ : St} {i : Nat} (S : Sim K ρ F σ H) (h : isIns ρ i = true) : ∃ p dx gs, σ[i]? = some (some (.ref p)) ∧ H p = some (.ins (deckC K) dx gs) ∧ ∀ n ∈ gs.map (·.1), n ∈ fldNames := by
  unfold isIns at h
  split at h
  · rename_i fs hi
    obtain ⟨p, h1, h2, dx, gs, h3, a, r, z⟩ := S.slot i _ hi
    exact ⟨p, dx, gs, h1, h3, by rw [a]; exact z⟩
  · cases h
theorem e_fld (i : Nat) (f : Str) : PrE fnm T call k N (.fld i f) := by
  intro X W sc x C tk h
  unfold mE at h
  try dsimp only at h
  split at h
  · rename_i y py g pg
    obtain ⟨h0, h1, h2⟩ := and3 h
    obtain ⟨hN, hv, hn⟩ := and3 h1
    obtain ⟨n1, n2, _⟩ := nameB_ok hn
    have DK := C.G.dk (of_decide_eq_true h0)
    have po : PE X (.Name y py) (tVar i) := pe_var (i := i) (by rw [C.hN]; exact of_decide_eq_true hN) (by rw [C.hsc]; exact visB_ok hv) n1 n2
    rcases Bool.or_eq_true_iff.mp h2 with h2 | h2
    · obtain ⟨hg, hf⟩ := and2 h2
      have hg : g = f := of_decide_eq_true hg
      subst hg
      have hf : g ∈ fldNames := by simpa using hf
      refine PE.imp (pe_fld po rfl) fun σ H Q q => ?_
      obtain ⟨ρ, F, S, q⟩ := q
      unfold Mlg.eval at q
      cases e : fldOfE ρ i g with
      | none => rw [e] at q; exact q.elim
      | some d =>
        rw [e] at q
        obtain ⟨p, dx, gs, v, s1, s2, s3, rv⟩ := fldOfE_at S e
        exact ⟨_, s1, p, _, dx, gs, v, rfl, s2, DK.cls, DK.no g hf, s3, q v F H .refl S rv⟩
    · obtain ⟨hg, hf⟩ := and2 h2
      have hg : g = ("pack" : Str) := of_decide_eq_true hg
      have hf : f = ("now" : Str) := of_decide_eq_true hf
      subst hg hf
      obtain ⟨pp, gg, fd, ps, hp, hb, FO⟩ := DK.prop
      refine PE.imp (pe_prop (E := fun _ _ _ => False) po DK.cls hp (FO X.prog X.w X.mg X.base) (C.room.mono (by omega)) hb .nil passes_nil rfl) fun σ H Q q => ?_
      obtain ⟨ρ, F, S, q⟩ := q
      unfold Mlg.eval at q
      cases e : fldOfE ρ i "now" with
      | none => rw [e] at q; exact q.elim
      | some d =>
        rw [e] at q
        obtain ⟨p, dx, gs, v, s1, s2, s3, rv⟩ := fldOfE_at S e
        exact ⟨_, s1, p, dx, gs, rfl, s2, p, dx, gs, v, rfl, s2, s3, q v F H .refl S rv⟩
  · cases h
/-! ### len -/
theorem call_lenD {X : Cx} (DK : DeckF X.K X.mg) (hr : Room 3 X.A) : CallR X (.builtin "len") (fun xs H Q => ∃ (a dx t : Addr) (gs : List (Str × V)) (ys : List V), xs = [.ref a] ∧ H a = some (.ins (deckC X.K) dx gs) ∧ gs.lookup ("past" : Str) = some (.ref t) ∧ H t = some (.tup ys) ∧ Q (.int ys.length) H) := by
  intro pins s σ H xs us Q I r h
  obtain ⟨a, dx, t, gs, ys, rfl, ha, hl, ht, q⟩ := h
  obtain ⟨u, rfl, ru⟩ := vals1 r
  obtain rfl : u = Value.ref a := ru
  obtain ⟨f, fd, ps, M, hb, FO⟩ := DK.len
  obtain ⟨mA, O, _, _, _, _⟩ := ins_get I.hok ha
  obtain ⟨od, J, _⟩ := O.look
  refine Calls.call_function_entry kind_len plain_len entry_len (args_len1 _) ?_
  unfold Builtin.«len»
  refine wpAny_bind (m := oneArg "len" _) (wpAny_pure ?_)
  refine wpAny_bind (m := callSpecial? (.ref a) (PySem.Str.ofString "__len__")) (PySem.W.special_fn I.kIn J M.at_ (beq_iff_eq.mp M.fn) ?_)
  have hy : ys.length ≤ sizeLine := (show ObjOk X.prog X.w H s.heap t (.tup ys) from I.hok t _ ht).1
  have hsz : sizeLine = 16777216 := sizeLine_eq
  have h63 : (2 : Int) ^ 63 = 9223372036854775808 := by decide
  have hsp : lenSp (deckC X.K) [.ref a] H (fun v H' => v = .int ys.length ∧ Q (.int ys.length) H') (fun _ _ _ => False) := ⟨a, dx, t, gs, ys, rfl, ha, hl, ht, rfl, q⟩
  have hpl : ([Value.ref a] ++ []).length = ps.length := by
    have e := (FO X.prog X.w X.base).len _ _ _ _ hsp
    exact e
  refine wpAny_call (codeAny_mono ((FO X.prog X.w X.base).run X.A.in1 X.stack s H ⟨[Value.ref a], []⟩ ([Value.ref a] ++ []) [V.ref a] _ _ (Room.in1 (hr.mono (by omega : 2 ≤ 3))) I.env0.in1 (hb s [.ref a] I.kIn hpl) (.cons rfl .nil) hsp) fun r s' hq => ?_)
  cases r with
  | error er =>
    obtain ⟨_, _, _, _, _, _, _, _, _, _, _, _, z⟩ := hq
    exact z.elim
  | ok fl =>
    cases fl with
    | ret u =>
      obtain ⟨v, H', I3, rv, ev, q3⟩ := I.after hq
      subst ev
      obtain ⟨tk, rfl⟩ := rv
      refine wpAny_bind (wpAny_holding (wpAny_pure ?_))
      refine wpAny_bind (wpAny_letGo ?_)
      show wpAny _ _ (if ((ys.length : Nat) : Int) < 0 then _ else _) _ _ _
      rw [if_neg (by omega)]
      show wpAny _ _ (if ((ys.length : Nat) : Int) ≥ 2 ^ 63 then _ else _) _ _ _
      rw [if_neg (by omega)]
      exact wpAny_bind (wpAny_mkInt (wpAny_pure ⟨_, rfl, .int ys.length, H', I3.tok _, ⟨_, rfl⟩, q3⟩))
    | next => exact False.elim hq
    | brk => exact False.elim hq
    | cont => exact False.elim hq
theorem e_lno (i : Nat) : PrE fnm T call k N (.lno i) := by
  intro X W sc x C tk h
  unfold mE at h
  try dsimp only at h
  split at h
  · rename_i l pl y py pos
    obtain ⟨h0, h1, h2⟩ := and3 h
    obtain ⟨hN, hv, hn⟩ := and3 h1
    obtain ⟨n1, n2, _⟩ := nameB_ok hn
    obtain ⟨hl, hg⟩ := bltB_ok h2
    subst hl
    have DK := C.G.dk (of_decide_eq_true h0)
    have po : PE X (.Name y py) (tVar i) := pe_var (i := i) (by rw [C.hN]; exact of_decide_eq_true hN) (by rw [C.hsc]; exact visB_ok hv) n1 n2
    refine PE.imp (pe_callB (call_lenD DK (C.room.mono (by omega))) (by show X.env.scope.names.lookup _ = _; rw [C.hsc]; exact hg) (C.G.bl _ (by decide)) (by decide +kernel) (pa_cons po pa_nil rfl) (by decide) (by decide) rfl rfl) fun σ H Q q => ?_
    obtain ⟨ρ, F, S, q⟩ := q
    unfold Mlg.eval at q
    try dsimp only at q
    split at q
    · rename_i ds e
      obtain ⟨p, dx, gs, v, s1, s2, s3, rv⟩ := fldOfE_at S e
      cases rv with
      | tup f1 f2 =>
        refine ⟨_, s1, p, dx, _, gs, _, rfl, s2, s3, S.fh _ _ f1, ?_⟩
        have := q (.int ds.length) F H .refl S (.int _)
        rw [f2.length]
        exact this
    · exact q.elim
  · cases h
/-! ### methods -/
theorem eval_meth {o : Expr} {name : Str} {apos pos : Pos} {args : List Expr} {env : PySem.Env} (hbase : attributeBase o name env (PySem.eval o env) = PySem.eval o env) (hform : methodCallForm (args.length + ([] : List Keyword).length) (backTo pos (starEach args env)) (backToKw pos (keywordEach [] env)) = true) (hline : (apos.endLine == pos.line) = true) :
    PySem.eval (.Call (.Attribute o name apos) args [] pos) env = (do
      let z ← PySem.eval o env
      standAt apos.atName
      let (g, fst) ← holding [z] (getMethod z name (do return (← importBound o env).getD true))
      callWith pos g fst (backTo pos (starEach args env)) (backToKw pos (keywordEach [] env))) := by
  rw [arm_eval_Call, hbase]
  have hpos : methodCallPos true o env apos pos = pure pos := by unfold methodCallPos; simp [hline]
  unfold methodCall
  rw [hform, hpos]
  rfl
/-- o.m(..) where what is raised is wished for at the slots -/
def tMethS (C : Addr) (m : Str) (sp : Sp) (E : St → XK) (ta : TE) (t : TA) : TE := fun σ H Q => ta σ H fun x H1 => ∃ a dx fs, x = .ref a ∧ H1 a = some (.ins C dx fs) ∧ fs.lookup m = none ∧ t σ H1 fun vs H2 => sp (x :: vs) H2 Q (E σ)
section
variable {X : Cx} {CX : CXT} {C f : Addr} {fd : FuncData} {ps : List Str} {sp : Sp} {E : St → XK} {x m : Str} {p pos apos : Pos} {e o : Expr} {es : List Expr} {ta : TE} {t : TA} {kk : Nat}
theorem pe_methS (he : PE X o ta) (c : Cls X.K C) (hm : Meth X.K C m f) (F : FnOk X.prog X.w X.K X.mg X.base CX kk f fd ps sp) (hr : Room kk X.A) (hb : Binds X.K fd ps []) (hx : ∀ σ, PassesAt CX X σ (E σ)) (ha : PA X (e :: es) t)
    (hst : starEach (e :: es) X.env = (false, eval e X.env) :: starEach es X.env) (hpl : (backTo pos (starEach es X.env)).any (·.1) = false)
    (hbase : attributeBase o m X.env (PySem.eval o X.env) = PySem.eval o X.env) (hform : methodCallForm ((e :: es).length + ([] : List Keyword).length) (backTo pos (starEach (e :: es) X.env)) (backToKw pos (keywordEach [] X.env)) = true) (hline : (apos.endLine == pos.line) = true) :
    PE X (.Call (.Attribute o m apos) (e :: es) [] pos) (tMethS C m sp E ta t) := by
  refine ⟨fun pins s σ H Q I h => PySem.W.methodCall_KW (thn (he.run pins s σ H _ I h) fun u s1 hh => ?_) (eval_meth hbase hform hline)⟩
  obtain ⟨x, H1, I1, rx, a, dx, fs, ex, ea, l, q⟩ := hh
  subst ex
  obtain rfl : u = Value.ref a := rx
  refine getmeth_ok I1 ea c hm l (PySem.W.callWith_K (first := [.ref a]) (h₀ := X.base) I.ok.mod.kin hm.kp (thn (ha.run pos pins s1 σ H1 _ I1 q) fun us s2 hh2 => ?_) hst hpl)
  obtain ⟨vs, H2, I2, r, q2⟩ := hh2
  exact ⟨I2.kIn, run_fnS (us := .ref a :: us) (vs := .ref a :: vs) F hr hb (hx σ) I2 (.cons rfl r) q2⟩
theorem pe_methS0 (he : PE X o ta) (c : Cls X.K C) (hm : Meth X.K C m f) (F : FnOk X.prog X.w X.K X.mg X.base CX kk f fd ps sp) (hr : Room kk X.A) (hb : Binds X.K fd ps []) (hx : ∀ σ, PassesAt CX X σ (E σ))
    (hbase : attributeBase o m X.env (PySem.eval o X.env) = PySem.eval o X.env) (hline : (apos.endLine == pos.line) = true) :
    PE X (.Call (.Attribute o m apos) [] [] pos) (tMethS C m sp E ta tNil) := by
  refine ⟨fun pins s σ H Q I h => PySem.W.methodCall_KW (thn (he.run pins s σ H _ I h) fun u s1 hh => ?_) (eval_meth hbase rfl hline)⟩
  obtain ⟨x, H1, I1, rx, a, dx, fs, ex, ea, l, q⟩ := hh
  subst ex
  obtain rfl : u = Value.ref a := rx
  exact getmeth_ok I1 ea c hm l (PySem.W.callWith_K0 (first := [.ref a]) I1.kIn hm.kp (run_fnS (us := [.ref a]) (vs := [.ref a]) F hr hb (hx σ) I1 (.cons rfl .nil) q))
end
theorem form_ok {xs : List Expr} {env : PySem.Env} {pos : Pos} (h : ∀ z ∈ xs, plainX z = true) (hl : xs.length < 29) : methodCallForm (xs.length + ([] : List Keyword).length) (backTo pos (starEach xs env)) (backToKw pos (keywordEach [] env)) = true := by
  have h1 : (backTo pos (starEach xs env)).any (·.1) = false := by rw [backTo_any]; exact plain_any h
  have h2 : (backTo pos (starEach xs env)).all (fun x => !x.1) = true := by
    rw [List.all_eq_true]
    intro x hx
    have := List.any_eq_false.mp h1 x hx
    simpa using this
  have h3 : (backToKw pos (keywordEach [] env)) = [] := rfl
  unfold methodCallForm
  rw [h3, h2]
  simp only [List.all_nil, Bool.and_self, Bool.true_and, List.isEmpty_nil, if_true, List.length_nil, Nat.add_zero, decide_eq_true_eq]
  omega
theorem e_mth (f i : Nat) {as : Mlg.Es} (ia : PrA fnm T call k N as) : PrE fnm T call k N (.mth f i as) ∧ PrT fnm T call k N (.mth f i as) := by
  have key : ∀ (X : Cx) (W : WX) (sc : Scope) (x : Expr), Cok fnm T call k N X sc → Takes X W → mE fnm N sc (.mth f i as) x = true → PE X x (LE T X.K W (Mlg.eval call (.mth f i as))) ∧ ∃ z ys pos, x = .Call z ys [] pos := by
    intro X W sc x C tk h
    unfold mE at h
    try dsimp only at h
    split at h
    · rename_i y py m pm xs pos
      obtain ⟨h0, h1, h2⟩ := and3 h
      obtain ⟨hab, h0⟩ := and2 h0
      obtain ⟨hln, hle0⟩ := and2 hab
      obtain ⟨h0, hf0, hf⟩ := and3 h0
      obtain ⟨hN, hv, hn⟩ := and3 h1
      obtain ⟨hfl, hst, h2⟩ := and3 h2
      have hle : xs.length < 29 := of_decide_eq_true hle0
      obtain ⟨n1, n2, _⟩ := nameB_ok hn
      have hfl : m ∉ fldNames := by simpa using hfl
      have DK := C.G.dk (of_decide_eq_true h0)
      obtain ⟨a, fd, ps, g1, g2, g3⟩ := C.G.mt f m (of_decide_eq_true hf0) (of_decide_eq_true hf)
      obtain ⟨i1, i2⟩ := ia hst X W sc xs C tk h2
      have po : PE X (.Name y py) (tVar i) := pe_var (i := i) (by rw [C.hN]; exact of_decide_eq_true hN) (by rw [C.hsc]; exact visB_ok hv) n1 n2
      refine ⟨?_, _, _, _, rfl⟩
      have fin : ∀ {t : TA}, (∀ σ H (Q : List V → Hp → Prop), LX T X.K W (relA X.K) (Mlg.evals call as) σ H Q → t σ H Q) → PE X (.Call (.Attribute (.Name y py) m pm) xs [] pos) (tMethS (deckC X.K) m (spF T X.K call f) (WE W) (tVar i) t) → PE X (.Call (.Attribute (.Name y py) m pm) xs [] pos) (LE T X.K W (Mlg.eval call (.mth f i as))) := by
        intro t ht hp
        refine PE.imp hp fun σ H Q q => ?_
        obtain ⟨ρ, F, S, q⟩ := q
        unfold Mlg.eval at q
        split at q
        · rename_i hi
          obtain ⟨p, dx, gs, s1, s2, s3⟩ := isIns_at S hi
          refine ⟨_, s1, p, dx, gs, rfl, s2, look_none fun z => hfl (s3 m z), ht σ H _ ⟨ρ, F, S, Out.bind0 q fun rs ρ1 vs F1 H1 st1 S1 rl1 h1 => ?_⟩⟩
          split at h1
          · rename_i hi1
            exact call_ok st1 S1 (.cons (r := .loc i) ⟨s1, p, rfl⟩ rl1 (fun _ _ _ z => by cases z)) h1
          · exact h1.elim
        · exact q.elim
      cases xs with
      | nil =>
        refine fin (t := tNil) (fun σ H Q q => ?_) (pe_methS0 po DK.cls g1 g3 (C.room.mono (by omega)) g2 (fun σ => passAt tk σ) rfl hln)
        cases as with
        | nil => obtain ⟨ρ, F, S, q⟩ := q; exact q [] F H .refl S .nil
        | cons _ _ => unfold mEs at h2; cases h2
        | star _ _ => unfold mEs at h2; cases h2
      | cons y ys =>
        refine fin (fun σ H Q q => q) (pe_methS po DK.cls g1 g3 (C.room.mono (by omega)) g2 (fun σ => passAt tk σ) i1 (starEach_plain (i2 y List.mem_cons_self)) (by rw [backTo_any]; exact plain_any fun z hz => i2 z (List.mem_cons_of_mem _ hz)) rfl ?_ hln)
        exact form_ok i2 hle
    · cases h
  refine ⟨fun X W sc x C tk h => (key X W sc x C tk h).1, fun X W sc x C tk ht h => ?_⟩
  obtain ⟨h1, z, ys, pos, rfl⟩ := key X W sc x C tk h
  exact pt_of h1 (by intro _; rfl)
/-! ### a new instance -/
def tMakeS (C : Addr) (sp : Sp) (E : St → XK) (t : TA) : TE := fun σ H Q => t σ H fun vs H1 => ∀ x dx, H1 x = none → H1 dx = none → dx ≠ x → sp (.ref x :: vs) (upd (upd H1 dx (.own x)) x (.ins C dx [])) (fun v H2 => v = .non ∧ Q (.ref x) H2) (E σ)
section
variable {X : Cx} {CX : CXT} {C f : Addr} {fd : FuncData} {ps : List Str} {sp : Sp} {E : St → XK} {x : Str} {p pos : Pos} {e : Expr} {es : List Expr} {t : TA} {kk : Nat}
theorem pe_makeS (M : Mk X.K C f) (F : FnOk X.prog X.w X.K X.mg X.base CX kk f fd ps sp) (hr : Room (kk + 1) X.A) (hg : Gl X x) (hm : X.mg x = some (.ref C)) (hb : Binds X.K fd ps []) (hx : ∀ σ, PassesAt CX X σ (E σ)) (ha : PA X (e :: es) t) (hdb : (x == ("__debug__" : Str)) = false)
    (he : starEach (e :: es) X.env = (false, eval e X.env) :: starEach es X.env) (hpl : (backTo pos (starEach es X.env)).any (·.1) = false) : PE X (.Call (.Name x p) (e :: es) [] pos) (tMakeS C sp E t) := by
  refine ⟨fun pins s σ H Q I h => wpAny_Call_Name_kw (ld_glob I hg hm ?_ hdb)⟩
  refine PySem.W.callWith_K (h₀ := X.base) I.ok.mod.kin M.kp (thn (ha.run pos pins s σ H _ I h) fun us s1 hh => ?_) he hpl
  obtain ⟨vs, H1, I1, r, q⟩ := hh
  refine ⟨I1.kIn, ?_⟩
  show wpAny _ _ (PySem.call (Value.ref C) us) _ _ _
  have hq := q (s1.heap.objs.size + 1) s1.heap.objs.size (I1.hok.fresh (Nat.le_succ _)) (I1.hok.fresh (Nat.le_refl _)) (Nat.ne_of_lt (Nat.lt_succ_self _))
  have I2 := Inv.made (C := C) I1
  have r2 : Vals (V.ref (s1.heap.objs.size + 1) :: vs) (Value.ref (s1.heap.objs.size + 1) :: us) := .cons rfl r
  have hl : ((Value.ref (s1.heap.objs.size + 1) :: us) ++ []).length = ps.length := by
    have z := r2.length
    rw [F.len _ _ _ _ hq] at z
    rw [List.append_nil]
    exact z.symm
  have hB := hb _ (Value.ref (s1.heap.objs.size + 1) :: us) I2.kIn hl
  rw [List.append_nil] at hB
  refine wpAny_call (make_map (f := f) I1.kIn M.makes M.init (beq_iff_eq.mp M.fn) (codeAny_mono (F.run _ X.stack _ _ ⟨Value.ref (s1.heap.objs.size + 1) :: us, []⟩ (Value.ref (s1.heap.objs.size + 1) :: us) _ _ (E σ) (hr.make C us [])
    (I2.env0.make C us []) hB r2 hq) fun rr s' hq' => ?_))
  cases rr with
  | error z => exact hx σ pins _ _ z s' I2 hq'
  | ok fl =>
    cases fl with
    | ret u =>
      obtain ⟨v, H3, I3, rv, ev, q3⟩ := I2.after hq'
      subst ev
      exact ⟨rv, V.ref (s1.heap.objs.size + 1), H3, I3, rfl, q3⟩
    | _ => exact hq'.elim
end
theorem RelRs.step {K : Frag} {σ : St} {H0 H1 H2 : Hp} {ρ1 ρ2 : Env} {F1 F2 : Hp} (S1 : Sim K ρ1 F1 σ H1) (S2 : Sim K ρ2 F2 σ H2) (s : Step ρ1 σ F1 H1 ρ2 σ F2 H2) : ∀ {vs : List V} {rs : List R}, RelRs K H0 σ ρ1 F1 H1 vs rs → RelRs K H0 σ ρ2 F2 H2 vs rs
  | _, _, .nil => .nil
  | _, _, .cons h t d => .cons (h.step S1 S2 s) (RelRs.step S1 S2 s t) d
/-- __init__'s promise, from that of the call which hands the object back -/
theorem mk_sp {K : Frag} {f : Nat} {x : Addr} {vs : List V} {H : Hp} {Q : VK} {E : XK} (h : spF T K (mkCall call) f (.ref x :: vs) H Q E) : spF T K call f (.ref x :: vs) H (fun v H2 => v = .non ∧ Q (.ref x) H2) E := by
  obtain ⟨as, F, S, q⟩ := h
  refine ⟨as, F, S, ?_⟩
  unfold mkCall at q
  cases hc : call f as with
  | no => rw [hc] at q; exact q
  | exc c d outs => rw [hc] at q; exact q
  | ok pr =>
    rw [hc] at q
    obtain ⟨r, outs⟩ := pr
    try dsimp only at q
    split at q
    · rename_i fs outs' e
      cases e
      intro v F' H' st S' rv
      have rv : Rep K F' v .none := rv
      cases rv
      refine ⟨rfl, ?_⟩
      obtain ⟨p, hp, hF, hO⟩ := S'.slot 0 _ rfl
      have hp : some (some (V.ref x)) = some (some (V.ref p)) := hp
      cases hp
      refine q (.ref x) F' H' (st.trans (Step.setSlot (i := 0) (x := some (.ref x)) (s' := .un) (by simp) rfl)) (S'.putUn (i := 0) (x := some (.ref x)) (by simp)) ⟨x, rfl, hF, hO, ?_, ?_⟩
      · rintro ⟨j, s, o, h1, h2, h3⟩
        cases j with
        | zero => cases h1; cases h2
        | succ j =>
          have := S'.sep 0 (j + 1) _ s _ o x rfl h1 rfl h2 rfl h3
          cases this
      · exact (st.own x ⟨0, _, _, rfl, rfl, rfl⟩).symm
    · exact q.elim
    · rename_i e; cases e
    · rename_i e; cases e
theorem e_mk (f : Nat) {as : Mlg.Es} (ia : PrA fnm T call k N as) : PrE fnm T call k N (.mk f as) := by
  intro X W sc x C tk h
  unfold mE at h
  try dsimp only at h
  split at h
  · rename_i y py z xs pos
    obtain ⟨h0, h1, h2⟩ := and3 h
    obtain ⟨h0, hf0, hf⟩ := and3 h0
    obtain ⟨hy, hg⟩ := and2 h1
    obtain ⟨hst, h2⟩ := and2 h2
    have hy : y = ("Deck" : Str) := of_decide_eq_true hy
    subst hy
    have DK := C.G.dk (of_decide_eq_true h0)
    obtain ⟨a, fd, ps, g1, g2, g3⟩ := C.G.mkr f (of_decide_eq_true hf0) (of_decide_eq_true hf)
    obtain ⟨i1, i2⟩ := ia hst X W sc (z :: xs) C tk h2
    have hgl : Gl X ("Deck" : Str) := by show X.env.scope.names.lookup _ = _; rw [C.hsc]; exact of_decide_eq_true hg
    refine PE.imp (pe_makeS g1 g3 (C.room.mono (by omega)) hgl DK.gl g2 (fun σ => passAt tk σ) i1 (by decide) (starEach_plain (i2 z List.mem_cons_self)) (by rw [backTo_any]; exact plain_any fun w hw => i2 w (List.mem_cons_of_mem _ hw))) fun σ H Q q => ?_
    obtain ⟨ρ, F, S, q⟩ := q
    refine ⟨ρ, F, S, Out.bind0 q fun rs ρ1 vs F1 H1 st1 S1 rl1 h1 => ?_⟩
    intro x dx hx hdx ne
    have hx2 : (upd H1 dx (.own x)) x = none := by rw [upd_ne ne.symm]; exact hx
    have S2 := (S1.laid (u := .own x) hdx).laid (u := .ins (deckC X.K) dx []) hx2
    have st2 := (Step.laid (ρ := ρ1) (σ := σ) (F := F1) (u := .own x) hdx).trans (Step.laid (u := .ins (deckC X.K) dx []) hx2)
    obtain ⟨nF, nO⟩ := S1.new hx
    have rl2 := RelRs.step S1 S2 st2 rl1
    refine mk_sp (call_ok (st1.trans st2) S2 (.cons (r := .tmp (.ins [])) ⟨x, rfl, nF, ⟨dx, [], upd_same, rfl, .nil, by simp⟩, nO, st1.dom x hx⟩ rl2 ?_) h1)
    intro p o e1 _ i e2 o' e3
    cases e1
    obtain ⟨w, hw, rw'⟩ := rl1.get e3
    rw [e2] at hw
    cases hw
    obtain ⟨p, e4, _, hO, _, _⟩ := rw'
    cases e4
    obtain ⟨u, hu⟩ := hO.at
    rw [hx] at hu
    cases hu
  · cases h
end
end Msd
/-! SoundV: t[::-1] of a tuple. -/
namespace Msd
open PySem.Spec PySem L2 PyProof.Rows
section
variable {w : World} {prog : Program} {A : Around} {s : Shared} {E : Value → Shared → Prop}
theorem adj_rev (n : Nat) : Builtin.Slice.sliceAdjust none none (-1) (n : Int) = ((n : Int) - 1, -1) := by
  simp [Builtin.Slice.sliceAdjust]
theorem places_rev (n : Nat) : Builtin.Slice.slicePlaces ((n : Int) - 1) (-1) (-1) = n := by
  simp [Builtin.Slice.slicePlaces]
  omega
theorem applied_rev {sl : Addr} {vs : Value} {n : Nat} {Q : Int × Int × Nat → Shared → Prop} (hs : s.heap.IsSliceOf sl .none .none vs) (ps : IsPart vs (some (-1))) (h : Q ((n : Int) - 1, -1, n) s) : wpAny (model prog w) A (Builtin.Slice.sliceApplied (.ref sl) (pure (n : Int))) Q E s := by
  obtain ⟨oz, hos, _, hds⟩ := id hs
  unfold Builtin.Slice.sliceApplied; unfold Builtin.Slice.sliceFields
  refine wpAny_bind (wpAny_bind (wpAny_field hos hds (x := .none) rfl (wpAny_bind (wpAny_field hos hds (x := .none) rfl (wpAny_bind (wpAny_field hos hds (x := vs) rfl (wpAny_pure ?_)))))))
  refine wpAny_bind (HT.slicePart_ ps ?_)
  show wpAny _ _ (if ((-1 : Int) == 0) = true then _ else _) _ _ s
  rw [if_neg (by decide)]
  refine wpAny_bind (HT.slicePart_ .none (wpAny_bind (HT.slicePart_ .none (wpAny_bind (wpAny_pure ?_)))))
  show wpAny _ _ (match Builtin.Slice.sliceAdjust none none (-1) (n : Int) with | (lo, hi) => pure (lo, (-1 : Int), Builtin.Slice.slicePlaces lo hi (-1))) _ _ s
  rw [adj_rev]
  show wpAny _ _ (pure ((n : Int) - 1, (-1 : Int), Builtin.Slice.slicePlaces ((n : Int) - 1) (-1) (-1))) _ _ s
  rw [places_rev]
  exact wpAny_pure h
theorem fm_congr {α β : Type} {f g : α → Option β} : ∀ {l : List α}, (∀ x ∈ l, f x = g x) → l.filterMap f = l.filterMap g
  | [], _ => rfl
  | x :: l, h => by
    rw [List.filterMap_cons, List.filterMap_cons, h x (.head _), fm_congr fun y hy => h y (.tail _ hy)]
theorem pick_rev (xs : Array Value) : ((List.range xs.size).filterMap fun (m : Nat) => xs[((xs.size : Int) - 1 + (m : Int) * (-1)).toNat]?).toArray = xs.toList.reverse.toArray := by
  have e : (List.range xs.size).filterMap (fun (m : Nat) => xs[((xs.size : Int) - 1 + (m : Int) * (-1)).toNat]?) = ((List.range xs.size).map fun k => xs.size - 1 - k).filterMap (xs[·]?) := by
    rw [List.filterMap_map]
    exact fm_congr fun m hm => by
      have := List.mem_range.mp hm
      have z : ((xs.size : Int) - 1 + (m : Int) * (-1)).toNat = xs.size - 1 - m := by omega
      rw [z]
      rfl
  rw [e, PySem.W.krv_range, List.filterMap_reverse, PySem.W.krv_all]
theorem getItem_tup_rev {t sl : Addr} {items : Array Value} {vs : Value} {Q : Value → Shared → Prop} (ht : IsTup s.heap t items) (hs : s.heap.IsSliceOf sl .none .none vs) (ps : IsPart vs (some (-1)))
    (h : Q (.ref s.heap.objs.size) { s with heap := s.heap.push { cls := .type "tuple", data := .seq items.toList.reverse.toArray } }) (hsz : items.size ≤ sizeLine) : wpAny (model prog w) A (getItem (.ref t) (.ref sl)) Q E s := by
  have hk : sizeOk (.seq items.toList.reverse.toArray) := by
    show items.toList.reverse.toArray.size ≤ sizeLine
    rw [List.size_toArray, List.length_reverse, Array.length_toList]
    exact hsz
  have hT2 : s.TypeIs (.ref sl) "slice" := by obtain ⟨oz, hos, hcs, _⟩ := id hs; exact ⟨oz, hos, hcs⟩
  unfold getItem
  (try with_reducible refine wpAny_holding ?_); (first | refine wpAny_bind (wpAny_pure ?_) | skip)
  refine wpAny_bind (wpAny_sequenceKey ht.typeIs (by decide) <| wpAny_bind <| wpAny_callSpecial?_slot (name := Str.ofString "__getitem__") ht.typeIs PyProof.Rows.slot_tuple_getitem (wpAny_call_entry PyProof.Rows.slot_tuple_getitem ht.typeIs entry_tuple_getitem ?_ (args_tuple_getitem _ _)))
  show wpAny _ _ (Builtin.Tuple.tupleItemsOf (Value.ref t) >>= _) _ _ s
  refine wpAny_bind (PyProof.Rows.tupleItemsOf_ ht (wpAny_bind (wpAny_typeOf hT2 ?_)))
  rw [if_pos (by decide)]
  refine wpAny_bind (applied_rev hs ps ?_)
  show wpAny _ _ (if (((items.size : Int) - 1) == 0 && (-1 : Int) == 1 && items.size == items.size) = true then _ else _) _ _ s
  rw [if_neg (by simp), pick_rev]
  first
    | exact wpAny_bind (m := Builtin.Tuple.tupleExact _) (wpAny_newObj_type (wpAny_pure ⟨_, rfl, wpAny_pure h⟩) hk)
    | exact wpAny_bind (m := Builtin.Tuple.tupleExact _) (wpAny_newObj_type (wpAny_bind (wpAny_pure (wpAny_pure ⟨_, rfl, wpAny_pure h⟩))) hk)
end
section
variable {X : Cx}
/-- xs[::-1] of a list, of a tuple -/
def tRevB (K : PySem.W.Frag) (te : TE) : TE := fun σ H Q => te σ H fun x H1 => ∃ a xs, x = .ref a ∧ ((SqL K H1 a xs ∧ ∀ p, H1 p = none → Q (.ref p) (upd H1 p (.lst xs.reverse))) ∨ (SqT K H1 a xs ∧ ∀ p, H1 p = none → Q (.ref p) (upd H1 p (.tup xs.reverse))))
theorem pe_revB {e : Expr} {te : TE} {k : Nat} {p1 p2 p3 pos : Pos} (he : PE X e te) : PE X (.Subscript e (.Slice none none (some (.UnaryOp .USub (.Constant (.int 1) k p1) p2)) p3) pos) (tRevB X.K te) := by
  refine ⟨fun pp s σ H Q I h => Subscript_ (thn (he.run pp s σ H _ I h) fun v s1 hh => ?_)⟩
  obtain ⟨x, H1, I1, r1, a, xs, ex, q⟩ := hh
  subst ex
  cases r1
  have hst : PO X (some (.UnaryOp .USub (.Constant (.int 1) k p1) p2)) (tPart (tUn (rU fun i => .int (-i)) (tC (.int 1)))) := po_some (pe_un un_neg (pe_int))
  refine wpAny_Slice (thn (po_none.run pp s1 σ H1 (fun o M => o = none ∧ M = H1) I1 ⟨rfl, rfl⟩) fun vl s2 hh => ?_)
  obtain ⟨l, H2, I2, pl, el, e2⟩ := hh
  subst el e2
  refine thn (po_none.run pp s2 σ H2 (fun o M => o = none ∧ M = H2) I2 ⟨rfl, rfl⟩) fun vu s3 hh => ?_
  obtain ⟨u, H3, I3, pu, eu, e3⟩ := hh
  subst eu e3
  refine thn (hst.run pp s3 σ H3 (fun o M => o = some (-1) ∧ M = H3) I3 ⟨1, rfl, -1, rfl, rfl, rfl⟩) fun vs s4 hh => ?_
  obtain ⟨o, H4, I4, ps, eo, e4⟩ := hh
  subst eo e4
  have I5 : Inv X pp σ H4 { s4 with heap := s4.heap.push { cls := .type "slice", data := .fields #[vl, vu, vs] } } := I4.kept (t' := s4.toks) fun b ob z => Heap.get?_push_of_some _ z
  show wpAny (model X.prog X.w) X.A (subscriptTail e (.Slice none none (some (.UnaryOp .USub (.Constant (.int 1) k p1) p2)) p3) (.ref a) (.ref s4.heap.objs.size)) (EP X pp σ Q) X.xe { s4 with heap := s4.heap.push { cls := .type "slice", data := .fields #[vl, vu, vs] } }
  rcases q with ⟨hx, q⟩ | ⟨hx, q⟩
  · obtain ⟨its, r, ht, hz⟩ := I5.list hx
    have hlen := r.length
    refine tail_any (ops := [.ref a, .ref s4.heap.objs.size]) ht.isList.typeIs (PySem.slot_list_getitem.lookup) (wpAny_getItem_list_slice ht.isList (Heap.IsSliceOf.new _ vl vu vs) pl pu ps (by decide) ?_ (by rw [List.size_toArray]; omega)) (by with_unfolding_all rfl)
    rw [PySem.W.krv_pick]
    exact ⟨.ref _, _, I5.laid (t' := s4.toks) (o := .lst xs.reverse) (fun b ob z => Heap.get?_push_of_some _ z) (Nat.le_refl _) ⟨by rw [List.length_reverse]; exact hz, _, 0, r.reverse, Heap.get?_push_size _ rfl⟩, rfl, q _ (I5.hok.fresh (Nat.le_refl _))⟩
  · obtain ⟨its, r, ht, hz⟩ := I5.tuple hx
    have hlen := r.length
    cases pl
    cases pu
    refine tail_any (ops := [.ref a, .ref s4.heap.objs.size]) ht.typeIs (PyProof.Rows.slot_tuple_getitem.lookup) ?_ (by with_unfolding_all rfl)
    refine getItem_tup_rev ht (Heap.IsSliceOf.new _ .none .none vs) ps ?_ (by rw [List.size_toArray]; omega)
    exact ⟨.ref _, _, I5.laid (t' := s4.toks) (o := .tup xs.reverse) (fun b ob z => Heap.get?_push_of_some _ z) (Nat.le_refl _) ⟨by rw [List.length_reverse]; exact hz, _, r.reverse, IsTup.new _ _⟩, rfl, q _ (I5.hok.fresh (Nat.le_refl _))⟩
end
end Msd
/-! Sound13: what is walked. -/
namespace Msd
open PySem PySem.Spec PyProof.Rows L2 Mlg
/-- J gives the items ds as long as P stands -/
structure Goes (K : Frag) (J : L2.It) (ds : List D) (P : Env → Hp → St → Hp → Prop) : Prop where
  go : ∀ (i : Nat) (ρ : Env) (F : Hp) (σ : St) (H : Hp), i < ds.length → P ρ F σ H → Sim K ρ F σ H → J.go i H
  stop : ∀ (ρ : Env) (F : Hp) (σ : St) (H : Hp), P ρ F σ H → Sim K ρ F σ H → J.stop ds.length H
  yld : ∀ (i : Nat) (d : D) (ρ : Env) (F : Hp) (σ : St) (H : Hp) (x : V) (H' : Hp), ds[i]? = some d → P ρ F σ H → Sim K ρ F σ H → J.yld i H x H' → ∃ F', Step ρ σ F H ρ σ F' H' ∧ Sim K ρ F' σ H' ∧ Rep K F' x d
  stays : ∀ (ρ : Env) (F : Hp) (σ : St) (H : Hp) (ρ' : Env) (F' : Hp) (σ' : St) (H' : Hp), P ρ F σ H → Step ρ σ F H ρ' σ' F' H' → P ρ' F' σ' H'
section
variable {K : Frag}
/-- a list that stands still -/
def SrcL (K : Frag) (a : Addr) (vs : List V) (ds : List D) (ρ : Env) (F : Hp) (σ : St) (H : Hp) : Prop := ((H a = some (.lst vs) ∧ ¬ OwnU ρ σ a) ∨ SqL K F a vs) ∧ Reps K F vs ds
theorem SrcL.sq {a : Addr} {vs : List V} {ds : List D} {ρ : Env} {F : Hp} {σ : St} {H : Hp} (h : SrcL K a vs ds ρ F σ H) (fh : Same F H) : SqL K H a vs := h.1.elim (fun h => SqL.of h.1) fun h => fh.seq h
theorem SrcL.stays {a : Addr} {vs : List V} {ds : List D} {ρ ρ' : Env} {F F' : Hp} {σ σ' : St} {H H' : Hp} (h : SrcL K a vs ds ρ F σ H) (st : Step ρ σ F H ρ' σ' F' H') : SrcL K a vs ds ρ' F' σ' H' := by
  refine ⟨h.1.elim (fun h => .inl ⟨st.keep a _ h.1 h.2, fun q => (st.ownU a q).elim h.2 fun z => ?_⟩) fun h => .inr (st.ext.seq h), h.2.mono st.ext⟩
  rw [h.1] at z; cases z
theorem goes_list (a : Addr) (vs : List V) (ds : List D) : Goes K (Itl K a) ds (SrcL K a vs ds) where
  go := fun i ρ F σ H hi h S => ⟨vs, vs[i]'(by rw [h.2.length]; exact hi), h.sq S.fh, List.getElem?_eq_getElem _⟩
  stop := fun ρ F σ H h S => ⟨vs, h.sq S.fh, Nat.le_of_eq h.2.length⟩
  yld := fun i d ρ F σ H x H' hd h S y => by
    obtain ⟨rfl, y⟩ := y
    obtain ⟨v, e, r⟩ := h.2.get' hd
    have := y vs (h.sq S.fh)
    rw [e] at this
    cases this
    exact ⟨F, .refl, S, r⟩
  stays := fun _ _ _ _ _ _ _ _ h st => h.stays st
def SrcT (K : Frag) (a : Addr) (vs : List V) (ds : List D) (_ : Env) (F : Hp) (_ : St) (_ : Hp) : Prop := F a = some (.tup vs) ∧ Reps K F vs ds
theorem sqT_inj {H : Hp} {a : Addr} {vs xs : List V} (h : H a = some (.tup vs)) (y : ∀ xs, SqT K H a xs → ∃ x : V, xs[0]? = some x) : True := trivial
theorem goes_tup (a : Addr) (vs : List V) (ds : List D) : Goes K (Itt K a) ds (SrcT K a vs ds) where
  go := fun i ρ F σ H hi h S => ⟨vs, vs[i]'(by rw [h.2.length]; exact hi), SqT.of (S.fh _ _ h.1), List.getElem?_eq_getElem _⟩
  stop := fun ρ F σ H h S => ⟨vs, SqT.of (S.fh _ _ h.1), Nat.le_of_eq h.2.length⟩
  yld := fun i d ρ F σ H x H' hd h S y => by
    obtain ⟨rfl, y⟩ := y
    obtain ⟨v, e, r⟩ := h.2.get' hd
    have := y vs (SqT.of (S.fh _ _ h.1))
    rw [e] at this
    cases this
    exact ⟨F, .refl, S, r⟩
  stays := fun _ _ _ _ _ _ _ _ h st => ⟨st.ext _ _ h.1, h.2.mono st.ext⟩
theorem rangeL_get {lo hi : Int} {i : Nat} {d : D} (h : (rangeL lo hi)[i]? = some d) : d = .int (lo + i) := by
  unfold rangeL at h
  rw [List.getElem?_map] at h
  cases e : (List.range (hi - lo).toNat)[i]? with
  | none => rw [e] at h; cases h
  | some k =>
    rw [e] at h
    have := List.getElem?_eq_some_iff.mp e
    obtain ⟨h1, h2⟩ := this
    simp at h2
    subst h2
    cases h
    rfl
theorem rangeL_len (lo hi : Int) : (rangeL lo hi).length = (hi - lo).toNat := by simp [rangeL]
theorem goes_range (lo hi : Int) : Goes K (Itr lo (hi - lo).toNat) (rangeL lo hi) (fun _ _ _ _ => True) where
  go := fun i ρ F σ H h _ _ => by rw [rangeL_len] at h; exact h
  stop := fun ρ F σ H _ _ => by rw [rangeL_len]; exact Nat.le_refl _
  yld := fun i d ρ F σ H x H' hd _ S y => by
    obtain ⟨rfl, rfl⟩ := y
    rw [rangeL_get hd]
    exact ⟨F, .refl, S, .int _⟩
  stays := fun _ _ _ _ _ _ _ _ _ _ => trivial
theorem goes_str (x : Str) : Goes K (Its x) (chars x) (fun _ _ _ _ => True) where
  go := fun i ρ F σ H h _ _ => by
    have h : i < (chars x).length := h
    show i < x.cps.size
    simpa [chars] using h
  stop := fun ρ F σ H _ _ => by show x.cps.size ≤ (chars x).length; simp [chars]
  yld := fun i d ρ F σ H v H' hd _ S y => by
    obtain ⟨rfl, c, hc, rfl⟩ := y
    unfold chars at hd
    rw [List.getElem?_map, Array.getElem?_toList, hc] at hd
    cases hd
    exact ⟨F, .refl, S, .str _⟩
  stays := fun _ _ _ _ _ _ _ _ _ _ => trivial
theorem enumL_get : ∀ {ds : List D} {n i : Nat} {d : D}, (enumL n ds)[i]? = some d → ∃ e, ds[i]? = some e ∧ d = .tuple [.int ((n + i : Nat) : Int), e]
  | [], n, i, d, h => by simp [enumL] at h
  | x :: r, n, 0, d, h => by simp [enumL] at h; exact ⟨x, rfl, by rw [← h]; rfl⟩
  | x :: r, n, i + 1, d, h => by
    have h : (enumL (n + 1) r)[i]? = some d := by simpa [enumL] using h
    obtain ⟨e, h1, h2⟩ := enumL_get h
    refine ⟨e, by simpa using h1, ?_⟩
    rw [h2, show n + 1 + i = n + (i + 1) by omega]
theorem enumL_len : ∀ (ds : List D) (n : Nat), (enumL n ds).length = ds.length
  | [], _ => rfl
  | _ :: r, n => by simp [enumL, enumL_len r]
theorem goes_enum (a : Addr) (vs : List V) (ds : List D) : Goes K (Ite K a) (enumL 0 ds) (SrcL K a vs ds) where
  go := fun i ρ F σ H hi h S => by
    rw [enumL_len] at hi
    exact ⟨vs, vs[i]'(by rw [h.2.length]; exact hi), h.sq S.fh, List.getElem?_eq_getElem _⟩
  stop := fun ρ F σ H h S => by rw [enumL_len]; exact ⟨vs, h.sq S.fh, Nat.le_of_eq h.2.length⟩
  yld := fun i d ρ F σ H x H' hd h S y => by
    obtain ⟨e, h1, rfl⟩ := enumL_get hd
    obtain ⟨t, x', rfl, nt, rfl, y⟩ := y
    obtain ⟨v, ev, r⟩ := h.2.get' h1
    have := y vs (h.sq S.fh)
    rw [ev] at this
    cases this
    have hF := (S.new nt).1
    refine ⟨_, Step.laidF hF nt, S.laidF nt, .tup upd_same (.cons ?_ (.cons (r.mono (same_new hF)) .nil))⟩
    rw [Nat.zero_add]
    exact .int _
  stays := fun _ _ _ _ _ _ _ _ h st => h.stays st
end

/-! ### the reading of a walked thing -/
def LockOk (ρ : Env) (σ : St) (lk : Option Nat) : Prop := ∀ j, lk = some j → ∃ p, OwnU ρ σ p ∧ σ[j]? = some (some (.ref p))
def OutW (T : Errs) (K : Frag) (W : WX) (ρ : Env) (F : Hp) (σ : St) (H : Hp) (res : Res ((List D × Option Nat) × Env)) (R' : L2.It → Hp → Prop) : Prop := match res with
  | .ok p => ∀ J F' H' P, Step ρ σ F H p.2 σ F' H' → Sim K p.2 F' σ H' → Goes K J p.1.1 P → P p.2 F' σ H' → LockOk ρ σ p.1.2 → R' J H'
  | .exc c f ρ' => ∀ F' H' cls d, Step ρ σ F H ρ' σ F' H' → Sim K ρ' F' σ H' → ExcR T K F' H' c f cls d → W cls d σ H'
  | .no => False
theorem OutW.bind {α β : Type} {T : Errs} {K : Frag} {W : WX} {ρ : Env} {F H : Hp} {σ : St} {Rl : Hp → Env → Hp → Hp → β → α → Prop} {res : Res (α × Env)} {kk : α × Env → Res ((List D × Option Nat) × Env)} {Q1 : β → Hp → Prop} {R' : L2.It → Hp → Prop} (h : OutW T K W ρ F σ H (res.bind kk) R')
    (hk : ∀ a ρ1 b F1 H1, Step ρ σ F H ρ1 σ F1 H1 → Sim K ρ1 F1 σ H1 → Rl H ρ1 F1 H1 b a → OutW T K W ρ F σ H (kk (a, ρ1)) R' → Q1 b H1) : Out T K W ρ F σ H Rl res Q1 := by
  cases res with
  | ok p => exact fun b F' H' s S r => hk p.1 p.2 b F' H' s S r h
  | exc c f ρ' => exact h
  | no => exact h
theorem OutW.bind1 {α β : Type} {T : Errs} {K : Frag} {W : WX} {ρ ρ1 : Env} {F H F1 H1 : Hp} {σ : St} {Rl : Hp → Env → Hp → Hp → β → α → Prop} {res : Res (α × Env)} {kk : α × Env → Res ((List D × Option Nat) × Env)} {Q1 : β → Hp → Prop} {R' : L2.It → Hp → Prop} (st : Step ρ σ F H ρ1 σ F1 H1) (h : OutW T K W ρ F σ H (res.bind kk) R')
    (hk : ∀ a ρ2 b F2 H2, Step ρ1 σ F1 H1 ρ2 σ F2 H2 → Sim K ρ2 F2 σ H2 → Rl H1 ρ2 F2 H2 b a → OutW T K W ρ F σ H (kk (a, ρ2)) R' → Q1 b H2) : Out T K W ρ1 F1 σ H1 Rl res Q1 := by
  cases res with
  | ok p => exact fun b F' H' s S r => hk p.1 p.2 b F' H' s S r h
  | exc c f ρ' => exact fun F' H' cls d s S r => h F' H' cls d (st.trans s) S r
  | no => exact h
def LW (T : Errs) (K : Frag) (W : WX) (m : Env → Res ((List D × Option Nat) × Env)) : TI := fun σ H R => ∃ ρ F, Sim K ρ F σ H ∧ OutW T K W ρ F σ H (m ρ) R
theorem PI.imp {X : Cx} {tg x : Expr} {t t' : TI} (h : PI X tg x t) (i : ∀ σ H R, t' σ H R → t σ H R) : PI X tg x t' := ⟨fun pins s σ H R I q => h.run pins s σ H R I (i σ H R q)⟩
theorem PI.or {X : Cx} {tg x : Expr} {t t' : TI} (h : PI X tg x t) (h' : PI X tg x t') : PI X tg x (fun σ H R => t σ H R ∨ t' σ H R) := ⟨fun pins s σ H R I q => q.elim (h.run pins s σ H R I) (h'.run pins s σ H R I)⟩
section
variable {fnm : Nat → Option Str} {T : Errs} {call : CallT} {k : Nat} {N : List Str}
/-- the targets of enumerate are a tuple -/
def enuT : Mlg.It → Expr → Prop
  | .envar _, t => ∃ xs kk p, t = .Tuple xs kk p
  | .enu _, t => ∃ xs kk p, t = .Tuple xs kk p
  | _, _ => True
def PrI (fnm : Nat → Option Str) (T : Errs) (call : CallT) (k : Nat) (N : List Str) (it : Mlg.It) : Prop :=
  ∀ (X : Cx) (W : WX) (sc : Scope) (x tg : Expr), Cok fnm T call k N X sc → Takes X W → enuT it tg → mIt fnm N sc it x = true → PI X tg x (LW T X.K W (Mlg.walk call it))
theorem rangeOk_ok {i : Int} (h : rangeOk i = true) : -(2 ^ 62) ≤ i ∧ i < 2 ^ 62 := by
  obtain ⟨a, b⟩ := and2 h
  have a := of_decide_eq_true a
  have b := of_decide_eq_true b
  omega
theorem lock_none {ρ : Env} {σ : St} : LockOk ρ σ none := fun _ e => by cases e
theorem i_r1 {a : Mlg.E} (ia : PrE fnm T call k N a) : PrI fnm T call k N (.r1 a) := by
  intro X W sc x tg C tk _ h
  unfold mIt at h
  try dsimp only at h
  split at h
  · rename_i n p x pos
    obtain ⟨hn, hp, h1⟩ := and3 h
    obtain ⟨rfl, hg⟩ := bltB_ok hn
    refine PI.imp (pi_range1 (by show X.env.scope.names.lookup _ = _; rw [C.hsc]; exact hg) (C.G.bl _ (by decide)) (pa_cons (ia X W sc x C tk h1) pa_nil (starEach_plain hp)) (starEach_plain hp)) fun σ H R' q => ?_
    obtain ⟨ρ, F, S, q⟩ := q
    refine ⟨ρ, F, S, OutW.bind q fun r1 ρ1 v F1 H1 st S1 rl h => ?_⟩
    cases r1 with
    | tmp _ => exact h.elim
    | loc _ => exact h.elim
    | val d =>
      cases d <;> first | exact h.elim | skip
      rename_i i
      try dsimp only at h
      split at h
      · rename_i c
        cases rl
        have := rangeOk_ok c
        refine ⟨i, rfl, this.1, this.2, ?_⟩
        have hh := h (Itr 0 (i - 0).toNat) F1 H1 _ st S1 (goes_range 0 i) trivial lock_none
        rw [Int.sub_zero] at hh
        exact hh
      · exact h.elim
  · cases h
theorem i_r2 {a b : Mlg.E} (ia : PrE fnm T call k N a) (ib : PrE fnm T call k N b) : PrI fnm T call k N (.r2 a b) := by
  intro X W sc x tg C tk _ h
  unfold mIt at h
  try dsimp only at h
  split at h
  · rename_i n p x y pos
    obtain ⟨h0, hpy, h1⟩ := and3 h
    obtain ⟨hn, hpx⟩ := and2 h0
    obtain ⟨h1, h2⟩ := and2 h1
    obtain ⟨rfl, hg⟩ := bltB_ok hn
    refine PI.imp (pi_range2 (by show X.env.scope.names.lookup _ = _; rw [C.hsc]; exact hg) (C.G.bl _ (by decide)) (pa_cons (ia X W sc x C tk h1) (pa_cons (ib X W sc y C tk h2) pa_nil (starEach_plain hpy)) (starEach_plain hpx)) (by rw [starEach_plain hpx, starEach_plain hpy]; rfl) (by rw [starEach_plain hpy]; rfl)) fun σ H R' q => ?_
    obtain ⟨ρ, F, S, q⟩ := q
    refine ⟨ρ, F, S, OutW.bind q fun r1 ρ1 v F1 H1 st S1 rl h => ⟨ρ1, F1, S1, OutW.bind1 (Rl := relE X.K σ) st h fun r2 ρ2 v2 F2 H2 st2 S2 rl2 h' => ?_⟩⟩
    clear h
    have h := h'
    clear h'
    cases r1 with
    | tmp _ => exact h.elim
    | loc _ => exact h.elim
    | val d =>
      cases d <;> first | exact h.elim | skip
      rename_i i
      cases r2 with
      | tmp _ => exact h.elim
      | loc _ => exact h.elim
      | val d =>
        cases d <;> first | exact h.elim | skip
        rename_i j
        try dsimp only at h
        split at h
        · rename_i c
          cases rl
          cases rl2
          obtain ⟨c1, c2⟩ := and2 c
          have b1 := rangeOk_ok c1
          have b2 := rangeOk_ok c2
          exact ⟨i, j, rfl, ⟨b1.1, b1.2, b2.1, b2.2⟩, h _ F2 H2 _ (st.trans st2) S2 (goes_range i j) trivial lock_none⟩
        · exact h.elim
  · cases h
theorem i_val {a : Mlg.E} (ia : PrE fnm T call k N a) : PrI fnm T call k N (.val a) := by
  intro X W sc x tg C tk _ h
  have h : (plainX x && mE fnm N sc a x) = true := by unfold mIt at h; exact h
  obtain ⟨hp, h1⟩ := and2 h
  have hx := ia X W sc x C tk h1
  refine PI.imp (PI.or (pi_list hx) (PI.or (pi_tup hx) (pi_str hx))) fun σ H R' q => ?_
  obtain ⟨ρ, F, S, q⟩ := q
  unfold Mlg.walk at q
  cases e : Mlg.eval call a ρ with
  | no => rw [e] at q; exact q.elim
  | exc c f ρ' => rw [e] at q; exact .inl ⟨ρ, F, S, by rw [e]; exact q⟩
  | ok p =>
    rw [e] at q
    obtain ⟨r, ρ1⟩ := p
    replace q : OutW T X.K W ρ F σ H ((Res.of (walkR r)).bind fun xs => Res.ok ((xs, (none : Option Nat)), ρ1)) R' := q
    cases r with
    | loc _ => exact q.elim
    | tmp o =>
      cases o with
      | ins _ => exact q.elim
      | dic _ => exact q.elim
      | lst ds =>
        refine .inl ⟨ρ, F, S, ?_⟩
        rw [e]
        intro v F1 H1 st S1 rl
        obtain ⟨p, rfl, hF, ⟨vs, hp, hr⟩, hn, h0⟩ := rl
        exact ⟨p, rfl, ⟨vs, SqL.of hp⟩, q _ F1 H1 _ st S1 (goes_list p vs ds) ⟨.inl ⟨hp, fun z => hn z.own⟩, hr⟩ lock_none⟩
    | val d =>
      cases d <;> first | exact q.elim | skip
      · rename_i z
        refine .inr (.inr ⟨ρ, F, S, ?_⟩)
        rw [e]
        intro v F1 H1 st S1 rl
        cases rl
        exact ⟨z, rfl, q _ F1 H1 _ st S1 (goes_str z) trivial lock_none⟩
      · rename_i ds
        refine .inl ⟨ρ, F, S, ?_⟩
        rw [e]
        intro v F1 H1 st S1 rl
        cases rl with
        | lst ha hr => exact ⟨_, rfl, ⟨_, SqL.of (S1.fh _ _ ha)⟩, q _ F1 H1 _ st S1 (goes_list _ _ ds) ⟨.inr (SqL.of ha), hr⟩ lock_none⟩
      · rename_i ds
        refine .inr (.inl ⟨ρ, F, S, ?_⟩)
        rw [e]
        intro v F1 H1 st S1 rl
        cases rl with
        | tup ha hr => exact ⟨_, rfl, ⟨_, SqT.of (S1.fh _ _ ha)⟩, q _ F1 H1 _ st S1 (goes_tup _ _ ds) ⟨ha, hr⟩ lock_none⟩

theorem lockV_own {ρ : Env} {i j : Nat} {xs : List D} {ρ1 : Env} (h : lockV ρ i = some ((xs, some j), ρ1)) : j = i ∧ ρ[i]? = some (.own (.lst xs)) ∧ ρ1 = ρ.set i (.lck (.lst xs)) := by
  unfold lockV at h
  split at h
  · rename_i d e
    cases q : itemsW d with
    | none => rw [q] at h; cases h
    | some ys => rw [q] at h; cases h
  · rename_i ys e; cases h; exact ⟨rfl, e, rfl⟩
  · cases h
  · cases h
  · cases h
/-- what a name holds, walked -/
theorem lockV_ok {K : Frag} {ρ ρ1 : Env} {F H : Hp} {σ : St} {i : Nat} {p : List D × Option Nat} (S : Sim K ρ F σ H) (h : lockV ρ i = some (p, ρ1)) : ∃ v, σ[i]? = some (some v) ∧ Step ρ σ F H ρ1 σ F H ∧ Sim K ρ1 F σ H ∧ LockOk ρ σ p.2 ∧
    ((∃ a vs, v = .ref a ∧ SrcL K a vs p.1 ρ1 F σ H) ∨ (∃ a vs, v = .ref a ∧ SrcT K a vs p.1 ρ1 F σ H) ∨ ∃ z, v = .str z ∧ p.1 = chars z) := by
  unfold lockV at h
  split at h
  · rename_i d e
    cases q : itemsW d with
    | none => rw [q] at h; cases h
    | some ys =>
      rw [q] at h
      cases h
      obtain ⟨v, h1, h2⟩ := S.slot i _ e
      refine ⟨v, h1, .refl, S, lock_none, ?_⟩
      cases d <;> first | (cases q; done) | skip
      · cases q; cases h2; exact .inr (.inr ⟨_, rfl, rfl⟩)
      · cases q; cases h2 with | lst ha hr => exact .inl ⟨_, _, rfl, .inr (SqL.of ha), hr⟩
      · cases q; cases h2 with | tup ha hr => exact .inr (.inl ⟨_, _, rfl, ha, hr⟩)
  · rename_i ys e
    cases h
    obtain ⟨a, h1, h2, vs, h3, h4⟩ := S.slot i _ e
    obtain ⟨S', st'⟩ := S.lock e
    refine ⟨_, h1, st', S', fun j ej => ?_, .inl ⟨a, vs, rfl, .inl ⟨h3, ?_⟩, h4⟩⟩
    · cases ej
      exact ⟨a, ⟨i, _, e, h1⟩, h1⟩
    · rintro ⟨j, o, hj, ej⟩
      by_cases c : j = i
      · subst c; rw [List.getElem?_set_self (lt_of_get e)] at hj; cases hj
      · rw [List.getElem?_set_ne (Ne.symm c)] at hj
        exact c (S.sep j i _ _ _ _ a hj e rfl rfl ej h1)
  · rename_i ys e
    cases h
    obtain ⟨a, h1, h2, vs, h3, h4⟩ := S.slot i _ e
    refine ⟨_, h1, .refl, S, lock_none, .inl ⟨a, vs, rfl, .inl ⟨h3, ?_⟩, h4⟩⟩
    rintro ⟨j, o, hj, ej⟩
    have := S.sep j i _ _ _ _ a hj e rfl rfl ej h1
    subst this
    rw [e] at hj
    cases hj
  · rename_i ys e
    cases h
    obtain ⟨a, vs, h1, h2, h3⟩ := S.slot i _ e
    exact ⟨_, h1, .refl, S, lock_none, .inl ⟨a, vs, rfl, .inr h2, h3⟩⟩
  · cases h
theorem i_var (i : Nat) : PrI fnm T call k N (.var i) := by
  intro X W sc x tg C tk _ h
  unfold mIt at h
  try dsimp only at h
  split at h
  · rename_i x p
    obtain ⟨h1, h2, h3⟩ := and3 h
    obtain ⟨n1, n2, _⟩ := nameB_ok h3
    have hx : PE X (.Name x p) (tVar i) := pe_var (i := i) (by rw [C.hN]; exact of_decide_eq_true h1) (by rw [C.hsc]; exact visB_ok h2) n1 n2
    refine PI.imp (PI.or (pi_list hx) (PI.or (pi_tup hx) (pi_str hx))) fun σ H R' q => ?_
    obtain ⟨ρ, F, S, q⟩ := q
    unfold Mlg.walk at q
    cases e : lockV ρ i with
    | none => rw [e] at q; exact q.elim
    | some pr =>
      rw [e] at q
      obtain ⟨p, ρ1⟩ := pr
      obtain ⟨v, hv, st, S1, lk, c⟩ := lockV_ok S e
      rcases c with ⟨a, vs, rfl, c⟩ | ⟨a, vs, rfl, c⟩ | ⟨z, rfl, ec⟩
      · exact .inl ⟨_, hv, a, rfl, ⟨vs, c.sq S1.fh⟩, q _ F H _ st S1 (goes_list a vs _) c lk⟩
      · exact .inr (.inl ⟨_, hv, a, rfl, ⟨vs, SqT.of (S1.fh _ _ c.1)⟩, q _ F H _ st S1 (goes_tup a vs _) c lk⟩)
      · refine .inr (.inr ⟨_, hv, z, rfl, q _ F H (fun _ _ _ _ => True) st S1 ?_ trivial lk⟩)
        show Goes X.K (Its z) p.1 _
        rw [ec]
        exact goes_str z
  · cases h
end
end Msd
/-! SoundEn: enumerate of a tuple. -/
namespace PySem
open Sem (wp)
open AutoSeq1 (wpAny_loadPart')
theorem meets_enumerate_newT (l : Addr) (items : Array Value) (n : Nat) (dct : Option Addr) (sl : Array (Option Value)) :
    Meets (Builtin.«enumerate.__new__» ⟨[.type "enumerate", .ref l], []⟩) (fun _ R s => s.heap.get? l = some { cls := .type "tuple", dict := dct, data := .seq items n, slots := sl } ∧
      R (.ok (.ret (.ref (s.heap.push { cls := .type "tuple_iterator", data := .fields #[.ref l, .int 0 0] }).objs.size)))
        { s with heap := (s.heap.push { cls := .type "tuple_iterator", data := .fields #[.ref l, .int 0 0] }).push { cls := .type "enumerate", data := .fields #[.none, .bool false, .ref s.heap.objs.size, rawInt 0, .none, .none] } }) :=
  .of_wp fun prog w A R s h => by
    obtain ⟨hp, g, d, tk, os⟩ := s; obtain ⟨hl, h⟩ := h
    have hsub := sub_enumerate
    have hL : Heap.IsTuple (Shared.heap ⟨hp, g, d, tk, os⟩) l items := ⟨_, hl, rfl, n, rfl⟩
    wp_walk using wpAny_loadPart' hl
    refine wpAny_stack_any fun st => wpAny_pure ?_
    split
    · rename_i c _ _ _ _ _
      cases (c == Value.type "enumerate")
      · wp_walk using wpAny_loadPart' hl, wpAny_pyIter_tuple hL
        exact ⟨_, rfl, h⟩
      · wp_walk using wpAny_loadPart' hl, wpAny_pyIter_tuple hL
        exact ⟨_, rfl, h⟩
    · wp_walk using wpAny_loadPart' hl, wpAny_pyIter_tuple hL
      exact ⟨_, rfl, h⟩
section
variable {prog : Program} {w : World} {A : Around} {E : Value → Shared → Prop} {s : Shared}
theorem call_enumerate_tuple {l : Addr} {items : Array Value} {Q : Value → Shared → Prop} (hL : s.heap.IsTuple l items)
    (h : ∀ h', IsEnum h' (s.heap.objs.size + 1) s.heap.objs.size 0 .none → h'.IsTupleIter s.heap.objs.size l 0 → h'.objs.size = s.heap.objs.size + 2 →
      (∀ b o, s.heap.get? b = some o → h'.get? b = some o) → Q (.ref (s.heap.objs.size + 1)) { s with heap := h' }) :
    wpAny (model prog w) A (call (.type "enumerate") [.ref l]) Q E s := by
  obtain ⟨⟨c, dct, dt, sl⟩, hl, hc, n, hd⟩ := hL
  replace hc : c = .type "tuple" := hc
  replace hd : dt = .seq items n := hd
  subst hc hd
  refine callType_new F.called_enumerate (by decide) (F.typeCall_enumerate_1 _) (F.newCall_enumerate_1 _) (fun obj => F.args_object_init_2 obj _) F.entry_enumerate_new
    (meets_enumerate_newT l items n dct sl) ⟨hl, ?_⟩
  have hz : (s.heap.push { cls := .type "tuple_iterator", data := .fields #[.ref l, .int 0 0] }).objs.size = s.heap.objs.size + 1 := Heap.size_push ..
  show _ ∧ _
  rw [hz]
  have he : IsEnum ((s.heap.push { cls := .type "tuple_iterator", data := .fields #[.ref l, .int 0 0] }).push
      { cls := .type "enumerate", data := .fields #[.none, .bool false, .ref s.heap.objs.size, rawInt 0, .none, .none] }) (s.heap.objs.size + 1) s.heap.objs.size 0 .none := by
    have := Heap.get?_push_size (s.heap.push { cls := .type "tuple_iterator", data := .fields #[.ref l, .int 0 0] })
      (o := { cls := .type "enumerate", data := .fields #[.none, .bool false, .ref s.heap.objs.size, rawInt 0, .none, .none] }) rfl
    rw [hz] at this; exact this
  refine ⟨⟨_, he, rfl⟩, h _ he ⟨_, Heap.get?_push_of_some _ (Heap.get?_push_size _ rfl), rfl, rfl⟩ (by rw [Heap.size_push, hz]) fun b o x => Heap.get?_push_of_some _ (Heap.get?_push_of_some _ x)⟩
end
end PySem
namespace Msd
open PySem PySem.Spec PyProof.Rows L2 Mlg
def IteT (K : Frag) (a : Addr) : L2.It :=
  ⟨fun i H => ∃ (xs : List V) (x : V), H a = some (.tup xs) ∧ xs[i]? = some x, fun i H v H' => ∃ T x, v = .ref T ∧ H T = none ∧ H' = upd H T (.tup [.int (i : Nat), x]) ∧ ∀ xs, H a = some (.tup xs) → xs[i]? = some x, fun i H => ∃ xs : List V, H a = some (.tup xs) ∧ xs.length = i⟩
theorem turn_enumT {P : Program} {w : World} {K : Frag} {elts : List Expr} {kk : Nat} {tpos : Pos} (a e it : Addr) :
    Turn P w K (.Tuple elts kk tpos) (IteT K a) [e, it] e (fun i h => (∃ old, IsEnum h e it ((i : Nat) : Int) old) ∧ h.IsTupleIter it a i ∧ e ≠ it) where
  mem := by simp
  obj := fun i h st b hb => by
    obtain ⟨⟨old, he⟩, ⟨o, ho, hc, hd⟩, _⟩ := st
    have e' : b = e ∨ b = it := by simpa using hb
    rcases e' with z | z
    · rw [z]; exact ⟨_, he, fun v q => nomatch q⟩
    · rw [z]; exact ⟨o, ho, fun v q => by rw [hd] at q; cases q⟩
  keep := fun i h h' st k => let ⟨⟨old, he⟩, hi, hne⟩ := st; ⟨⟨old, k e (by simp) _ he⟩, hi.at fun o q => k it (by simp) o q, hne⟩
  item := by
    intro X hP hw hK hc i pins s σ H E I hf st hg
    subst hP hw hK
    obtain ⟨⟨old, he⟩, hit, hne⟩ := st
    obtain ⟨xs, x, hq, hx⟩ := hg
    obtain ⟨its, rv, p, hz⟩ := I.tuple (SqT.of hq)
    obtain ⟨u, hu, ru⟩ := rv.get hx
    have hel : e < s.heap.objs.size := Heap.lt_size he
    have hil : it < s.heap.objs.size := by obtain ⟨_, q, _⟩ := hit; exact Heap.lt_size q
    have ha : a ≠ it := fun z => by have := (hf it (by simp)).1; rw [← z, hq] at this; cases this
    have hae : a ≠ e := fun z => by have := (hf e (by simp)).1; rw [← z, hq] at this; cases this
    have D := Draws.tuple (prog := X.prog) (w := X.w) (A := X.A.in1) (I.ok.hd hc) it a ha its.toArray
    refine wpAny_pyNext_enum_itemD D he ⟨hit, p⟩ (i := i) (by have := lt_of_get hu; simpa using this) hne (by simp [hne, Ne.symm hae]) fun x' h' tk hP ho hst' hT hsz hk => ?_
    have ex : x' = u := by
      have hP : its.toArray[i]? = some x' := hP
      rw [List.getElem?_toArray, hu] at hP
      cases hP; rfl
    subst ex
    refine ⟨_, rfl, wpAny_letOwnedTupleGo_enum (s := { s with heap := h', toks := tk + 1 }) ho fun h'' he' sb => ?_⟩
    have hT2 : h''.get? s.heap.objs.size = some { cls := .type "tuple", data := .seq #[.int i tk, x'] } := (sb.2 _ (Nat.ne_of_gt hel)).trans hT
    have new : ObjOk X.prog X.w (upd H s.heap.objs.size (.tup [.int (i : Nat), x])) h'' s.heap.objs.size (.tup [.int (i : Nat), x]) :=
      ⟨by show 2 ≤ sizeLine; decide, [.int i tk, x'], .cons ⟨_, rfl⟩ (.cons ru .nil), ⟨_, hT2, rfl, _, rfl⟩⟩
    have I1 : Inv X pins σ (upd H s.heap.objs.size (.tup [.int (i : Nat), x])) { s with heap := h'', toks := tk + 1 } :=
      I.turnedNew (ch := [e, it]) (fun b ob hb q => (sb.2 b (fun z => hb (by simp [z]))).trans (hk b ob (fun z => hb (by simp [z])) (fun z => hb (by simp [z])) q)) hf (Nat.le_refl _) new
    refine ⟨.ref s.heap.objs.size, _, I1, rfl, ⟨_, x, rfl, I.hok.fresh (Nat.le_refl _), rfl, fun ys hy => by rw [hq] at hy; cases hy; exact hx⟩, ⟨⟨x', ?_⟩, hst'.1.at fun o q => (sb.2 it (Ne.symm hne)).trans q, hne⟩, fun b hb => ?_⟩
    · have e1 : ((i + 1 : Nat) : Int) = (i : Int) + 1 := by omega
      rw [e1]; exact he'
    · have hb' : b < s.heap.objs.size := by
        have e' : b = e ∨ b = it := by simpa using hb
        rcases e' with z | z
        · rw [z]; exact hel
        · rw [z]; exact hil
      rw [upd_ne (Nat.ne_of_lt hb')]
      exact (hf b hb).1
  done := by
    intro X hP hw hK hc i pins s σ H E I hf st hg
    subst hP hw hK
    obtain ⟨⟨old, he⟩, hit, hne⟩ := st
    obtain ⟨xs, hq, hx⟩ := hg
    obtain ⟨its, rv, p, hz⟩ := I.tuple (SqT.of hq)
    obtain ⟨f0, f1, f2, f3, f4, f5⟩ := hf it (by simp)
    have ha : a ≠ it := fun z => by rw [← z, hq] at f0; cases f0
    have D := Draws.tuple (prog := X.prog) (w := X.w) (A := X.A.in1) (I.ok.hd hc) it a ha its.toArray
    have hl : its.toArray.size = i := by rw [List.size_toArray, ← rv.length]; exact hx
    refine wpAny_pyNext_enum_endD D he (by rw [hl]; exact ⟨hit, p⟩) fun h' eb => ⟨rfl, I.turned (t' := s.toks) (fun b o hb q => eb b o hb q) f0 f1 f3 f4 f5⟩
  self := fun A i s Q E st h => let ⟨⟨_, he⟩, _⟩ := st; wpAny_pyIter_enum he h

def iEnumT (K : Frag) (ta : TA) : TI := fun σ H R => ta σ H fun vs H1 => ∃ a xs, vs = [.ref a] ∧ H1 a = some (.tup xs) ∧ R (IteT K a) H1
theorem pi_enumT {X : Cx} {e : Expr} {ta : TA} {p pos tpos : Pos} {elts : List Expr} {kk : Nat} (hg : Gl X "enumerate") (hm : X.mg "enumerate" = none) (ha : PA X [e] ta) (hs : starEach [e] X.env = [(false, PySem.eval e X.env)] := by rfl) :
    PI X (.Tuple elts kk tpos) (.Call (.Name "enumerate" p) [e] [] pos) (iEnumT X.K ta) := by
  refine ⟨fun pins s σ H R I h => ?_⟩
  refine Call_ (ld_blt I hg hm boot_enumerate (PyProof.Rows.callWith_type1 (thn (ha.run pos pins s σ H _ I h) fun us s1 ⟨vs, H1, I1, r1, q1⟩ => ?_) hs rfl))
  obtain ⟨a, xs, ex, hq, q⟩ := q1
  subst ex
  cases r1 with
  | cons r rr =>
    cases rr
    cases r
    obtain ⟨its, rv, p', hz⟩ := I1.tuple (SqT.of hq)
    refine call_enumerate_tuple p' fun h' he hit hsz hk => wpAny_pyIter_enum he ?_
    have I2 : Inv X pins σ H1 { s1 with heap := h' } := I1.kept (t' := s1.toks) hk
    refine ⟨s1.heap.objs.size + 1, [s1.heap.objs.size + 1, s1.heap.objs.size], _, _, H1, rfl, I2, turn_enumT a (s1.heap.objs.size + 1) s1.heap.objs.size, ⟨⟨.none, he⟩, hit, Nat.succ_ne_self _⟩, fun b hb => ?_, q⟩
    have e' : b = s1.heap.objs.size + 1 ∨ b = s1.heap.objs.size := by simpa using hb
    have hle : s1.heap.objs.size ≤ b := by
      rcases e' with z | z
      · rw [z]; exact Nat.le_add_right _ _
      · rw [z]; exact Nat.le_refl _
    exact I1.fpOk hle (I1.hok.fresh hle)
theorem goes_enumT {K : Frag} (a : Addr) (vs : List V) (ds : List D) : Goes K (IteT K a) (enumL 0 ds) (SrcT K a vs ds) where
  go := fun i ρ F σ H hi h S => by
    rw [enumL_len] at hi
    exact ⟨vs, vs[i]'(by rw [h.2.length]; exact hi), S.fh _ _ h.1, List.getElem?_eq_getElem _⟩
  stop := fun ρ F σ H h S => by rw [enumL_len]; exact ⟨vs, S.fh _ _ h.1, h.2.length⟩
  yld := fun i d ρ F σ H x H' hd h S y => by
    obtain ⟨e, h1, rfl⟩ := enumL_get hd
    obtain ⟨t, x', rfl, nt, rfl, y⟩ := y
    obtain ⟨v, ev, r⟩ := h.2.get' h1
    have := y vs (S.fh _ _ h.1)
    rw [ev] at this
    cases this
    have hF := (S.new nt).1
    refine ⟨_, Step.laidF hF nt, S.laidF nt, .tup upd_same (.cons ?_ (.cons (r.mono (same_new hF)) .nil))⟩
    rw [Nat.zero_add]
    exact .int _
  stays := fun _ _ _ _ _ _ _ _ h st => ⟨st.ext _ _ h.1, h.2.mono st.ext⟩
section
variable {fnm : Nat → Option Str} {T : Errs} {call : CallT} {k : Nat} {N : List Str}
theorem i_envar (i : Nat) : PrI fnm T call k N (.envar i) := by
  intro X W sc x tg C tk et h
  obtain ⟨elts, kk, tpos, rfl⟩ := et
  unfold mIt at h
  try dsimp only at h
  split at h
  · rename_i n p x p2 pos
    obtain ⟨h0, h2, h3⟩ := and3 h
    obtain ⟨hn, h1⟩ := and2 h0
    obtain ⟨rfl, hg⟩ := bltB_ok hn
    obtain ⟨n1, n2, _⟩ := nameB_ok h3
    have hx : PE X (.Name x p2) (tVar i) := pe_var (i := i) (by rw [C.hN]; exact of_decide_eq_true h1) (by rw [C.hsc]; exact visB_ok h2) n1 n2
    have hgl : Gl X "enumerate" := by show X.env.scope.names.lookup _ = _; rw [C.hsc]; exact hg
    refine PI.imp (PI.or (pi_enum hgl (C.G.bl _ (by decide)) (pa_cons hx pa_nil)) (pi_enumT hgl (C.G.bl _ (by decide)) (pa_cons hx pa_nil))) fun σ H R' q => ?_
    obtain ⟨ρ, F, S, q⟩ := q
    unfold Mlg.walk at q
    split at q
    · exact q.elim
    rename_i nos
    cases e : lockV ρ i with
    | none => rw [e] at q; exact q.elim
    | some pr =>
      rw [e] at q
      obtain ⟨p, ρ1⟩ := pr
      obtain ⟨v, hv, st, S1, lk, c⟩ := lockV_ok S e
      rcases c with ⟨a, vs, rfl, c⟩ | ⟨a, vs, rfl, c⟩ | ⟨z, rfl, ec⟩
      · exact .inl ⟨_, hv, a, vs, rfl, c.sq S1.fh, q _ F H _ st S1 (goes_enum a vs _) c lk⟩
      · exact .inr ⟨_, hv, a, vs, rfl, S1.fh _ _ c.1, q _ F H _ st S1 (goes_enumT a vs _) c lk⟩
      · exfalso
        apply nos
        cases es : ρ[i]? with
        | none => unfold lockV at e; rw [es] at e; cases e
        | some s =>
          have hs := S.slot i s es
          cases s with
          | un => unfold lockV at e; rw [es] at e; cases e
          | val d =>
            obtain ⟨v', h1', h2'⟩ := hs
            rw [hv] at h1'
            cases h1'
            cases h2'
            rfl
          | own o => obtain ⟨a, h1', _⟩ := hs; rw [hv] at h1'; cases h1'
          | lck o => obtain ⟨a, h1', _⟩ := hs; rw [hv] at h1'; cases h1'
          | ro o => obtain ⟨a, ws, h1', _⟩ := hs; rw [hv] at h1'; cases h1'
  · cases h
theorem i_enu {a : Mlg.E} (ia : PrE fnm T call k N a) : PrI fnm T call k N (.enu a) := by
  intro X W sc x tg C tk et h
  obtain ⟨elts, kk, tpos, rfl⟩ := et
  unfold mIt at h
  try dsimp only at h
  split at h
  · rename_i n p x pos
    obtain ⟨hn, hp, h1⟩ := and3 h
    obtain ⟨rfl, hg⟩ := bltB_ok hn
    have hx := ia X W sc x C tk h1
    have hgl : Gl X "enumerate" := by show X.env.scope.names.lookup _ = _; rw [C.hsc]; exact hg
    refine PI.imp (PI.or (pi_enum hgl (C.G.bl _ (by decide)) (pa_cons hx pa_nil (starEach_plain hp)) (starEach_plain hp)) (pi_enumT hgl (C.G.bl _ (by decide)) (pa_cons hx pa_nil (starEach_plain hp)) (starEach_plain hp))) fun σ H R' q => ?_
    obtain ⟨ρ, F, S, q⟩ := q
    unfold Mlg.walk at q
    cases e : Mlg.eval call a ρ with
    | no => rw [e] at q; exact q.elim
    | exc c f ρ' => rw [e] at q; exact .inl ⟨ρ, F, S, by rw [e]; exact q⟩
    | ok p =>
      rw [e] at q
      obtain ⟨r, ρ1⟩ := p
      replace q : OutW T X.K W ρ F σ H (if isStr (look ρ1 r) = true then .no else (Res.of (walkR r)).bind fun xs => Res.ok ((enumL 0 xs, (none : Option Nat)), ρ1)) R' := q
      split at q
      · exact q.elim
      rename_i nos
      cases r with
      | loc _ => exact q.elim
      | tmp o =>
        cases o with
        | ins _ => exact q.elim
        | dic _ => exact q.elim
        | lst ds =>
          refine .inl ⟨ρ, F, S, ?_⟩
          rw [e]
          intro v F1 H1 st S1 rl
          obtain ⟨p, rfl, hF, ⟨vs, hp, hr⟩, hn, h0⟩ := rl
          exact ⟨p, vs, rfl, SqL.of hp, q _ F1 H1 _ st S1 (goes_enum p vs ds) ⟨.inl ⟨hp, fun z => hn z.own⟩, hr⟩ lock_none⟩
      | val d =>
        cases d <;> first | exact q.elim | skip
        · exact absurd rfl nos
        · rename_i ds
          refine .inl ⟨ρ, F, S, ?_⟩
          rw [e]
          intro v F1 H1 st S1 rl
          cases rl with
          | lst ha hr => exact ⟨_, _, rfl, SqL.of (S1.fh _ _ ha), q _ F1 H1 _ st S1 (goes_enum _ _ ds) ⟨.inr (SqL.of ha), hr⟩ lock_none⟩
        · rename_i ds
          refine .inr ⟨ρ, F, S, ?_⟩
          rw [e]
          intro v F1 H1 st S1 rl
          cases rl with
          | tup ha hr => exact ⟨_, _, rfl, S1.fh _ _ ha, q _ F1 H1 _ st S1 (goes_enumT _ _ ds) ⟨ha, hr⟩ lock_none⟩
  · cases h
end
end Msd
/-! Sound14: list comprehensions. -/
namespace Msd
open PySem PySem.Spec PyProof.Rows L2 Mlg
/-! ### the block's own names -/
theorem wipe_get (σ : St) : ∀ (vs : List Nat) (j : Nat), (wipe σ vs)[j]? = if j ∈ vs ∧ j < σ.length then some none else σ[j]?
  | [], j => by simp [wipe]
  | v :: r, j => by
    unfold wipe
    by_cases e : j = v
    · subst e
      by_cases hl : j < σ.length
      · rw [List.getElem?_set_self (by rw [wipe_length]; exact hl), if_pos ⟨List.mem_cons_self, hl⟩]
      · rw [List.getElem?_eq_none (by rw [List.length_set, wipe_length]; omega), if_neg (fun c => hl c.2), List.getElem?_eq_none (by omega)]
    · rw [List.getElem?_set_ne (Ne.symm e), wipe_get σ r j]
      by_cases c : j ∈ r ∧ j < σ.length
      · rw [if_pos c, if_pos ⟨List.mem_cons_of_mem _ c.1, c.2⟩]
      · rw [if_neg c, if_neg fun c' => c ⟨(List.mem_cons.mp c'.1).resolve_left e, c'.2⟩]
theorem wipe_out {σ : St} {vs : List Nat} {j : Nat} (h : j ∉ vs) : (wipe σ vs)[j]? = σ[j]? := by rw [wipe_get, if_neg fun c => h c.1]
theorem wipe_same {σ σ2 : St} {vs : List Nat} (hl : σ2.length = σ.length) (h : ∀ j, j ∉ vs → σ2[j]? = (wipe σ vs)[j]?) : wipe σ2 vs = wipe σ vs := by
  apply List.ext_getElem?
  intro j
  rw [wipe_get, wipe_get, hl]
  by_cases c : j ∈ vs
  · by_cases c2 : j < σ.length
    · rw [if_pos ⟨c, c2⟩, if_pos ⟨c, c2⟩]
    · rw [if_neg fun q => c2 q.2, if_neg fun q => c2 q.2, List.getElem?_eq_none (by omega), List.getElem?_eq_none (by omega)]
  · rw [if_neg fun q => c q.1, if_neg fun q => c q.1, h j c, wipe_out c]
theorem wipeE_spec : ∀ {vs : List Nat} {ρ ρ1 : Env}, wipeE ρ vs = some ρ1 → ρ1.length = ρ.length ∧ (∀ j ∈ vs, ρ1[j]? = some .un ∧ (ρ[j]? = some .un ∨ ∃ d, ρ[j]? = some (.val d))) ∧ ∀ j, j ∉ vs → ρ1[j]? = ρ[j]?
  | [], ρ, ρ1, h => by cases h; exact ⟨rfl, fun j hj => by simp at hj, fun _ _ => rfl⟩
  | v :: r, ρ, ρ1, h => by
    have key : ∀ s, ρ[v]? = some s → (s = .un ∨ ∃ d, s = .val d) → (wipeE ρ r).map (fun ρ' => ρ'.set v .un) = some ρ1 → ρ1.length = ρ.length ∧ (∀ j ∈ v :: r, ρ1[j]? = some .un ∧ (ρ[j]? = some .un ∨ ∃ d, ρ[j]? = some (.val d))) ∧ ∀ j, j ∉ v :: r → ρ1[j]? = ρ[j]? := by
      intro s hs hc h
      cases e : wipeE ρ r with
      | none => rw [e] at h; cases h
      | some ρ2 =>
        rw [e] at h
        cases h
        obtain ⟨h1, h2, h3⟩ := wipeE_spec e
        have lv : v < ρ2.length := by rw [h1]; exact lt_of_get hs
        refine ⟨by rw [List.length_set]; exact h1, fun j hj => ?_, fun j hj => ?_⟩
        · by_cases ej : j = v
          · subst ej
            refine ⟨List.getElem?_set_self lv, ?_⟩
            rcases hc with rfl | ⟨d, rfl⟩
            · exact .inl hs
            · exact .inr ⟨d, hs⟩
          · rw [List.getElem?_set_ne (Ne.symm ej)]
            exact h2 j ((List.mem_cons.mp hj).resolve_left ej)
        · have n1 : j ≠ v := fun e => hj (e ▸ List.mem_cons_self)
          rw [List.getElem?_set_ne (Ne.symm n1)]
          exact h3 j fun q => hj (List.mem_cons_of_mem _ q)
    unfold wipeE at h
    split at h
    · rename_i hs; exact key _ hs (.inl rfl) h
    · rename_i d hs; exact key _ hs (.inr ⟨_, rfl⟩) h
    · cases h
theorem backE_spec : ∀ {vs : List Nat} {ρ0 ρ : Env}, ρ0.length = ρ.length → (backE ρ0 vs ρ).length = ρ.length ∧ (∀ j ∈ vs, (backE ρ0 vs ρ)[j]? = ρ0[j]?) ∧ ∀ j, j ∉ vs → (backE ρ0 vs ρ)[j]? = ρ[j]?
  | [], ρ0, ρ, _ => ⟨rfl, fun j hj => by simp at hj, fun _ _ => rfl⟩
  | v :: r, ρ0, ρ, hl => by
    obtain ⟨h1, h2, h3⟩ := backE_spec (vs := r) hl
    unfold backE
    cases e : ρ0[v]? with
    | none =>
      refine ⟨h1, fun j hj => ?_, fun j hj => h3 j fun q => hj (List.mem_cons_of_mem _ q)⟩
      rcases List.mem_cons.mp hj with rfl | hj
      · rw [e]
        have : ρ0.length ≤ j := List.getElem?_eq_none_iff.mp e
        exact List.getElem?_eq_none (by rw [h1]; omega)
      · exact h2 j hj
    | some s =>
      have lv : v < (backE ρ0 r ρ).length := by rw [h1, ← hl]; exact lt_of_get e
      refine ⟨by rw [List.length_set]; exact h1, fun j hj => ?_, fun j hj => ?_⟩
      · by_cases ej : j = v
        · subst ej
          rw [List.getElem?_set_self lv, e]
        · rw [List.getElem?_set_ne (Ne.symm ej)]
          exact h2 j ((List.mem_cons.mp hj).resolve_left ej)
      · have n1 : j ≠ v := fun e => hj (e ▸ List.mem_cons_self)
        rw [List.getElem?_set_ne (Ne.symm n1)]
        exact h3 j fun q => hj (List.mem_cons_of_mem _ q)
section
variable {K : Frag} {ρ ρ1 : Env} {F H : Hp} {σ : St} {vs : List Nat}
theorem wipe_ok (S : Sim K ρ F σ H) (h : wipeE ρ vs = some ρ1) : Sim K ρ1 F (wipe σ vs) H ∧ Step ρ σ F H ρ1 (wipe σ vs) F H := by
  obtain ⟨h1, h2, h3⟩ := wipeE_spec h
  have old : ∀ {j : Nat} {s : Slot} {o : O}, ρ1[j]? = some s → isOwn s = some o → j ∉ vs ∧ ρ[j]? = some s := by
    intro j s o hs ho
    have hj : j ∉ vs := fun hj => by rw [(h2 j hj).1] at hs; cases hs; cases ho
    exact ⟨hj, by rw [← h3 j hj]; exact hs⟩
  refine ⟨⟨S.fh, by rw [h1, wipe_length]; exact S.len, fun j s hs => ?_, fun i j si sj oi oj p hi hj hoi hoj ei ej => ?_⟩, .refl _, fun _ _ e _ => e, fun _ e => e, fun p q => ?_, fun p q => ?_, fun _ e _ _ _ => e⟩
  · by_cases hj : j ∈ vs
    · rw [(h2 j hj).1] at hs; cases hs; trivial
    · rw [h3 j hj] at hs
      exact (S.slot j s hs).congr (wipe_out hj)
  · obtain ⟨a1, b1⟩ := old hi hoi
    obtain ⟨a2, b2⟩ := old hj hoj
    rw [wipe_out a1] at ei
    rw [wipe_out a2] at ej
    exact S.sep i j si sj oi oj p b1 b2 hoi hoj ei ej
  · obtain ⟨j, s, o, a, b, c⟩ := q
    obtain ⟨a1, b1⟩ := old a b
    rw [wipe_out a1] at c
    exact .inl ⟨j, s, o, b1, b, c⟩
  · obtain ⟨j, o, a, c⟩ := q
    obtain ⟨a1, b1⟩ := old a rfl
    rw [wipe_out a1] at c
    exact .inl ⟨j, o, b1, c⟩
/-- the block is left -/
theorem back_ok {ρn : Env} {Fn Hn : Hp} (S : Sim K ρ F σ H) (h : wipeE ρ vs = some ρ1) (st : Step ρ σ F H ρn (wipe σ vs) Fn Hn) (Sn : Sim K ρn Fn (wipe σ vs) Hn) : Sim K (backE ρ vs ρn) Fn σ Hn ∧ Step ρ σ F H (backE ρ vs ρn) σ Fn Hn ∧ ∀ p, Own (backE ρ vs ρn) σ p → Own ρn (wipe σ vs) p := by
  obtain ⟨h1, h2, h3⟩ := wipeE_spec h
  have hl : ρ.length = ρn.length := by rw [S.len, Sn.len, wipe_length]
  obtain ⟨b1, b2, b3⟩ := backE_spec (vs := vs) hl
  have old : ∀ {j : Nat} {s : Slot} {o : O}, (backE ρ vs ρn)[j]? = some s → isOwn s = some o → j ∉ vs ∧ ρn[j]? = some s := by
    intro j s o hs ho
    have hj : j ∉ vs := fun hj => by
      rw [b2 j hj] at hs
      rcases (h2 j hj).2 with e | ⟨d, e⟩
      · rw [e] at hs; cases hs; cases ho
      · rw [e] at hs; cases hs; cases ho
    exact ⟨hj, by rw [← b3 j hj]; exact hs⟩
  have ow : ∀ p, Own (backE ρ vs ρn) σ p → Own ρn (wipe σ vs) p := fun p ⟨j, s, o, a, b, c⟩ => by
    obtain ⟨a1, e1⟩ := old a b
    exact ⟨j, s, o, e1, b, by rw [wipe_out a1]; exact c⟩
  have owU : ∀ p, OwnU (backE ρ vs ρn) σ p → OwnU ρn (wipe σ vs) p := fun p ⟨j, o, a, c⟩ => by
    obtain ⟨a1, e1⟩ := old a rfl
    exact ⟨j, o, e1, by rw [wipe_out a1]; exact c⟩
  refine ⟨⟨Sn.fh, by rw [b1, ← hl]; exact S.len, fun j s hs => ?_, fun i j si sj oi oj p hi hj hoi hoj ei ej => ?_⟩, ⟨st.ext, st.keep, st.dom, fun p q => st.own p (ow p q), fun p q => st.ownU p (owU p q), st.frz⟩, ow⟩
  · by_cases hj : j ∈ vs
    · rw [b2 j hj] at hs
      rcases (h2 j hj).2 with e | ⟨d, e⟩
      · rw [e] at hs; cases hs; trivial
      · rw [e] at hs; cases hs
        obtain ⟨v, a, b⟩ := S.slot j _ e
        exact ⟨v, a, b.mono st.ext⟩
    · rw [b3 j hj] at hs
      exact (Sn.slot j s hs).congr (wipe_out hj).symm
  · obtain ⟨a1, e1⟩ := old hi hoi
    obtain ⟨a2, e2⟩ := old hj hoj
    exact Sn.sep i j si sj oi oj p e1 e2 hoi hoj (by rw [wipe_out a1]; exact ei) (by rw [wipe_out a2]; exact ej)
/-- an object that is nobody's changes -/
theorem Sim.touch {D' : Addr} {u : HO} (S : Sim K ρ F σ H) (hF : F D' = none) (hn : ¬ Own ρ σ D') : Sim K ρ F σ (upd H D' u) := by
  refine ⟨fun b o e => ?_, S.len, fun i s hs => (S.slot i s hs).move (.refl _) fun q u e ⟨o, ho⟩ hu => ?_, S.sep⟩
  · rw [upd_ne (ne_of_none e hF)]; exact S.fh b o e
  · have : q ≠ D' := fun z => hn ⟨i, s, o, hs, ho, z ▸ e⟩
    exact ⟨by rw [upd_ne this]; exact hu, (S.ownAt ⟨i, s, o, hs, ho, e⟩).1⟩
theorem Step.touch {ρ' : Env} {F' H' : Hp} {σ' : St} {D' : Addr} {u : HO} (st : Step ρ σ F H ρ' σ' F' H') (h0 : H D' = none) : Step ρ σ F H ρ' σ' F' (upd H' D' u) :=
  ⟨st.ext, fun a o h n => by rw [upd_ne (ne_of_none h h0)]; exact st.keep a o h n, fun a h => by
    by_cases e : a = D'
    · rw [e]; exact h0
    · rw [upd_ne e] at h; exact st.dom a h, st.own, st.ownU, st.frz⟩
end
theorem loopC_exc {turn : D → Env → Res (Option D × Env)} : ∀ {ds acc : List D} {ρ : Env} {c : Nat} {f : D} {ρ' : Env}, loopC turn ds acc ρ ≠ .exc c f ρ'
  | [], acc, ρ, c, f, ρ', h => by cases h
  | d :: ds, acc, ρ, c, f, ρ', h => by
    unfold loopC at h
    split at h
    · split at h
      · exact loopC_exc h
      · cases h
    · exact loopC_exc h
    · cases h
section
variable {fnm : Nat → Option Str} {T : Errs} {call : CallT} {k : Nat} {N : List Str}
/-- a clause's tests -/
def PrC (fnm : Nat → Option Str) (T : Errs) (call : CallT) (k : Nat) (N : List Str) (c : Mlg.Eo) : Prop :=
  ∀ (X : Cx) (W : WX) (sc : Scope) (ifs : List Expr), Cok fnm T call k N X sc → Takes X W → mIf fnm N sc c ifs = true → PTs X ifs (LB T X.K W (Mlg.test call c))
theorem PTs.imp {X : Cx} {x : List Expr} {t t' : TT} (h : PTs X x t) (i : ∀ σ H Q, t' σ H Q → t σ H Q) : PTs X x t' := ⟨fun pins s σ H Q I q => h.run pins s σ H Q I (i σ H Q q)⟩
theorem c_no : PrC fnm T call k N .no := by
  intro X W sc x C tk h
  unfold mIf at h
  try dsimp only at h
  split at h
  · exact PTs.imp pts_nil fun σ H Q q => by obtain ⟨ρ, F, S, q⟩ := q; exact q true F H .refl S rfl
  · cases h
theorem c_so {e : Mlg.E} (te : PrT fnm T call k N e) : PrC fnm T call k N (.so e) := by
  intro X W sc x C tk h
  unfold mIf at h
  try dsimp only at h
  split at h
  · rename_i x
    obtain ⟨h1, h2⟩ := and2 h
    exact PTs.imp (pts_one (te X W sc x C tk h1 h2)) fun σ H Q q => q
  · cases h
end
end Msd
/-! Sound15: [e for x in xs if t]. -/
namespace Msd
open PySem PySem.Spec PyProof.Rows L2 Mlg
section
variable {fnm : Nat → Option Str} {T : Errs} {call : CallT} {k : Nat} {N : List Str}
def turnC (call : CallT) (elt : Mlg.E) (tg : Tg) (c : Mlg.Eo) (vs : List Nat) : D → Env → Res (Option D × Env) := fun d ρ => match putTg ρ tg d with
  | none => .no
  | some ρ2 => (Mlg.test call c ρ2).bind fun t =>
    if t.1 = true then (Mlg.eval call elt t.2).bind fun r => match fix r.2 r.1 with
      | none => .no
      | some (x, ρ4) => (Res.of (wipeE ρ4 vs)).bind fun ρ5 => .ok (some x, ρ5)
    else (Res.of (wipeE t.2 vs)).bind fun ρ5 => .ok (none, ρ5)
theorem putV_len {ρ ρ2 : Env} {i : Nat} {d : D} (h : putV ρ i d = some ρ2) : ρ2.length = ρ.length := by
  unfold Mlg.putV at h
  split at h
  · cases h; rw [List.length_set]
  · cases h
theorem putVs_len' : ∀ {is : List Nat} {ds : List D} {ρ ρ1 : Env}, putVs ρ is ds = some ρ1 → ρ1.length = ρ.length
  | [], [], _, _, e => by cases e; rfl
  | [], _ :: _, _, _, e => by cases e
  | _ :: _, [], _, _, e => by cases e
  | i :: is, d :: ds, ρ, ρ1, e => by
    have e : (putV ρ i d).bind (fun ρ' => putVs ρ' is ds) = some ρ1 := e
    cases e1 : putV ρ i d with
    | none => rw [e1] at e; cases e
    | some ρ2 => rw [e1] at e; rw [putVs_len' e, putV_len e1]
theorem putTg_len {ρ ρ2 : Env} {tg : Tg} {d : D} (h : putTg ρ tg d = some ρ2) : ρ2.length = ρ.length := by
  cases tg with
  | nm i => exact putV_len h
  | tup is => cases d <;> first | (cases h; done) | exact putVs_len' h
/-- a turn that ends well -/
theorem turnC_ok {elt : Mlg.E} {tg : Tg} {c : Mlg.Eo} {vs : List Nat} {d : D} {ρ ρ5 : Env} {o : Option D} (h : turnC call elt tg c vs d ρ = .ok (o, ρ5)) : ∃ ρ2 t, putTg ρ tg d = some ρ2 ∧ Mlg.test call c ρ2 = .ok t ∧
    ((t.1 = true ∧ ∃ r x ρ4, Mlg.eval call elt t.2 = .ok r ∧ fix r.2 r.1 = some (x, ρ4) ∧ wipeE ρ4 vs = some ρ5 ∧ o = some x) ∨ (t.1 = false ∧ wipeE t.2 vs = some ρ5 ∧ o = none)) := by
  unfold turnC at h
  cases e1 : putTg ρ tg d with
  | none => rw [e1] at h; cases h
  | some ρ2 =>
    rw [e1] at h
    dsimp only at h
    cases e2 : Mlg.test call c ρ2 with
    | no => rw [e2] at h; cases h
    | exc _ _ _ => rw [e2] at h; cases h
    | ok t =>
      rw [e2] at h
      replace h : (if t.1 = true then (Mlg.eval call elt t.2).bind fun r => match fix r.2 r.1 with
          | none => .no
          | some (x, ρ4) => (Res.of (wipeE ρ4 vs)).bind fun ρ5 => .ok (some x, ρ5)
        else (Res.of (wipeE t.2 vs)).bind fun ρ5 => .ok (none, ρ5)) = .ok (o, ρ5) := h
      refine ⟨ρ2, t, rfl, e2, ?_⟩
      split at h
      · rename_i ht
        refine .inl ⟨ht, ?_⟩
        cases e3 : Mlg.eval call elt t.2 with
        | no => rw [e3] at h; cases h
        | exc _ _ _ => rw [e3] at h; cases h
        | ok r =>
          rw [e3] at h
          replace h : (match fix r.2 r.1 with
            | none => .no
            | some (x, ρ4) => (Res.of (wipeE ρ4 vs)).bind fun ρ5 => .ok (some x, ρ5)) = Res.ok (o, ρ5) := h
          cases e4 : fix r.2 r.1 with
          | none => rw [e4] at h; cases h
          | some p =>
            obtain ⟨x, ρ4⟩ := p
            rw [e4] at h
            dsimp only at h
            cases e5 : wipeE ρ4 vs with
            | none => rw [e5] at h; cases h
            | some ρ6 => rw [e5] at h; cases h; exact ⟨r, x, ρ4, rfl, e4, e5, rfl⟩
      · rename_i ht
        refine .inr ⟨by simpa using ht, ?_⟩
        cases e5 : wipeE t.2 vs with
        | none => rw [e5] at h; cases h
        | some ρ6 => rw [e5] at h; cases h; exact ⟨rfl, rfl⟩
/-- the reading of the whole -/
theorem lc_ok {K : Frag} {W : WX} {elt : Mlg.E} {tg : Tg} {it : Mlg.It} {c : Mlg.Eo} {vs : List Nat} {σ : St} {H : Hp} {Q : VK} (htg : ∀ j ∈ tgSlots tg, j ∈ vs)
    (h : LE T K W (Mlg.eval call (.lc elt tg it c vs)) σ H Q) : tLc (LW T K W (Mlg.walk call it)) (gTg K tg) (LB T K (fun _ _ _ _ => False) (Mlg.test call c)) (LE T K (fun _ _ _ _ => False) (Mlg.eval call elt)) vs σ H Q := by
  obtain ⟨ρ, F, S, h⟩ := h
  refine ⟨ρ, F, S, ?_⟩
  replace h : Out T K W ρ F σ H (relE K σ) ((Mlg.walk call it ρ).bind fun p => match wipeE p.2 vs with
      | none => .no
      | some ρ1 => (loopC (turnC call elt tg c vs) p.1.1 [] ρ1).bind fun q => (Res.of (unlockE (backE p.2 vs q.2) p.1.2)).bind fun ρ' => .ok (.tmp (.lst q.1), ρ')) Q := h
  cases ew : Mlg.walk call it ρ with
  | no => rw [ew] at h; exact h
  | exc _ _ _ => rw [ew] at h; exact h
  | ok p =>
    rw [ew] at h
    obtain ⟨⟨ds, lk⟩, ρp⟩ := p
    replace h : Out T K W ρ F σ H (relE K σ) (match wipeE ρp vs with
      | none => .no
      | some ρ1 => (loopC (turnC call elt tg c vs) ds [] ρ1).bind fun q => (Res.of (unlockE (backE ρp vs q.2) lk)).bind fun ρ' => .ok (.tmp (.lst q.1), ρ')) Q := h
    intro J Fp H1 P stp Sp gs hP hlk D' hD
    cases e1 : wipeE ρp vs with
    | none => rw [e1] at h; exact h.elim
    | some ρ1 =>
      rw [e1] at h
      dsimp only at h
      obtain ⟨Sw, stw⟩ := wipe_ok Sp e1
      have hPw := gs.stays _ _ _ _ _ _ _ _ hP stw
      cases el : loopC (turnC call elt tg c vs) ds [] ρ1 with
      | no => rw [el] at h; exact h.elim
      | exc _ _ _ => exact absurd el loopC_exc
      | ok q =>
        rw [el] at h
        -- the invariant of the turns
        refine ⟨fun i m Hi => m = ds.length - i ∧ i ≤ ds.length ∧ ∃ ρi Fi acc accV, Sim K ρi Fi (wipe σ vs) Hi ∧ Step ρ1 (wipe σ vs) Fp H1 ρi (wipe σ vs) Fi Hi ∧ Hi D' = some (.lst accV) ∧ Reps K Fi accV acc ∧ Fi D' = none ∧ ¬ Own ρi (wipe σ vs) D' ∧
            loopC (turnC call elt tg c vs) (ds.drop i) acc ρi = .ok q, ⟨ds.length, by simp, Nat.zero_le _, ρ1, Fp, [], [], ?_⟩, ?_⟩
        · have n := Sw.new hD
          exact ⟨Sw.laid hD, Step.laid hD, upd_same, .nil, n.1, n.2, by simpa using el⟩
        · rintro i m Hi ⟨rfl, hi, ρi, Fi, acc, accV, Si, sti, hDi, hacc, hFD, hnD, eq⟩
          have hPi := gs.stays _ _ _ _ _ _ _ _ hPw sti
          by_cases hlt : i < ds.length
          · refine .inr ⟨gs.go i ρi Fi _ Hi hlt hPi Si, fun H' => ∃ ρi Fi acc accV, Sim K ρi Fi (wipe σ vs) H' ∧ Step ρ1 (wipe σ vs) Fp H1 ρi (wipe σ vs) Fi H' ∧ H' D' = some (.lst accV) ∧ Reps K Fi accV acc ∧ Fi D' = none ∧ ¬ Own ρi (wipe σ vs) D' ∧
              loopC (turnC call elt tg c vs) (ds.drop (i + 1)) acc ρi = .ok q, fun H' hN => ⟨ds.length - (i + 1), by omega, rfl, hlt, hN⟩, fun x H' y => ?_⟩
            have ed : ds[i]? = some ds[i] := List.getElem?_eq_getElem hlt
            obtain ⟨F', st', S', hx⟩ := gs.yld i _ ρi Fi _ Hi x H' ed hPi Si y
            rw [List.drop_eq_getElem_cons hlt] at eq
            unfold loopC at eq
            -- the turn's own end
            have tail : ∀ o ρ5, turnC call elt tg c vs ds[i] ρi = .ok (o, ρ5) → gTg K tg x (wipe σ vs) H' fun σ2 H2 => wipe σ2 vs = wipe σ vs ∧ LB T K (fun _ _ _ _ => False) (Mlg.test call c) σ2 H2 fun b H3 =>
                if b = true then LE T K (fun _ _ _ _ => False) (Mlg.eval call elt) σ2 H3 fun y H4 => ∃ acc, H4 D' = some (.lst acc) ∧ acc.length < sizeLine ∧ (∃ ρi Fi ac accV, Sim K ρi Fi (wipe σ vs) (upd H4 D' (.lst (acc ++ [y]))) ∧ Step ρ1 (wipe σ vs) Fp H1 ρi (wipe σ vs) Fi (upd H4 D' (.lst (acc ++ [y]))) ∧ (upd H4 D' (.lst (acc ++ [y]))) D' = some (.lst accV) ∧ Reps K Fi accV ac ∧ Fi D' = none ∧ ¬ Own ρi (wipe σ vs) D' ∧
                    loopC (turnC call elt tg c vs) (ds.drop (i + 1)) ac ρi = .ok q)
                else ∃ ρi Fi acc accV, Sim K ρi Fi (wipe σ vs) H3 ∧ Step ρ1 (wipe σ vs) Fp H1 ρi (wipe σ vs) Fi H3 ∧ H3 D' = some (.lst accV) ∧ Reps K Fi accV acc ∧ Fi D' = none ∧ ¬ Own ρi (wipe σ vs) D' ∧
                    loopC (turnC call elt tg c vs) (ds.drop (i + 1)) acc ρi = .ok q := by
              intro o ρ5 et
              obtain ⟨ρ2, t, t1, t2, t3⟩ := turnC_ok et
              refine tg_ok (fx := fun j => !vs.contains j) S' hx t1 (fun j hj => by simp [htg j hj]) fun σ2 S2 st2 _ ot => ?_
              have hw : wipe σ2 vs = wipe σ vs := wipe_same (by rw [← S2.len, putTg_len t1, S'.len, wipe_length]) fun j hj => ot j fun z => hj (htg j z)
              refine ⟨hw, ρ2, F', S2, ?_⟩
              rw [t2]
              intro b F3 H3 st3 S3 rb
              have rb : b = t.1 := rb
              have d0 : Hi D' ≠ none := by rw [hDi]; exact fun z => by cases z
              have st03 := (st'.trans st2).trans st3
              rcases t3 with ⟨tb, r, xx, ρ4, e3, e4, e5, eo⟩ | ⟨tb, e5, eo⟩
              · rw [rb, tb, if_pos rfl]
                refine ⟨t.2, F3, S3, ?_⟩
                rw [e3]
                intro y F4 H4 st4 S4 ry
                obtain ⟨F5, st5, S5, hy⟩ := fix_step st4 S4 ry e4
                have st05 := st03.trans st5
                have hD4 : H4 D' = some (.lst accV) := st05.keep D' _ hDi fun q => hnD q.own
                obtain ⟨S6, st6⟩ := wipe_ok S5 e5
                rw [hw] at S6 st6
                have st06 := st05.trans st6
                have hF5 : F5 D' = none := st06.frz D' hFD d0 (fun q => hnD q.own) (fun vs e => by rw [hDi] at e; cases e)
                have hn6 : ¬ Own ρ5 (wipe σ vs) D' := fun q => (st06.own D' q).elim hnD d0
                rw [et, eo] at eq
                dsimp only at eq
                split at eq
                · rename_i cs
                  refine ⟨accV, hD4, ?_, ρ5, F5, acc ++ [xx], accV ++ [y], S6.touch hF5 hn6, (sti.trans st06).touch hD, upd_same, (hacc.mono st06.ext).append (.cons hy .nil), hF5, hn6, eq⟩
                  rw [hacc.length]
                  exact Nat.lt_of_lt_of_le (of_decide_eq_true cs) lim_le
                · cases eq
              · rw [rb, tb, if_neg Bool.false_ne_true]
                obtain ⟨S6, st6⟩ := wipe_ok S3 e5
                rw [hw] at S6 st6
                have st06 := st03.trans st6
                rw [et, eo] at eq
                dsimp only at eq
                exact ⟨ρ5, F3, acc, accV, S6, sti.trans st06, st06.keep D' _ hDi (fun q => hnD q.own), hacc.mono st06.ext, st06.frz D' hFD d0 (fun q => hnD q.own) (fun vs e => by rw [hDi] at e; cases e), fun q => (st06.own D' q).elim hnD d0, eq⟩
            cases et : turnC call elt tg c vs ds[i] ρi with
            | no => rw [et] at eq; cases eq
            | exc _ _ _ => rw [et] at eq; cases eq
            | ok pr => exact tail pr.1 pr.2 et
          · have ei : i = ds.length := by omega
            subst ei
            refine .inl ⟨gs.stop ρi Fi _ Hi hPi Si, ?_⟩
            rw [List.drop_length] at eq
            cases eq
            obtain ⟨Sb, stb, owb⟩ := back_ok Sp e1 (stw.trans sti) Si
            have h0 : H D' = none := stp.dom D' hD
            have hnb : ¬ Own (backE ρp vs ρi) σ D' := fun q => hnD (owb D' q)
            cases lk with
            | none => exact h (.ref D') Fi Hi (stp.trans stb) Sb ⟨D', rfl, hFD, ⟨accV, hDi, hacc⟩, hnb, h0⟩
            | some j =>
              obtain ⟨pp, hp1, hp2⟩ := hlk j rfl
              replace h : Out T K W ρ F σ H (relE K σ) ((Res.of (match (backE ρp vs ρi)[j]? with
                | some (.lck o) => some ((backE ρp vs ρi).set j (.own o))
                | _ => none)).bind fun ρ' => .ok (.tmp (.lst acc), ρ')) Q := h
              split at h
              · rename_i o eo
                obtain ⟨Su, stu⟩ := Sb.unlock (stp.trans stb) eo hp2 hp1
                refine h (.ref D') Fi Hi stu Su ⟨D', rfl, hFD, ⟨accV, hDi, hacc⟩, fun q => ?_, h0⟩
                obtain ⟨j', s', o', a1, a2, a3⟩ := q
                rcases isOwn_set (lt_of_get eo) a1 a2 with ⟨rfl, _⟩ | ⟨_, hj⟩
                · exact hnb ⟨_, _, o, eo, rfl, a3⟩
                · exact hnb ⟨j', s', o', hj, a2, a3⟩
              · exact h.elim

theorem Cok.blk {X : Cx} {sc : Scope} (C : Cok fnm T call k N X sc) (s : Shared) (H : Hp) (scope : Scope) (cl : List (Str × Addr)) (Ca : Addr) (fp : List Addr) : Cok fnm T call k N (X.blk s H scope (compEnvC scope cl Ca X.env) fp) (relS scope sc) :=
  ⟨C.hN, C.nd, by rw [← C.hsc]; rfl, C.calm, C.room, C.G⟩
theorem ownOf_map {N : List Str} {vs : List Nat} (h : decide ((ownOf N vs).map (·.2) = vs) = true) : (ownOf N vs).map (·.2) = vs := of_decide_eq_true h
theorem relS_fn {scope sc : Scope} {x : Str} (h : locB (relS scope sc) x = true) : True := trivial
theorem plain_folded {i : Expr} {env : PySem.Env} (h : plainX i = true) (x : Value) : foldedSetIterable i env x = pure x := by
  cases i <;> first | rfl | cases h
theorem enuT_of {N : List Str} {sc : Scope} {fx : Nat → Bool} {it : Mlg.It} {tg : Tg} {t : Expr} (h : tgB N sc fx tg t = true) (he : enuB it tg = true) : enuT it t := by
  cases it <;> try exact trivial
  all_goals
    cases tg with
    | nm _ => cases he
    | tup is =>
      unfold tgB at h
      cases t <;> first | (cases h; done) | skip
      exact ⟨_, _, _, rfl⟩

theorem relS_loc {scope sc : Scope} {x : Str} (h : locB scope x = true) : Loc (relS scope sc) x ∧ ((scope.names.lookup x == some .cell) = true ∨ (relS scope sc).names.lookup x = some .local) := by
  unfold locB at h
  split at h
  · rename_i e
    have := lookup_relS_keep (sc := sc) (by decide) e
    exact ⟨.inl this, .inr this⟩
  · rename_i e
    have := lookup_relS_keep (sc := sc) (by decide) e
    exact ⟨.inr this, .inl (by rw [e]; rfl)⟩
  · cases h
/-- the parts of a comprehension -/
theorem lc_parts {elt : Mlg.E} {tg : Tg} {it : Mlg.It} {c : Mlg.Eo} {vs : List Nat} (ii : PrI fnm T call k N it) (ic : PrC fnm T call k N c) (ie : PrE fnm T call k N elt) {X : Cx} {W : WX} {sc : Scope} {x t i : Expr} {ifs : List Expr} {scope : Scope} (C : Cok fnm T call k N X sc) (tk : Takes X W)
    (h : (blkC N sc scope (ownOf N vs) && decide ((ownOf N vs).map (·.2) = vs) && plainX i && tgB N scope (fun j => !vs.contains j) tg t && enuB it tg && (mIt fnm N sc it i && mIf fnm N (relS scope sc) c ifs && mE fnm N (relS scope sc) elt x)) = true) :
    PI X t i (LW T X.K W (Mlg.walk call it)) ∧ BlkOk X.N X.env.scope scope (ownOf N vs) ∧ (ownOf N vs).map (·.2) = vs ∧ plainX i = true ∧ (∀ j ∈ tgSlots tg, j ∈ vs) ∧
    (∀ (s : Shared) (H : Hp) (Ca : Addr) (cl : List (Str × Addr)) (fp : List Addr), PG (X.blk s H scope (compEnvC scope cl Ca X.env) fp) t (gTg X.K tg)) ∧
    (∀ (s : Shared) (H : Hp) (Ca : Addr) (cl : List (Str × Addr)) (fp : List Addr), PTs (X.blk s H scope (compEnvC scope cl Ca X.env) fp) ifs (LB T X.K (fun _ _ _ _ => False) (Mlg.test call c))) ∧
    (∀ (s : Shared) (H : Hp) (Ca : Addr) (cl : List (Str × Addr)) (fp : List Addr), PE (X.blk s H scope (compEnvC scope cl Ca X.env) fp) x (LE T X.K (fun _ _ _ _ => False) (Mlg.eval call elt))) := by
  obtain ⟨h1, h2, h3⟩ := and3 h
  obtain ⟨h3, h4, h5⟩ := and3 h3
  obtain ⟨h1, hp, ht⟩ := and3 h1
  obtain ⟨hb, hm⟩ := and2 h1
  refine ⟨ii X W sc i t C tk (enuT_of ht h2) h3, by rw [C.hN, C.hsc]; exact blkOk_by hb, of_decide_eq_true hm, hp, fun j hj => ?_, fun s H Ca cl fp => ?_, fun s H Ca cl fp => ?_, fun s H Ca cl fp => ?_⟩
  · have := tg_fx ht j hj
    simpa using this
  · refine pg_tg C.hN C.nd (fun x hx => ?_) C.calm (fun x hx => ?_) ht
    · show Loc (relS scope X.env.scope) x
      exact (relS_loc hx).1
    · rcases (relS_loc (sc := X.env.scope) hx).2 with z | z
      · exact .inl z
      · exact .inr z
  · exact ic _ _ _ _ (C.blk s H scope cl Ca fp) takes0 h4
  · exact ie _ _ _ _ (C.blk s H scope cl Ca fp) takes0 h5
theorem e_lc {elt : Mlg.E} {tg : Tg} {it : Mlg.It} {c : Mlg.Eo} {vs : List Nat} (ii : PrI fnm T call k N it) (ic : PrC fnm T call k N c) (ie : PrE fnm T call k N elt) : PrE fnm T call k N (.lc elt tg it c vs) := by
  intro X W sc x C tk h
  unfold mE at h
  try dsimp only at h
  split at h
  · rename_i x t i ifs scope pos
    obtain ⟨p1, p2, p3, p4, p5, p6, p7, p8⟩ := lc_parts ii ic ie C tk h
    refine PE.imp (pe_lc C.calm (by rw [C.hN]; exact C.nd) p1 p2 p6 p7 p8 (fun x => plain_folded p4 x)) fun σ H Q q => ?_
    rw [p3]
    exact lc_ok p5 q
  · cases h
end
end Msd
/-! SoundR: list(range(..)), tuple(range(..)). -/
namespace Msd
open PySem PySem.Spec PyProof.Rows L2 Mlg
section
variable {fnm : Nat → Option Str} {T : Errs} {call : CallT} {k : Nat} {N : List Str}
theorem reps_rg {K : Frag} {F : Hp} (a b : Int) : Reps K F (rgV a b) (rangeL a b) := by
  unfold rgV rangeL
  generalize List.range (b - a).toNat = l
  induction l with
  | nil => exact .nil
  | cons n l ih => exact .cons (.int _) ih
theorem rgOk {i j : Int} (h1 : rangeOk i = true) (h2 : rangeOk j = true) : RgOk i j := by
  obtain ⟨a, b⟩ := and2 h1
  obtain ⟨c, d⟩ := and2 h2
  have a := of_decide_eq_true a
  have b := of_decide_eq_true b
  have c := of_decide_eq_true c
  have d := of_decide_eq_true d
  exact ⟨by omega, by omega, by omega, by omega, by omega⟩
/-- a list or a tuple of a range -/
theorem pe_rg {X : Cx} {sc : Scope} {l : Bool} {n : Str} {e : Expr} {te : L2.St → Hp → (Int → Int → Hp → Prop) → Prop} {p pos : Pos} (C : Cok fnm T call k N X sc) (hn : bltB sc (if l = true then "list" else "tuple") n = true) (he : PRg X e te) (hp : plainX e = true) :
    PE X (.Call (.Name n p) [e] [] pos) (fun σ H Q => te σ H fun a b H1 => RgOk a b ∧ ∀ q, H1 q = none → Q (.ref q) (upd H1 q (if l = true then .lst (rgV a b) else .tup (rgV a b)))) := by
  cases l with
  | true =>
    obtain ⟨rfl, hg⟩ := bltB_ok hn
    exact pe_listRg C.calm (by show X.env.scope.names.lookup _ = _; rw [C.hsc]; exact hg) (C.G.bl _ (by decide)) he (starEach_plain hp)
  | false =>
    obtain ⟨rfl, hg⟩ := bltB_ok hn
    exact pe_tupRg C.calm (by show X.env.scope.names.lookup _ = _; rw [C.hsc]; exact hg) (C.G.bl _ (by decide)) he (starEach_plain hp)
theorem out_rg {K : Frag} {W : WX} {ρ : Env} {F H : Hp} {σ : L2.St} {Q : VK} {l : Bool} {i j : Int} {q : Addr} (S : Sim K ρ F σ H) (h : Out T K W ρ F σ H (relE K σ) (.ok (if l = true then .tmp (.lst (rangeL i j)) else .val (.tuple (rangeL i j)), ρ)) Q) (hq : H q = none) : Q (.ref q) (upd H q (if l = true then .lst (rgV i j) else .tup (rgV i j))) := by
  cases l with
  | true => exact out_lst S h (reps_rg i j) hq
  | false => exact out_tup S h (reps_rg i j) hq
theorem e_rg1 (l : Bool) {a : Mlg.E} (ia : PrE fnm T call k N a) : PrE fnm T call k N (.rg1 l a) := by
  intro X W sc x C tk h
  unfold mE at h
  try dsimp only at h
  split at h
  · rename_i n p m pm y py pos
    obtain ⟨h1, hp, h2⟩ := and3 h
    obtain ⟨hn, hm⟩ := and2 h1
    obtain ⟨rfl, hg⟩ := bltB_ok hm
    refine PE.imp (pe_rg C hn (prg_1 (by show X.env.scope.names.lookup _ = _; rw [C.hsc]; exact hg) (C.G.bl _ (by decide)) (ia X W sc y C tk h2) (starEach_plain hp)) rfl) fun σ H Q q => ?_
    obtain ⟨ρ, F, S, q⟩ := q
    refine ⟨ρ, F, S, Out.bind back_E q fun r1 ρ1 v F1 H1 s1 S1 rl1 h1 => ?_⟩
    cases r1 with
    | tmp _ => exact h1.elim
    | loc _ => exact h1.elim
    | val d =>
      cases d <;> first | exact h1.elim | skip
      rename_i i
      try dsimp only at h1
      split at h1
      · rename_i c
        cases rl1
        exact ⟨i, rfl, rgOk (by decide) c, fun q hq => out_rg S1 h1 hq⟩
      · exact h1.elim
  · cases h
theorem e_rg2 (l : Bool) {a b : Mlg.E} (ia : PrE fnm T call k N a) (ib : PrE fnm T call k N b) : PrE fnm T call k N (.rg2 l a b) := by
  intro X W sc x C tk h
  unfold mE at h
  try dsimp only at h
  split at h
  · rename_i n p m pm y z py pos
    obtain ⟨h1, hpz, h2⟩ := and3 h
    obtain ⟨hn0, hm, hpy⟩ := and3 h1
    obtain ⟨h2, h3⟩ := and2 h2
    obtain ⟨rfl, hg⟩ := bltB_ok hm
    refine PE.imp (pe_rg C hn0 (prg_2 (by show X.env.scope.names.lookup _ = _; rw [C.hsc]; exact hg) (C.G.bl _ (by decide)) (ia X W sc y C tk h2) (ib X W sc z C tk h3) (starEach_plain hpy) (starEach_plain hpz) (by rw [starEach_plain hpz]; rfl)) rfl) fun σ H Q q => ?_
    obtain ⟨ρ, F, S, q⟩ := q
    refine ⟨ρ, F, S, Out.bind back_E q fun r1 ρ1 v F1 H1 s1 S1 rl1 h1 => ⟨ρ1, F1, S1, Out.bind back_E h1 fun r2 ρ2 u F2 H2 s2 S2 rl2 h2 => ?_⟩⟩
    cases r1 with
    | tmp _ => exact h2.elim
    | loc _ => exact h2.elim
    | val d =>
      cases d <;> first | exact h2.elim | skip
      rename_i i
      cases r2 with
      | tmp _ => exact h2.elim
      | loc _ => exact h2.elim
      | val d =>
        cases d <;> first | exact h2.elim | skip
        rename_i j
        try dsimp only at h2
        split at h2
        · rename_i c
          obtain ⟨c1, c2⟩ := and2 c
          cases rl1
          cases rl2
          exact ⟨i, j, rfl, rfl, rgOk c1 c2, fun q hq => out_rg S2 h2 hq⟩
        · exact h2.elim
  · cases h
/-! ### range with a step -/
theorem stepL_len (lo hi c : Int) : (stepL lo hi c).length = stepN lo hi c := by simp [stepL]
theorem stepL_get {lo hi c : Int} {i : Nat} {d : D} (h : (stepL lo hi c)[i]? = some d) : d = .int (lo + (i : Nat) * c) := by
  unfold stepL at h
  rw [List.getElem?_map] at h
  obtain ⟨j, h1, h2⟩ := Option.map_eq_some_iff.mp h
  have : j = i := by
    have := (List.getElem?_eq_some_iff.mp h1)
    obtain ⟨a, b⟩ := this
    rw [List.getElem_range] at b
    exact b.symm
  subst this
  exact h2.symm
theorem goes_step {K : Frag} (lo hi c : Int) : Goes K (Itc lo c (stepN lo hi c)) (stepL lo hi c) (fun _ _ _ _ => True) where
  go := fun i ρ F σ H h _ _ => by rw [stepL_len] at h; exact h
  stop := fun ρ F σ H _ _ => by rw [stepL_len]; exact Nat.le_refl _
  yld := fun i d ρ F σ H x H' hd _ S y => by
    obtain ⟨rfl, rfl⟩ := y
    rw [stepL_get hd]
    exact ⟨F, .refl, S, .int _⟩
  stays := fun _ _ _ _ _ _ _ _ _ _ => trivial
theorem rgC {i j c : Int} (h1 : rangeOk i = true) (h2 : rangeOk j = true) (h3 : rangeOk c = true) (h4 : 0 < c) : RgC i j c (stepN i j c) := by
  obtain ⟨a, b⟩ := and2 h1
  obtain ⟨d, e⟩ := and2 h2
  obtain ⟨f, g⟩ := and2 h3
  have a := of_decide_eq_true a
  have b := of_decide_eq_true b
  have d := of_decide_eq_true d
  have e := of_decide_eq_true e
  have g := of_decide_eq_true g
  have rs : Builtin.Range.rangeSize i j c = if i < j then (j - i - 1) / c + 1 else 0 := by
    unfold Builtin.Range.rangeSize
    rw [if_pos (show c > 0 from h4)]
  have q0 : i < j → 0 ≤ (j - i - 1) / c := fun h => Int.ediv_nonneg (by omega) (by omega)
  have q1 : i < j → (j - i - 1) / c ≤ j - i - 1 := fun h => Int.ediv_le_self _ (by omega)
  have q2 : (j - i - 1) / c * c ≤ j - i - 1 := Int.ediv_mul_le _ (by omega)
  refine ⟨by omega, by omega, ?_, ?_⟩
  · unfold Builtin.Range.small
    rw [rs]
    simp only [Builtin.Range.rangeFitsLong, Bool.and_eq_true, Bool.or_eq_true, decide_eq_true_eq, beq_iff_eq, show c > 0 from h4, if_true]
    split
    · rename_i hij
      have := q0 hij
      have := q1 hij
      generalize (j - i - 1) / c = z at *
      omega
    · omega
  · rw [rs]
    unfold stepN
    split
    · rename_i hij
      have := q0 hij
      omega
    · rfl
theorem i_r3 {a b c : Mlg.E} (ia : PrE fnm T call k N a) (ib : PrE fnm T call k N b) (ic : PrE fnm T call k N c) : PrI fnm T call k N (.r3 a b c) := by
  intro X W sc x tg C tk _ h
  unfold mIt at h
  try dsimp only at h
  split at h
  · rename_i n p x y z pos
    obtain ⟨h0, hpz, h1⟩ := and3 h
    obtain ⟨hn, hpx, hpy⟩ := and3 h0
    obtain ⟨h1, h2, h3⟩ := and3 h1
    obtain ⟨rfl, hg⟩ := bltB_ok hn
    refine PI.imp (pi_range3 (by show X.env.scope.names.lookup _ = _; rw [C.hsc]; exact hg) (C.G.bl _ (by decide)) (pa_cons (ia X W sc x C tk h1) (pa_cons (ib X W sc y C tk h2) (pa_cons (ic X W sc z C tk h3) pa_nil (starEach_plain hpz)) (starEach_plain hpy)) (starEach_plain hpx)) (starEach_plain hpx) (by rw [starEach_plain hpy, starEach_plain hpz]; rfl)) fun σ H R' q => ?_
    obtain ⟨ρ, F, S, q⟩ := q
    refine ⟨ρ, F, S, OutW.bind q fun r1 ρ1 v F1 H1 st S1 rl h => ⟨ρ1, F1, S1, OutW.bind1 (Rl := relE X.K σ) st h fun r2 ρ2 v2 F2 H2 st2 S2 rl2 h' => ⟨ρ2, F2, S2, OutW.bind1 (Rl := relE X.K σ) (st.trans st2) h' fun r3 ρ3 v3 F3 H3 st3 S3 rl3 h'' => ?_⟩⟩⟩
    clear h h'
    have h := h''
    clear h''
    cases r1 with
    | tmp _ => exact h.elim
    | loc _ => exact h.elim
    | val d =>
    cases d <;> first | exact h.elim | skip
    rename_i i
    cases r2 with
    | tmp _ => exact h.elim
    | loc _ => exact h.elim
    | val d =>
    cases d <;> first | exact h.elim | skip
    rename_i j
    cases r3 with
    | tmp _ => exact h.elim
    | loc _ => exact h.elim
    | val d =>
    cases d <;> first | exact h.elim | skip
    rename_i m
    try dsimp only at h
    split at h
    · rename_i c
      cases rl
      cases rl2
      cases rl3
      obtain ⟨c1, c2, c3⟩ := and3 c
      obtain ⟨c0, c1⟩ := and2 c1
      exact ⟨i, j, m, _, rfl, rgC c0 c1 c2 (of_decide_eq_true c3), h _ F3 H3 _ ((st.trans st2).trans st3) S3 (goes_step i j m) trivial lock_none⟩
    · exact h.elim
  · cases h
end
end Msd
/-! SoundE: dicts made, asked, walked. -/
namespace Msd
open PySem PySem.Spec PyProof.Rows L2 Mlg
section
variable {fnm : Nat → Option Str} {T : Errs} {call : CallT} {k : Nat} {N : List Str}
theorem e_dnew (t : Bool) : PrE fnm T call k N (.dnew t) := by
  intro X W sc x C tk h
  unfold mE at h
  try dsimp only at h
  split at h
  · cases t with
    | false =>
      refine PE.imp pe_dnewK fun σ H Q q => ?_
      obtain ⟨ρ, F, S, q⟩ := q
      unfold Mlg.eval at q
      exact fun p hp => q (.ref p) F _ (Step.laid hp) (S.laid hp) ⟨p, rfl, (S.new hp).1, ⟨[], [], [], upd_same, rfl, .nil, rfl⟩, (S.new hp).2, hp⟩
    | true =>
      refine PE.imp pe_dnewT fun σ H Q q => ?_
      obtain ⟨ρ, F, S, q⟩ := q
      unfold Mlg.eval at q
      exact fun p hp => q (.ref p) F _ (Step.laid hp) (S.laid hp) ⟨p, rfl, (S.new hp).1, ⟨[], [], [], upd_same, rfl, .nil, rfl⟩, (S.new hp).2, hp⟩
  · cases h
theorem e_dsp {a b : Mlg.E} (ia : PrE fnm T call k N a) (ib : PrE fnm T call k N b) : PrE fnm T call k N (.dsp a b) := by
  intro X W sc x C tk h
  unfold mE at h
  try dsimp only at h
  split at h
  · rename_i y z pos
    obtain ⟨h1, h2⟩ := and2 h
    refine PE.imp (pe_dsp (by have := C.room.un; omega) (ia X W sc y C tk h1) (ib X W sc z C tk h2)) fun σ H Q q => ?_
    obtain ⟨ρ, F, S, q⟩ := q
    unfold Mlg.eval at q
    intro p hp
    have st0 : Step ρ σ F H ρ σ F (upd H p (.dT [])) := Step.laid hp
    have S0 : Sim X.K ρ F σ (upd H p (.dT [])) := S.laid hp
    refine ⟨ρ, F, S0, Out.bind1 st0 q fun r1 ρ1 v F1 H1 st1 S1 rl1 h1 => ⟨ρ1, F1, S1, Out.bind1 (Rl := relE X.K σ) (st0.trans st1) h1 fun r2 ρ2 w F2 H2 st2 S2 rl2 h2 => ?_⟩⟩
    cases r1 with
    | tmp _ => exact h2.elim
    | loc _ => exact h2.elim
    | val kd =>
      cases ef : fix ρ2 r2 with
      | none => rw [ef] at h2; exact h2.elim
      | some pr =>
        obtain ⟨d, ρ'⟩ := pr
        rw [ef] at h2
        dsimp only at h2
        split at h2
        · rename_i ck
          obtain ⟨F', st', S', hr⟩ := fix_step st2 S2 rl2 ef
          have stA := st1.trans st'
          have hn0 : ¬ Own ρ σ p := (S.new hp).2
          have e0 : (upd H p (.dT [])) p = some (.dT []) := upd_same
          have hH2 : H2 p = some (.dT []) := stA.keep p _ e0 fun q => hn0 q.own
          have hF' : F' p = none := stA.frz p (S.new hp).1 (by rw [e0]; exact fun z => by cases z) (fun q => hn0 q.own) fun vs e => by rw [e0] at e; cases e
          have hn' : ¬ Own ρ' σ p := fun q => (stA.own p q).elim hn0 fun z => by rw [e0] at z; cases z
          have rk : Rep X.K F' v kd := Rep.mono st'.ext rl1
          obtain ⟨key, b, rfl, hb, rfl⟩ := keyT_ok S'.fh ck rk
          refine ⟨b, key, rfl, hb, hH2, h2 (.ref p) F' _ ((st0.trans stA).touch hp) (S'.touch hF' hn') ⟨p, rfl, hF', ⟨[key], [w], [d], upd_same, rfl, .cons hr .nil, rfl⟩, hn', hp⟩⟩
        · exact h2.elim
  · cases h
/-! ### y in d -/
section
variable {X : Cx}
def rDin (neg : Bool) : R2 := fun y x H Q => ∃ a o, x = .ref a ∧ DGet H a y o ∧ Q (.bl (neg != o.isSome)) H
theorem op_din (neg : Bool) (hu : X.A.units + 1 < cLine) : OpR X (compareOp (if neg = true then CmpOp.NotIn else CmpOp.In)) (rDin neg) := by
  intro pins s σ H x y v u Q I rx ry h
  obtain ⟨a, o, rfl, g, q⟩ := h
  obtain rfl : u = Value.ref a := ry
  cases neg with
  | false => exact d_in hu I g rx fun s' I' => ⟨.bl o.isSome, H, I', rfl, by simpa using q⟩
  | true => exact d_notIn hu I g rx fun s' I' => ⟨.bl (!o.isSome), H, I', rfl, by simpa using q⟩
end
theorem din_ok {neg : Bool} {a : Mlg.E} {i : Nat} {K : Frag} {W : WX} {σ : St} {H : Hp} {Q : VK} (q : LE T K W (Mlg.eval call (.din neg a i)) σ H Q) : tOp (rDin neg) (LE T K W (Mlg.eval call a)) (tVar i) σ H Q := by
  obtain ⟨ρ, F, S, q⟩ := q
  unfold Mlg.eval at q
  refine ⟨ρ, F, S, Out.bind back_E q fun r1 ρ1 v F1 H1 s1 S1 rl1 h1 => ?_⟩
  cases r1 with
  | tmp _ => exact h1.elim
  | loc _ => exact h1.elim
  | val kd =>
    dsimp only at h1
    split at h1
    · rename_i kd' t kvs e1 e2
      cases e1
      split at h1
      · rename_i ck
        obtain ⟨p, g1, g2, g3⟩ := S1.slot i _ e2
        obtain ⟨o, d1, d2, d3⟩ := dic_get S1.fh g3 ck rl1
        rw [d3] at h1
        exact ⟨.ref p, g1, p, o, rfl, d1, out_val S1 h1 (.bl _)⟩
      · exact h1.elim
    · exact h1.elim
theorem e_din (neg : Bool) (i : Nat) {a : Mlg.E} (ia : PrE fnm T call k N a) : PrE fnm T call k N (.din neg a i) ∧ PrT fnm T call k N (.din neg a i) := by
  have key : ∀ (X : Cx) (W : WX) (sc : Scope) (x : Expr), Cok fnm T call k N X sc → Takes X W → mE fnm N sc (.din neg a i) x = true → ∃ x' y p p', x = .Compare x' [if neg = true then CmpOp.NotIn else CmpOp.In] [.Name y p'] p ∧ PE X x' (LE T X.K W (Mlg.eval call a)) ∧ PE X (.Name y p') (tVar i) := by
    intro X W sc x C tk h
    unfold mE at h
    try dsimp only at h
    split at h
    · rename_i x' op y p' p
      obtain ⟨h1, hn, h2⟩ := and3 h
      obtain ⟨ho, hN, hv⟩ := and3 h1
      obtain ⟨n1, n2, _⟩ := nameB_ok hn
      have e : op = if neg = true then CmpOp.NotIn else CmpOp.In := of_decide_eq_true ho
      subst e
      exact ⟨x', y, p, p', rfl, ia X W sc x' C tk h2, pe_var (i := i) (by rw [C.hN]; exact of_decide_eq_true hN) (by rw [C.hsc]; exact visB_ok hv) n1 n2⟩
    · cases h
  constructor
  · intro X W sc x C tk h
    obtain ⟨x', y, p, p', rfl, h1, h2⟩ := key X W sc x C tk h
    exact PE.imp (pe_cmpR (op_din neg (by have := C.room.un; omega)) h1 h2 (plain_marks rfl)) fun σ H Q q => din_ok q
  · intro X W sc x C tk ht h
    obtain ⟨x', y, p, p', rfl, h1, h2⟩ := key X W sc x C tk h
    exact PT.imp (pt_cmpR (op_din neg (by have := C.room.un; omega)) h1 h2 (plain_marks rfl)) fun σ H Q q => din_ok (lb_tB q)
theorem e_dvals (i : Nat) : PrE fnm T call k N (.dvals i) := by
  intro X W sc x C tk h
  unfold mE at h
  try dsimp only at h
  split at h
  · rename_i n p0 y py m p q pos
    obtain ⟨h1, hv, hn⟩ := and3 h
    obtain ⟨h1, hl, hN⟩ := and3 h1
    obtain ⟨hb, hm⟩ := and2 h1
    obtain ⟨n1, n2, _⟩ := nameB_ok hn
    obtain ⟨rfl, hg⟩ := bltB_ok hb
    have e : m = ("values" : Str) := of_decide_eq_true hm
    subst e
    have po : PE X (.Name y py) (tVar i) := pe_var (i := i) (by rw [C.hN]; exact of_decide_eq_true hN) (by rw [C.hsc]; exact visB_ok hv) n1 n2
    refine PE.imp (pe_listVals C.calm (by show X.env.scope.names.lookup _ = _; rw [C.hsc]; exact hg) (C.G.bl _ (by decide)) po rfl hl) fun σ H Q q => ?_
    obtain ⟨ρ, F, S, q⟩ := q
    unfold Mlg.eval at q
    split at q
    · rename_i kvs e2
      obtain ⟨p, g1, g2, ks, vs, ds, g3, g4, g5, rfl⟩ := S.slot i _ e2
      refine ⟨.ref p, g1, p, _, rfl, g3, fun q' hq => ?_⟩
      rw [List.map_snd_zip (by rw [List.length_map, g4, g5.length]; exact Nat.le_refl _)] at q
      rw [List.map_snd_zip (by rw [g4]; exact Nat.le_refl _)]
      exact out_lst S q g5 hq
    · exact q.elim
  · cases h
/-! ### {k: v for x in xs if t} -/
def turnD (call : CallT) (ke ve : Mlg.E) (tg : Tg) (c : Mlg.Eo) (vs : List Nat) : D → Env → Res (Option D × Env) := fun d ρ => match putTg ρ tg d with
  | none => .no
  | some ρ2 => (Mlg.test call c ρ2).bind fun t =>
    if t.1 = true then (Mlg.eval call ke t.2).bind fun r => match r.1 with
      | .val kd => (Mlg.eval call ve r.2).bind fun r' => match fix r'.2 r'.1 with
        | none => .no
        | some (x, ρ4) => if keyT false kd = true then (Res.of (wipeE ρ4 vs)).bind fun ρ5 => .ok (some (.tuple [kd, x]), ρ5) else .no
      | _ => .no
    else (Res.of (wipeE t.2 vs)).bind fun ρ5 => .ok (none, ρ5)
theorem turnD_ok {ke ve : Mlg.E} {tg : Tg} {c : Mlg.Eo} {vs : List Nat} {d : D} {ρ ρ5 : Env} {o : Option D} (h : turnD call ke ve tg c vs d ρ = .ok (o, ρ5)) : ∃ ρ2 t, putTg ρ tg d = some ρ2 ∧ Mlg.test call c ρ2 = .ok t ∧
    ((t.1 = true ∧ ∃ kd ρ3 r x ρ4, Mlg.eval call ke t.2 = .ok (.val kd, ρ3) ∧ Mlg.eval call ve ρ3 = .ok r ∧ fix r.2 r.1 = some (x, ρ4) ∧ keyT false kd = true ∧ wipeE ρ4 vs = some ρ5 ∧ o = some (.tuple [kd, x])) ∨ (t.1 = false ∧ wipeE t.2 vs = some ρ5 ∧ o = none)) := by
  unfold turnD at h
  cases e1 : putTg ρ tg d with
  | none => rw [e1] at h; cases h
  | some ρ2 =>
    rw [e1] at h
    dsimp only at h
    cases e2 : Mlg.test call c ρ2 with
    | no => rw [e2] at h; cases h
    | exc _ _ _ => rw [e2] at h; cases h
    | ok t =>
      rw [e2] at h
      replace h : (if t.1 = true then (Mlg.eval call ke t.2).bind fun r => (match r.1 with
          | .val kd => (Mlg.eval call ve r.2).bind fun r' => (match fix r'.2 r'.1 with
            | none => .no
            | some (x, ρ4) => if keyT false kd = true then (Res.of (wipeE ρ4 vs)).bind fun ρ5 => .ok (some (.tuple [kd, x]), ρ5) else .no)
          | _ => .no)
        else (Res.of (wipeE t.2 vs)).bind fun ρ5 => .ok (none, ρ5)) = .ok (o, ρ5) := h
      refine ⟨ρ2, t, rfl, e2, ?_⟩
      split at h
      · rename_i ht
        refine .inl ⟨ht, ?_⟩
        cases e3 : Mlg.eval call ke t.2 with
        | no => rw [e3] at h; cases h
        | exc _ _ _ => rw [e3] at h; cases h
        | ok r =>
          rw [e3] at h
          obtain ⟨r, ρ3⟩ := r
          cases r with
          | tmp _ => cases h
          | loc _ => cases h
          | val kd =>
            replace h : ((Mlg.eval call ve ρ3).bind fun r' => (match fix r'.2 r'.1 with
                | none => .no
                | some (x, ρ4) => if keyT false kd = true then (Res.of (wipeE ρ4 vs)).bind fun ρ5 => .ok (some (.tuple [kd, x]), ρ5) else .no)) = Res.ok (o, ρ5) := h
            cases e4 : Mlg.eval call ve ρ3 with
            | no => rw [e4] at h; cases h
            | exc _ _ _ => rw [e4] at h; cases h
            | ok r =>
              rw [e4] at h
              replace h : (match fix r.2 r.1 with
                | none => .no
                | some (x, ρ4) => if keyT false kd = true then (Res.of (wipeE ρ4 vs)).bind fun ρ5 => .ok (some (.tuple [kd, x]), ρ5) else .no) = Res.ok (o, ρ5) := h
              cases e5 : fix r.2 r.1 with
              | none => rw [e5] at h; cases h
              | some p =>
                obtain ⟨x, ρ4⟩ := p
                rw [e5] at h
                dsimp only at h
                split at h
                · rename_i ck
                  cases e6 : wipeE ρ4 vs with
                  | none => rw [e6] at h; cases h
                  | some ρ6 => rw [e6] at h; cases h; exact ⟨kd, ρ3, r, x, ρ4, rfl, e4, e5, ck, e6, rfl⟩
                · cases h
      · rename_i ht
        refine .inr ⟨by simpa using ht, ?_⟩
        cases e5 : wipeE t.2 vs with
        | none => rw [e5] at h; cases h
        | some ρ6 => rw [e5] at h; cases h; exact ⟨rfl, rfl⟩
theorem mkDict_snoc : ∀ {acc : List D} {kvs : List (D × D)} {kd x : D}, mkDict acc = some kvs → keyT false kd = true → mkDict (acc ++ [.tuple [kd, x]]) = some (kvs ++ [(kd, x)])
  | [], _, kd, x, h, hk => by
    cases h
    show (if keyT false kd = true then (mkDict []).map (fun kvs => (kd, x) :: kvs) else none) = _
    rw [if_pos hk]
    rfl
  | a :: acc, kvs, kd, x, h, hk => by
    unfold mkDict at h
    split at h
    · rename_i e; cases e
    · rename_i k v r e
      cases e
      split at h
      · rename_i c
        cases q : mkDict acc with
        | none => rw [q] at h; cases h
        | some kvs' =>
          rw [q] at h
          cases h
          rw [List.cons_append]
          unfold mkDict
          rw [if_pos c, mkDict_snoc q hk]
          rfl
      · cases h
    · cases h
theorem mkDict_len : ∀ {acc : List D} {kvs : List (D × D)}, mkDict acc = some kvs → kvs.length = acc.length
  | [], _, h => by cases h; rfl
  | a :: acc, kvs, h => by
    unfold mkDict at h
    split at h
    · rename_i e; cases e
    · rename_i k v r e
      cases e
      split at h
      · cases q : mkDict acc with
        | none => rw [q] at h; cases h
        | some kvs' => rw [q] at h; cases h; simp [mkDict_len q]
      · cases h
    · cases h
theorem setKey_len (kvs : List (D × D)) (k v : D) : (setKey kvs k v).length ≤ kvs.length + 1 := by
  unfold setKey
  split
  · rw [List.length_map]; omega
  · simp
theorem mkDictL_snoc (kvs : List (D × D)) (k v : D) : mkDictL (kvs ++ [(k, v)]) = setKey (mkDictL kvs) k v := by
  unfold mkDictL
  rw [List.foldl_append]
  rfl
theorem mkDictL_len (kvs : List (D × D)) : (mkDictL kvs).length ≤ kvs.length := by
  have : ∀ (l : List (D × D)) (a : List (D × D)), (l.foldl (fun a p => setKey a p.1 p.2) a).length ≤ a.length + l.length := by
    intro l
    induction l with
    | nil => intro a; simp
    | cons p l ih =>
      intro a
      rw [List.foldl_cons, List.length_cons]
      have h1 := ih (setKey a p.1 p.2)
      have h2 := setKey_len a p.1 p.2
      omega
  have := this kvs []
  rw [List.length_nil, Nat.zero_add] at this
  exact this
theorem dc_ok {K : Frag} {W : WX} {ke ve : Mlg.E} {tg : Tg} {it : Mlg.It} {c : Mlg.Eo} {vs : List Nat} {σ : St} {H : Hp} {Q : VK} (htg : ∀ j ∈ tgSlots tg, j ∈ vs)
    (h : LE T K W (Mlg.eval call (.dc ke ve tg it c vs)) σ H Q) : tDc (LW T K W (Mlg.walk call it)) (gTg K tg) (LB T K (fun _ _ _ _ => False) (Mlg.test call c)) (LE T K (fun _ _ _ _ => False) (Mlg.eval call ke)) (LE T K (fun _ _ _ _ => False) (Mlg.eval call ve)) vs σ H Q := by
  obtain ⟨ρ, F, S, h⟩ := h
  refine ⟨ρ, F, S, ?_⟩
  replace h : Out T K W ρ F σ H (relE K σ) ((Mlg.walk call it ρ).bind fun p => match wipeE p.2 vs with
      | none => .no
      | some ρ1 => (loopC (turnD call ke ve tg c vs) p.1.1 [] ρ1).bind fun q => (Res.of (unlockE (backE p.2 vs q.2) p.1.2)).bind fun ρ' => (Res.of (mkDict q.1)).bind fun kvs => .ok (.tmp (.dic false (mkDictL kvs)), ρ')) Q := by
    unfold Mlg.eval at h
    exact h
  cases ew : Mlg.walk call it ρ with
  | no => rw [ew] at h; exact h
  | exc _ _ _ => rw [ew] at h; exact h
  | ok p =>
    rw [ew] at h
    obtain ⟨⟨ds, lk⟩, ρp⟩ := p
    replace h : Out T K W ρ F σ H (relE K σ) (match wipeE ρp vs with
      | none => .no
      | some ρ1 => (loopC (turnD call ke ve tg c vs) ds [] ρ1).bind fun q => (Res.of (unlockE (backE ρp vs q.2) lk)).bind fun ρ' => (Res.of (mkDict q.1)).bind fun kvs => .ok (.tmp (.dic false (mkDictL kvs)), ρ')) Q := h
    intro J Fp H1 P stp Sp gs hP hlk D' hD
    cases e1 : wipeE ρp vs with
    | none => rw [e1] at h; exact h.elim
    | some ρ1 =>
      rw [e1] at h
      dsimp only at h
      obtain ⟨Sw, stw⟩ := wipe_ok Sp e1
      have hPw := gs.stays _ _ _ _ _ _ _ _ hP stw
      cases el : loopC (turnD call ke ve tg c vs) ds [] ρ1 with
      | no => rw [el] at h; exact h.elim
      | exc _ _ _ => exact absurd el loopC_exc
      | ok q =>
        rw [el] at h
        -- the invariant of the turns
        let J2 : Nat → Hp → Prop := fun i Hi => ∃ ρi Fi acc kvs, Sim K ρi Fi (wipe σ vs) Hi ∧ Step ρ1 (wipe σ vs) Fp H1 ρi (wipe σ vs) Fi Hi ∧ mkDict acc = some kvs ∧ DicR K Fi Hi D' false (mkDictL kvs) ∧ Fi D' = none ∧ ¬ Own ρi (wipe σ vs) D' ∧
            loopC (turnD call ke ve tg c vs) (ds.drop i) acc ρi = .ok q
        refine ⟨fun i m Hi => m = ds.length - i ∧ i ≤ ds.length ∧ J2 i Hi, ⟨ds.length, by simp, Nat.zero_le _, ρ1, Fp, [], [], ?_⟩, ?_⟩
        · have n := Sw.new hD
          exact ⟨Sw.laid hD, Step.laid hD, rfl, ⟨[], [], [], upd_same, rfl, .nil, rfl⟩, n.1, n.2, by simpa using el⟩
        · rintro i m Hi ⟨rfl, hi, ρi, Fi, acc, kvs, Si, sti, hmk, hDi, hFD, hnD, eq⟩
          have hPi := gs.stays _ _ _ _ _ _ _ _ hPw sti
          have d0 : Hi D' ≠ none := by
            obtain ⟨u, hu⟩ := ObjR.at hDi
            rw [hu]; exact fun z => by cases z
          by_cases hlt : i < ds.length
          · refine .inr ⟨gs.go i ρi Fi _ Hi hlt hPi Si, J2 (i + 1), fun H' hN => ⟨ds.length - (i + 1), by omega, rfl, hlt, hN⟩, fun x H' y => ?_⟩
            have ed : ds[i]? = some ds[i] := List.getElem?_eq_getElem hlt
            obtain ⟨F', st', S', hx⟩ := gs.yld i _ ρi Fi _ Hi x H' ed hPi Si y
            rw [List.drop_eq_getElem_cons hlt] at eq
            unfold loopC at eq
            cases et : turnD call ke ve tg c vs ds[i] ρi with
            | no => rw [et] at eq; cases eq
            | exc _ _ _ => rw [et] at eq; cases eq
            | ok pr =>
              obtain ⟨o, ρ5⟩ := pr
              obtain ⟨ρ2, t, t1, t2, t3⟩ := turnD_ok et
              refine tg_ok (fx := fun j => !vs.contains j) S' hx t1 (fun j hj => by simp [htg j hj]) fun σ2 S2 st2 _ ot => ?_
              have hw : wipe σ2 vs = wipe σ vs := wipe_same (by rw [← S2.len, putTg_len t1, S'.len, wipe_length]) fun j hj => ot j fun z => hj (htg j z)
              refine ⟨hw, ρ2, F', S2, ?_⟩
              rw [t2]
              intro b F3 H3 st3 S3 rb
              have rb : b = t.1 := rb
              have st03 := (st'.trans st2).trans st3
              rcases t3 with ⟨tb, kd, ρ3, r, xx, ρ4, e3, e4, e5, ck, e6, eo⟩ | ⟨tb, e6, eo⟩
              · rw [rb, tb, if_pos rfl]
                refine ⟨t.2, F3, S3, ?_⟩
                rw [e3]
                intro y F4 H4 st4 S4 ry
                refine ⟨ρ3, F4, S4, ?_⟩
                rw [e4]
                intro z F5 H5 st5 S5 rz
                obtain ⟨F6, st6, S6, hz⟩ := fix_step st5 S5 rz e5
                have st06 := (st03.trans st4).trans st6
                obtain ⟨S7, st7⟩ := wipe_ok S6 e6
                rw [hw] at S7 st7
                have st07 := st06.trans st7
                have hF7 : F6 D' = none := st07.frz D' hFD d0 (fun q => hnD q.own) hDi.nt
                have hn7 : ¬ Own ρ5 (wipe σ vs) D' := fun q => (st07.own D' q).elim hnD d0
                have rk : Rep K F6 y kd := Rep.mono st6.ext ry
                obtain ⟨ky, rfl, rfl⟩ := keyF_ok ck rk
                have hD5 : DicR K F6 H5 D' false (mkDictL kvs) := hDi.move st07.ext fun u hu => st07.keep D' u hu fun q => hnD q.own
                obtain ⟨ks, ws, es, g1, g2, g3, g4⟩ := hD5
                obtain ⟨ks', vs', ds', a1, a2, a3, a4⟩ := assoc_set (enc := keyD) eqv_keyD (k := ky) g2 g3 hz
                rw [et, eo] at eq
                dsimp only at eq
                split at eq
                · rename_i cs
                  refine ⟨_, ky, rfl, g1, ?_, ρ5, F6, acc ++ [.tuple [keyD ky, xx]], kvs ++ [(keyD ky, xx)], S7.touch hF7 hn7, (sti.trans st07).touch hD, mkDict_snoc hmk ck, ?_, hF7, hn7, eq⟩
                  · have l1 := mkDictL_len kvs
                    have l2 := mkDict_len hmk
                    have l3 := congrArg List.length g4
                    have l4 : acc.length < lim := of_decide_eq_true cs
                    have l5 := lim_le
                    have l6 := g3.length
                    rw [List.length_zip, List.length_map] at l3
                    rw [List.length_zip]
                    omega
                  · rw [mkDictL_snoc, g4]
                    exact ⟨ks', vs', ds', by rw [upd_same, a1], a2, a3, a4⟩
                · cases eq
              · rw [rb, tb, if_neg Bool.false_ne_true]
                obtain ⟨S6, st6⟩ := wipe_ok S3 e6
                rw [hw] at S6 st6
                have st06 := st03.trans st6
                rw [et, eo] at eq
                dsimp only at eq
                exact ⟨ρ5, F3, acc, kvs, S6, sti.trans st06, hmk, hDi.move st06.ext fun u hu => st06.keep D' u hu fun q => hnD q.own, st06.frz D' hFD d0 (fun q => hnD q.own) hDi.nt, fun q => (st06.own D' q).elim hnD d0, eq⟩
          · have ei : i = ds.length := by omega
            subst ei
            refine .inl ⟨gs.stop ρi Fi _ Hi hPi Si, ?_⟩
            rw [List.drop_length] at eq
            cases eq
            obtain ⟨Sb, stb, owb⟩ := back_ok Sp e1 (stw.trans sti) Si
            have h0 : H D' = none := stp.dom D' hD
            have hnb : ¬ Own (backE ρp vs ρi) σ D' := fun q => hnD (owb D' q)
            replace h : Out T K W ρ F σ H (relE K σ) ((Res.of (unlockE (backE ρp vs ρi) lk)).bind fun ρ' => (Res.of (mkDict acc)).bind fun kvs => .ok (.tmp (.dic false (mkDictL kvs)), ρ')) Q := h
            rw [hmk] at h
            cases lk with
            | none => exact h (.ref D') Fi Hi (stp.trans stb) Sb ⟨D', rfl, hFD, hDi, hnb, h0⟩
            | some j =>
              obtain ⟨pp, hp1, hp2⟩ := hlk j rfl
              replace h : Out T K W ρ F σ H (relE K σ) ((Res.of (match (backE ρp vs ρi)[j]? with
                | some (.lck o) => some ((backE ρp vs ρi).set j (.own o))
                | _ => none)).bind fun ρ' => .ok (.tmp (.dic false (mkDictL kvs)), ρ')) Q := h
              split at h
              · rename_i o eo
                obtain ⟨Su, stu⟩ := Sb.unlock (stp.trans stb) eo hp2 hp1
                refine h (.ref D') Fi Hi stu Su ⟨D', rfl, hFD, hDi, fun q => ?_, h0⟩
                obtain ⟨j', s', o', a1, a2, a3⟩ := q
                rcases isOwn_set (lt_of_get eo) a1 a2 with ⟨rfl, _⟩ | ⟨_, hj⟩
                · exact hnb ⟨_, _, o, eo, rfl, a3⟩
                · exact hnb ⟨j', s', o', hj, a2, a3⟩
              · exact h.elim
theorem e_dc {ke ve : Mlg.E} {tg : Tg} {it : Mlg.It} {c : Mlg.Eo} {vs : List Nat} (ii : PrI fnm T call k N it) (ic : PrC fnm T call k N c) (ik : PrE fnm T call k N ke) (ie : PrE fnm T call k N ve) : PrE fnm T call k N (.dc ke ve tg it c vs) := by
  intro X W sc x C tk h
  unfold mE at h
  try dsimp only at h
  split at h
  · rename_i y x t i ifs scope pos
    obtain ⟨h, hk⟩ := and2 h
    obtain ⟨p1, p2, p3, p4, p5, p6, p7, p8⟩ := lc_parts ii ic ie C tk h
    refine PE.imp (pe_dc (tk := LE T X.K (fun _ _ _ _ => False) (Mlg.eval call ke)) C.calm (by rw [C.hN]; exact C.nd) p1 p2 p6 p7 (fun s H Ca cl fp => ik _ _ _ _ (C.blk s H scope cl Ca fp) takes0 hk) p8 (fun x => plain_folded p4 x)) fun σ H Q q => ?_
    rw [p3]
    exact dc_ok p5 q
  · cases h
/-- y = {..: .. for ..} on one line, y a local: the store is done within the block -/
theorem sw_dc {X : Cx} {kx vx : Expr} {gens : List Comprehension} {scope : Scope} {pos py : Pos} {y : Str} {line : Nat} (hf : X.env.scope.kind = .function) (hy : X.env.scope.names.lookup y = some .local) (hl : (py.line == pos.line) = true)
    (hno : (scope.names.any fun (n, k) => n == y && (k == .local || k == .cell)) = false) : swapsWith (.DictComp kx vx gens scope pos) (some (.Name y py)) line X.env = pure true := by
  have h1 : X.env.kindOf y = some .local := hy
  have h2 : X.env.blockKind = .function := by unfold Env.blockKind; rw [hf]; rfl
  unfold swapsWith
  simp only [h1, h2, hno, hl, Expr.pos]
  rfl
theorem ps_setDc {X : Cx} {i : Nat} {y : Str} {kx vx tg iter : Expr} {ifs : List Expr} {scope : Scope} {own : List (Str × Nat)} {py pos spos : Pos} {wi : TI} {g : TG} {tt : TT} {tk tv : TE} (calm : X.calm = true) (nd : X.N.Nodup) (hy : X.N[i]? = some y) (loc : X.env.scope.names.lookup y = some .local)
    (sw : swapsWith (.DictComp kx vx [⟨tg, iter, ifs, 0⟩] scope pos) (some (.Name y py)) spos.line X.env = pure true) (hi : PI X tg iter wi) (bl : BlkOk X.N X.env.scope scope own)
    (p1 : ∀ (s : Shared) (H : Hp) (C : Addr) (cl : List (Str × Addr)) (fp : List Addr), PG (X.blk s H scope (compEnvC scope cl C X.env) fp) tg g) (p2 : ∀ (s : Shared) (H : Hp) (C : Addr) (cl : List (Str × Addr)) (fp : List Addr), PTs (X.blk s H scope (compEnvC scope cl C X.env) fp) ifs tt)
    (p3 : ∀ (s : Shared) (H : Hp) (C : Addr) (cl : List (Str × Addr)) (fp : List Addr), PE (X.blk s H scope (compEnvC scope cl C X.env) fp) kx tk) (p4 : ∀ (s : Shared) (H : Hp) (C : Addr) (cl : List (Str × Addr)) (fp : List Addr), PE (X.blk s H scope (compEnvC scope cl C X.env) fp) vx tv)
    (fs : ∀ x, foldedSetIterable iter X.env x = pure x) : PS X (.Assign [.Name y py] (.DictComp kx vx [⟨tg, iter, ifs, 0⟩] scope pos) spos) (tAsg (tDc wi g tt tk tv (own.map (·.2))) (gName i)) := by
  constructor
  intro pins s σ H D I h
  rw [exec_Assign_Name_used _ _ _ _ sw]
  refine wpAny_bind (wpAny_standAt (wpAny_bind ?core))
  replace h : tDc wi g tt tk tv (own.map (·.2)) σ H (fun x H1 => gName i x σ H1 D.nx) := h
  show wpAny _ X.A (do let _ ← comprehension (.DictComp kx vx [⟨tg, iter, ifs, 0⟩] scope pos) scope X.env (firstIterPos [⟨tg, iter, ifs, 0⟩] pos) newDict false (PySem.eval iter X.env) (some (assign (.Name y py) X.env))) _ _ s
  refine wpAny_bind (thn (dc_core (Qf := fun _ s' => SP X pins D .next s') calm nd I hi bl p1 p2 p3 p4 fs h fun L C s' m H' J q hn fp => ?_) fun _ _ z => wpAny_pure (wpAny_pure z))
  obtain ⟨a0, a1, _, a3, a4, a5⟩ := fp
  show wpAny _ _ (assign (.Name y py) X.env (.ref L)) _ _ _
  refine wpAny_assign_Name (store_ok2 (v := V.ref L) J nd hy (.inl loc) rfl (fun s2 J2 ⟨a, sb, ha⟩ => ⟨m, hn.sameBut sb ?_, fun _ sb3 => ⟨_, H', J2.turned (t' := s2.toks) (fun b o hb e => (sb3.2 b hb).trans e) a0 a1 a3 a4 a5, q⟩⟩) (.inr loc))
  exact ha.elim (fun z => z ▸ a1) fun z e => a4 y a z e.symm
end
end Msd
/-! SoundL: [e for x in xs for y in ys]. -/
namespace Msd
open PySem PySem.Spec PyProof.Rows L2 Mlg
section
variable {fnm : Nat → Option Str} {T : Errs} {call : CallT} {k : Nat} {N : List Str}
theorem rbind_ok' {α β : Type} (a : α) (k : α → Res β) : (Res.ok a).bind k = k a := rfl
theorem wipe_wipe {σ : St} {vs vs1 : List Nat} (h : ∀ i ∈ vs1, i ∈ vs) : wipe (wipe σ vs1) vs = wipe σ vs := by
  refine wipe_same (by rw [wipe_length]) fun j hj => ?_
  rw [wipe_out fun z => hj (h j z), wipe_out hj]
theorem loopA_exc {turn : D → List D → Env → Res (List D × Env)} : ∀ {ds acc : List D} {ρ : Env} {c : Nat} {f : D} {ρ' : Env}, loopA turn ds acc ρ ≠ .exc c f ρ'
  | [], acc, ρ, c, f, ρ', h => by cases h
  | d :: ds, acc, ρ, c, f, ρ', h => by
    unfold loopA at h
    split at h
    · exact loopA_exc h
    · cases h
/-- the reading of a range: what is walked is no object -/
def LWf (T : Errs) (K : Frag) (W : WX) (m : Env → Res ((List D × Option Nat) × Env)) : TI := fun σ H R => ∃ ρ F, Sim K ρ F σ H ∧ match m ρ with
  | .ok p => ∀ J F' H', Step ρ σ F H p.2 σ F' H' → Sim K p.2 F' σ H' → Goes K J p.1.1 (fun _ _ _ _ => True) → R J H'
  | .exc c f ρ' => ∀ F' H' cls d, Step ρ σ F H ρ' σ F' H' → Sim K ρ' F' σ H' → ExcR T K F' H' c f cls d → W cls d σ H'
  | .no => False
theorem i_r1f {a : Mlg.E} (ia : PrE fnm T call k N a) {X : Cx} {W : WX} {sc : Scope} {x tg : Expr} (C : Cok fnm T call k N X sc) (tk : Takes X W) (h : mIt fnm N sc (.r1 a) x = true) : PI X tg x (LWf T X.K W (Mlg.walk call (.r1 a))) := by
  unfold mIt at h
  try dsimp only at h
  split at h
  · rename_i n p x pos
    obtain ⟨hn, hp, h1⟩ := and3 h
    obtain ⟨rfl, hg⟩ := bltB_ok hn
    refine PI.imp (pi_range1 (by show X.env.scope.names.lookup _ = _; rw [C.hsc]; exact hg) (C.G.bl _ (by decide)) (pa_cons (ia X W sc x C tk h1) pa_nil (starEach_plain hp)) (starEach_plain hp)) fun σ H R' q => ?_
    obtain ⟨ρ, F, S, q⟩ := q
    refine ⟨ρ, F, S, ?_⟩
    unfold Mlg.walk at q
    cases ea : Mlg.eval call a ρ with
    | no => rw [ea] at q; exact q
    | exc _ _ _ => rw [ea] at q; exact q
    | ok p =>
      rw [ea] at q
      obtain ⟨r1, ρ1⟩ := p
      intro v F1 H1 st S1 rl
      cases r1 with
      | tmp _ => exact q.elim
      | loc _ => exact q.elim
      | val d =>
        cases d <;> first | exact q.elim | skip
        rename_i i
        by_cases c : rangeOk i = true
        · simp only [rbind_ok', c, if_true] at q
          cases rl
          have := rangeOk_ok c
          refine ⟨i, rfl, this.1, this.2, ?_⟩
          have hh := q (Itr 0 (i - 0).toNat) F1 H1 st S1 (goes_range 0 i)
          rw [Int.sub_zero] at hh
          exact hh
        · simp only [rbind_ok', c] at q
          exact q.elim
  · cases h
/-- a turn of the outer loop -/
def turnA (call : CallT) (elt : Mlg.E) (tg tg' : Tg) (it' : Mlg.It) (vs vs1 : List Nat) : D → List D → Env → Res (List D × Env) := fun d acc ρ => match putTg ρ tg d with
  | none => .no
  | some ρ2 => (Mlg.walk call it' ρ2).bind fun p' => match p'.1.2, wipeE p'.2 vs1 with
    | none, some ρ3 => (loopC (turnC call elt tg' .no vs1) p'.1.1 acc ρ3).bind fun q' => (Res.of (wipeE q'.2 vs)).bind fun ρ8 => .ok (q'.1, ρ8)
    | _, _ => .no
theorem turnA_ok {elt : Mlg.E} {tg tg' : Tg} {it' : Mlg.It} {vs vs1 : List Nat} {d : D} {acc acc' : List D} {ρ ρ8 : Env} (h : turnA call elt tg tg' it' vs vs1 d acc ρ = .ok (acc', ρ8)) :
    ∃ ρ2 ds1 ρp ρ3 ρ7, putTg ρ tg d = some ρ2 ∧ Mlg.walk call it' ρ2 = .ok ((ds1, none), ρp) ∧ wipeE ρp vs1 = some ρ3 ∧ loopC (turnC call elt tg' .no vs1) ds1 acc ρ3 = .ok (acc', ρ7) ∧ wipeE ρ7 vs = some ρ8 := by
  unfold turnA at h
  cases e1 : putTg ρ tg d with
  | none => rw [e1] at h; cases h
  | some ρ2 =>
    rw [e1] at h
    dsimp only at h
    cases e2 : Mlg.walk call it' ρ2 with
    | no => rw [e2] at h; cases h
    | exc _ _ _ => rw [e2] at h; cases h
    | ok p =>
      rw [e2] at h
      obtain ⟨⟨ds1, lk⟩, ρp⟩ := p
      cases lk with
      | some j => cases h
      | none =>
        cases e3 : wipeE ρp vs1 with
        | none => simp only [rbind_ok', e3] at h; cases h
        | some ρ3 =>
          simp only [rbind_ok', e3] at h
          cases e4 : loopC (turnC call elt tg' .no vs1) ds1 acc ρ3 with
          | no => rw [e4] at h; cases h
          | exc _ _ _ => exact absurd e4 loopC_exc
          | ok q =>
            rw [e4] at h
            replace h : ((Res.of (wipeE q.2 vs)).bind fun ρ8 => Res.ok (q.1, ρ8)) = .ok (acc', ρ8) := h
            cases e5 : wipeE q.2 vs with
            | none => rw [e5] at h; cases h
            | some ρ9 => rw [e5] at h; cases h; exact ⟨ρ2, ds1, ρp, ρ3, q.2, rfl, e2, e3, e4, e5⟩
theorem lc2_ok {K : Frag} {W : WX} {elt : Mlg.E} {tg tg' : Tg} {it it' : Mlg.It} {vs vs1 : List Nat} {σ : St} {H : Hp} {Q : VK} (htg : ∀ j ∈ tgSlots tg, j ∈ vs) (htg1 : ∀ j ∈ tgSlots tg', j ∈ vs1) (hv : ∀ i ∈ vs1, i ∈ vs)
    (h : LE T K W (Mlg.eval call (.lc2 elt tg it tg' it' vs vs1)) σ H Q) : tLc2 (LW T K W (Mlg.walk call it)) (gTg K tg) (LB T K (fun _ _ _ _ => False) (Mlg.test call .no)) (LWf T K (fun _ _ _ _ => False) (Mlg.walk call it')) (gTg K tg') (LB T K (fun _ _ _ _ => False) (Mlg.test call .no)) (LE T K (fun _ _ _ _ => False) (Mlg.eval call elt)) vs vs1 σ H Q := by
  obtain ⟨ρ, F, S, h⟩ := h
  refine ⟨ρ, F, S, ?_⟩
  replace h : Out T K W ρ F σ H (relE K σ) ((Mlg.walk call it ρ).bind fun p => match wipeE p.2 vs with
      | none => .no
      | some ρ1 => (loopA (turnA call elt tg tg' it' vs vs1) p.1.1 [] ρ1).bind fun q => (Res.of (unlockE (backE p.2 vs q.2) p.1.2)).bind fun ρ' => .ok (.tmp (.lst q.1), ρ')) Q := by
    unfold Mlg.eval at h
    exact h
  cases ew : Mlg.walk call it ρ with
  | no => rw [ew] at h; exact h
  | exc _ _ _ => rw [ew] at h; exact h
  | ok p =>
    rw [ew] at h
    obtain ⟨⟨ds, lk⟩, ρp⟩ := p
    replace h : Out T K W ρ F σ H (relE K σ) (match wipeE ρp vs with
      | none => .no
      | some ρ1 => (loopA (turnA call elt tg tg' it' vs vs1) ds [] ρ1).bind fun q => (Res.of (unlockE (backE ρp vs q.2) lk)).bind fun ρ' => .ok (.tmp (.lst q.1), ρ')) Q := h
    intro J Fp H1 P stp Sp gs hP hlk D' hD
    cases e1 : wipeE ρp vs with
    | none => rw [e1] at h; exact h.elim
    | some ρ1 =>
      rw [e1] at h
      dsimp only at h
      obtain ⟨Sw, stw⟩ := wipe_ok Sp e1
      have hPw := gs.stays _ _ _ _ _ _ _ _ hP stw
      cases el : loopA (turnA call elt tg tg' it' vs vs1) ds [] ρ1 with
      | no => rw [el] at h; exact h.elim
      | exc _ _ _ => exact absurd el loopA_exc
      | ok q =>
        rw [el] at h
        let J2 : Nat → Hp → Prop := fun i Hi => ∃ ρi Fi acc accV, Sim K ρi Fi (wipe σ vs) Hi ∧ Step ρ1 (wipe σ vs) Fp H1 ρi (wipe σ vs) Fi Hi ∧ Hi D' = some (.lst accV) ∧ Reps K Fi accV acc ∧ Fi D' = none ∧ ¬ Own ρi (wipe σ vs) D' ∧
            loopA (turnA call elt tg tg' it' vs vs1) (ds.drop i) acc ρi = .ok q
        refine ⟨fun i m Hi => m = ds.length - i ∧ i ≤ ds.length ∧ J2 i Hi, ⟨ds.length, by simp, Nat.zero_le _, ρ1, Fp, [], [], ?_⟩, ?_⟩
        · have n := Sw.new hD
          exact ⟨Sw.laid hD, Step.laid hD, upd_same, .nil, n.1, n.2, by simpa using el⟩
        · rintro i m Hi ⟨rfl, hi, ρi, Fi, acc, accV, Si, sti, hDi, hacc, hFD, hnD, eq⟩
          have hPi := gs.stays _ _ _ _ _ _ _ _ hPw sti
          by_cases hlt : i < ds.length
          · refine .inr ⟨gs.go i ρi Fi _ Hi hlt hPi Si, J2 (i + 1), fun H' hN => ⟨ds.length - (i + 1), by omega, rfl, hlt, hN⟩, fun x H' y => ?_⟩
            have ed : ds[i]? = some ds[i] := List.getElem?_eq_getElem hlt
            obtain ⟨F', st', S', hx⟩ := gs.yld i _ ρi Fi _ Hi x H' ed hPi Si y
            rw [List.drop_eq_getElem_cons hlt] at eq
            unfold loopA at eq
            cases et : turnA call elt tg tg' it' vs vs1 ds[i] acc ρi with
            | no => rw [et] at eq; cases eq
            | exc _ _ _ => rw [et] at eq; cases eq
            | ok pr =>
              obtain ⟨acc', ρ8⟩ := pr
              rw [et] at eq
              replace eq : loopA (turnA call elt tg tg' it' vs vs1) (ds.drop (i + 1)) acc' ρ8 = .ok q := eq
              obtain ⟨ρ2, ds1, ρp1, ρ3, ρ7, t1, t2, t3, t4, t5⟩ := turnA_ok et
              refine tg_ok (fx := fun j => !vs.contains j) S' hx t1 (fun j hj => by simp [htg j hj]) fun σ2 S2 st2 _ ot => ?_
              have hw : wipe σ2 vs = wipe σ vs := wipe_same (by rw [← S2.len, putTg_len t1, S'.len, wipe_length]) fun j hj => ot j fun z => hj (htg j z)
              refine ⟨hw, ρ2, F', S2, ?_⟩
              intro b F3 H3 st3 S3 rb
              have rb : b = true := rb
              rw [rb, if_pos rfl]
              refine ⟨ρ2, F3, S3, ?_⟩
              rw [t2]
              intro J1 Fq H4 st4 S4 gs1
              obtain ⟨S5, st5⟩ := wipe_ok S4 t3
              have st05 := (((st'.trans st2).trans st3).trans st4).trans st5
              have d0 : Hi D' ≠ none := by rw [hDi]; exact fun z => by cases z
              have nt0 : NT Hi D' := fun vs e => by rw [hDi] at e; cases e
              have hD4 : H4 D' = some (.lst accV) := st05.keep D' _ hDi fun q => hnD q.own
              have hF5 : Fq D' = none := st05.frz D' hFD d0 (fun q => hnD q.own) nt0
              have hn5 : ¬ Own ρ3 (wipe σ2 vs1) D' := fun q => (st05.own D' q).elim hnD d0
              let J3 : Nat → Hp → Prop := fun j Hj => ∃ ρj Fj ac acV, Sim K ρj Fj (wipe σ2 vs1) Hj ∧ Step ρ1 (wipe σ vs) Fp H1 ρj (wipe σ2 vs1) Fj Hj ∧ Hj D' = some (.lst acV) ∧ Reps K Fj acV ac ∧ Fj D' = none ∧ ¬ Own ρj (wipe σ2 vs1) D' ∧
                  loopC (turnC call elt tg' .no vs1) (ds1.drop j) ac ρj = .ok (acc', ρ7)
              have hv1 : ∀ {σ3 : St} {ρa ρb : Env} {d : D}, σ3.length = (wipe σ2 vs1).length → (∀ j, j ∉ tgSlots tg' → σ3[j]? = (wipe σ2 vs1)[j]?) → wipe σ3 vs1 = wipe σ2 vs1 := by
                intro σ3 ρa ρb d hl ho
                refine wipe_same (by rw [hl, wipe_length]) fun j hj => ?_
                exact ho j fun z => hj (htg1 j z)
              refine ⟨fun j m Hj => m = ds1.length - j ∧ j ≤ ds1.length ∧ J3 j Hj, ⟨ds1.length, by simp, Nat.zero_le _, ρ3, Fq, acc, accV, S5, sti.trans st05, hD4, hacc.mono st05.ext, hF5, hn5, by simpa using t4⟩, ?_⟩
              rintro j m Hj ⟨rfl, hj, ρj, Fj, ac, acV, Sj, stj0, hDj, hacj, hFj, hnj, eqj⟩
              by_cases hlj : j < ds1.length
              · refine .inr ⟨gs1.go j ρj Fj _ Hj hlj trivial Sj, J3 (j + 1), fun H' hN => ⟨ds1.length - (j + 1), by omega, rfl, hlj, hN⟩, fun x1 H5 y1 => ?_⟩
                have ed1 : ds1[j]? = some ds1[j] := List.getElem?_eq_getElem hlj
                obtain ⟨F5, st6, S6, hx1⟩ := gs1.yld j _ ρj Fj _ Hj x1 H5 ed1 trivial Sj y1
                rw [List.drop_eq_getElem_cons hlj] at eqj
                unfold loopC at eqj
                cases et1 : turnC call elt tg' .no vs1 ds1[j] ρj with
                | no => rw [et1] at eqj; cases eqj
                | exc _ _ _ => rw [et1] at eqj; cases eqj
                | ok pr1 =>
                  obtain ⟨o, ρ9⟩ := pr1
                  obtain ⟨ρ10, t, u1, u2, u3⟩ := turnC_ok et1
                  refine tg_ok (fx := fun j => !vs1.contains j) S6 hx1 u1 (fun j hj => by simp [htg1 j hj]) fun σ3 S7 st7 _ ot1 => ?_
                  have hw1 : wipe σ3 vs1 = wipe σ2 vs1 := by
                    have := wipe_same (σ := wipe σ2 vs1) (σ2 := σ3) (vs := vs1) (by rw [← S7.len, putTg_len u1, S6.len]) fun j hj => by
                      rw [wipe_out hj]
                      exact ot1 j fun z => hj (htg1 j z)
                    rw [this]
                    exact wipe_wipe fun i hi => hi
                  refine ⟨hw1, ρ10, F5, S7, ?_⟩
                  rw [u2]
                  intro b F7 H7 st8 S8 rb
                  have rb : b = t.1 := rb
                  have d1 : Hj D' ≠ none := by rw [hDj]; exact fun z => by cases z
                  have ntj : NT Hj D' := fun vs e => by rw [hDj] at e; cases e
                  have st68 := (st6.trans st7).trans st8
                  rcases u3 with ⟨tb, r, xx, ρ4, e3, e4, e5, eo⟩ | ⟨tb, e5, eo⟩
                  · rw [rb, tb, if_pos rfl]
                    refine ⟨t.2, F7, S8, ?_⟩
                    rw [e3]
                    intro y F9 H9 st9 S9 ry
                    obtain ⟨Fa, sta, Sa, hy⟩ := fix_step st9 S9 ry e4
                    have st6a := st68.trans sta
                    have hD9 : H9 D' = some (.lst acV) := st6a.keep D' _ hDj fun q => hnj q.own
                    obtain ⟨Sb, stb⟩ := wipe_ok Sa e5
                    rw [hw1] at Sb stb
                    have st6b := st6a.trans stb
                    have hFb : Fa D' = none := st6b.frz D' hFj d1 (fun q => hnj q.own) ntj
                    have hnb : ¬ Own ρ9 (wipe σ2 vs1) D' := fun q => (st6b.own D' q).elim hnj d1
                    rw [et1, eo] at eqj
                    dsimp only at eqj
                    split at eqj
                    · rename_i cs
                      have h4D : H4 D' ≠ none := by rw [hD4]; exact fun z => by cases z
                      refine ⟨acV, hD9, ?_, ρ9, Fa, ac ++ [xx], acV ++ [y], Sb.touch hFb hnb, (stj0.trans st6b).touch hD, upd_same, (hacj.mono st6b.ext).append (.cons hy .nil), hFb, hnb, eqj⟩
                      rw [hacj.length]
                      exact Nat.lt_of_lt_of_le (of_decide_eq_true cs) lim_le
                    · cases eqj
                  · rw [rb, tb, if_neg Bool.false_ne_true]
                    obtain ⟨Sb, stb⟩ := wipe_ok S8 e5
                    rw [hw1] at Sb stb
                    have st6b := st68.trans stb
                    rw [et1, eo] at eqj
                    dsimp only at eqj
                    exact ⟨ρ9, F7, ac, acV, Sb, stj0.trans st6b, st6b.keep D' _ hDj (fun q => hnj q.own), hacj.mono st6b.ext, st6b.frz D' hFj d1 (fun q => hnj q.own) ntj, fun q => (st6b.own D' q).elim hnj d1, eqj⟩
              · have ej : j = ds1.length := by omega
                subst ej
                refine .inl ⟨gs1.stop ρj Fj _ Hj trivial Sj, ?_⟩
                rw [List.drop_length] at eqj
                cases eqj
                obtain ⟨Sb, stb⟩ := wipe_ok Sj t5
                rw [wipe_wipe hv, hw] at Sb stb
                exact ⟨ρ8, Fj, _, acV, Sb, stj0.trans stb, hDj, hacj, hFj, fun q => (stb.own D' q).elim hnj fun z => (by rw [hDj] at z; cases z), eq⟩
          · have ei : i = ds.length := by omega
            subst ei
            refine .inl ⟨gs.stop ρi Fi _ Hi hPi Si, ?_⟩
            rw [List.drop_length] at eq
            cases eq
            obtain ⟨Sb, stb, owb⟩ := back_ok Sp e1 (stw.trans sti) Si
            have h0 : H D' = none := stp.dom D' hD
            have hnb : ¬ Own (backE ρp vs ρi) σ D' := fun q => hnD (owb D' q)
            cases lk with
            | none => exact h (.ref D') Fi Hi (stp.trans stb) Sb ⟨D', rfl, hFD, ⟨accV, hDi, hacc⟩, hnb, h0⟩
            | some j =>
              obtain ⟨pp, hp1, hp2⟩ := hlk j rfl
              replace h : Out T K W ρ F σ H (relE K σ) ((Res.of (match (backE ρp vs ρi)[j]? with
                | some (.lck o) => some ((backE ρp vs ρi).set j (.own o))
                | _ => none)).bind fun ρ' => .ok (.tmp (.lst acc), ρ')) Q := h
              split at h
              · rename_i o eo
                obtain ⟨Su, stu⟩ := Sb.unlock (stp.trans stb) eo hp2 hp1
                refine h (.ref D') Fi Hi stu Su ⟨D', rfl, hFD, ⟨accV, hDi, hacc⟩, fun q => ?_, h0⟩
                obtain ⟨j', s', o', a1, a2, a3⟩ := q
                rcases isOwn_set (lt_of_get eo) a1 a2 with ⟨rfl, _⟩ | ⟨_, hj⟩
                · exact hnb ⟨_, _, o, eo, rfl, a3⟩
                · exact hnb ⟨j', s', o', hj, a2, a3⟩
              · exact h.elim
theorem lc2_parts {elt a : Mlg.E} {tg tg' : Tg} {it : Mlg.It} {vs vs1 : List Nat} (ii : PrI fnm T call k N it) (ia : PrE fnm T call k N a) (ie : PrE fnm T call k N elt) {X : Cx} {W : WX} {sc : Scope} {x t i t1 i1 : Expr} {scope : Scope} (C : Cok fnm T call k N X sc) (tk : Takes X W)
    (h : ((blkC N sc scope (ownOf N vs) && decide ((ownOf N vs).map (·.2) = vs) && plainX i && tgB N scope (fun j => !vs.contains j) tg t && enuB it tg && (mIt fnm N sc it i && true && mE fnm N (relS scope sc) elt x)) && (plainX i1 && tgB N scope (fun j => !vs1.contains j) tg' t1 && vs1.all (vs.contains ·) && mIt fnm N (relS scope sc) (.r1 a) i1)) = true) :
    (PI X t i (LW T X.K W (Mlg.walk call it)) ∧ BlkOk X.N X.env.scope scope (ownOf N vs) ∧ (ownOf N vs).map (·.2) = vs ∧ plainX i = true ∧ (∀ j ∈ tgSlots tg, j ∈ vs) ∧
    (∀ (s : Shared) (H : Hp) (Ca : Addr) (cl : List (Str × Addr)) (fp : List Addr), PG (X.blk s H scope (compEnvC scope cl Ca X.env) fp) t (gTg X.K tg)) ∧
    (∀ (s : Shared) (H : Hp) (Ca : Addr) (cl : List (Str × Addr)) (fp : List Addr), PTs (X.blk s H scope (compEnvC scope cl Ca X.env) fp) [] (LB T X.K (fun _ _ _ _ => False) (Mlg.test call .no))) ∧
    (∀ (s : Shared) (H : Hp) (Ca : Addr) (cl : List (Str × Addr)) (fp : List Addr), PE (X.blk s H scope (compEnvC scope cl Ca X.env) fp) x (LE T X.K (fun _ _ _ _ => False) (Mlg.eval call elt)))) ∧
    plainX i1 = true ∧ (∀ j ∈ tgSlots tg', j ∈ vs1) ∧ (∀ j ∈ vs1, j ∈ vs) ∧
    (∀ (s : Shared) (H : Hp) (Ca : Addr) (cl : List (Str × Addr)) (fp : List Addr), PG (X.blk s H scope (compEnvC scope cl Ca X.env) fp) t1 (gTg X.K tg')) ∧
    (∀ (s : Shared) (H : Hp) (Ca : Addr) (cl : List (Str × Addr)) (fp : List Addr), PI (X.blk s H scope (compEnvC scope cl Ca X.env) fp) t1 i1 (LWf T X.K (fun _ _ _ _ => False) (Mlg.walk call (.r1 a)))) := by
  obtain ⟨h, h'⟩ := and2 h
  obtain ⟨g1, g2, g3⟩ := and3 h'
  obtain ⟨gp, gt⟩ := and2 g1
  refine ⟨lc_parts ii c_no ie C tk (ifs := []) (by
    have e : mIf fnm N (relS scope sc) .no [] = true := by unfold mIf; rfl
    rw [e]; exact h), gp, fun j hj => ?_, fun j hj => ?_, fun s H Ca cl fp => ?_, fun s H Ca cl fp => i_r1f ia (C.blk s H scope cl Ca fp) takes0 g3⟩
  · have := tg_fx gt j hj
    simpa using this
  · have := List.all_eq_true.mp g2 j hj
    simpa using this
  · refine pg_tg C.hN C.nd (fun x hx => ?_) C.calm (fun x hx => ?_) gt
    · show Loc (relS scope X.env.scope) x
      exact (relS_loc hx).1
    · rcases (relS_loc (sc := X.env.scope) hx).2 with z | z
      · exact .inl z
      · exact .inr z
theorem e_lc2 {elt : Mlg.E} {tg tg' : Tg} {it it' : Mlg.It} {vs vs1 : List Nat} (ii : PrI fnm T call k N it) (ia : ∀ a, it' = .r1 a → PrE fnm T call k N a) (ie : PrE fnm T call k N elt) : PrE fnm T call k N (.lc2 elt tg it tg' it' vs vs1) := by
  intro X W sc x C tk h
  unfold mE at h
  try dsimp only at h
  split at h
  · rename_i x t i t1 i1 scope pos
    cases it' with
    | r1 a =>
      obtain ⟨⟨p1, p2, p3, p4, p5, p6, p7, p8⟩, q1, q2, q3, q4, q5⟩ := lc2_parts (a := a) (tg' := tg') (vs1 := vs1) (t1 := t1) (i1 := i1) ii (ia a rfl) ie C tk h
      refine PE.imp (pe_lc2 (vs1 := vs1) C.calm (by rw [C.hN]; exact C.nd) p1 p2 (by rw [p3]; exact q3) p6 p7 q5 q4 p7 p8 (fun x => plain_folded p4 x) (fun e x => plain_folded q1 x)) fun σ H Q q => ?_
      rw [p3]
      exact lc2_ok p5 q2 q3 q
    | _ => simp at h
  · cases h
end
end Msd
/-! SoundM: methods that change nothing. -/
namespace Msd
open PySem PySem.Spec PyProof.Rows L2 Mlg TL
section
variable {fnm : Nat → Option Str} {T : Errs} {call : CallT} {k : Nat} {N : List Str}
theorem Reps.texts {K : Frag} {F : Hp} : ∀ {vs : List V} {ds : List D} {xs : List Str}, Reps K F vs ds → Mlg.texts ds = some xs → vs = xs.map V.str
  | [], [], _, .nil, e => by cases e; rfl
  | v :: vs, d :: ds, xs, .cons h r, e => by
    cases d with
    | str b =>
      cases h
      have e : (Mlg.texts ds).map (b :: ·) = some xs := e
      cases q : Mlg.texts ds with
      | none => rw [q] at e; cases e
      | some js => rw [q] at e; cases e; rw [Reps.texts r q]; rfl
    | none => cases e
    | int _ => cases e
    | bool _ => cases e
    | list _ => cases e
    | tuple _ => cases e
    | dict _ => cases e
theorem str_ext {a b : Str} (h : a.cps.toList = b.cps.toList) : a = b := by
  obtain ⟨a⟩ := a
  obtain ⟨b⟩ := b
  have : a = b := by rw [← Array.toList_inj]; exact h
  rw [this]
theorem join_is (s : Str) : ∀ xs : List Str, (Str.join s xs).cps.toList = Mlg.joinL s.cps.toList xs
  | [] => rfl
  | [x] => rfl
  | x :: y :: r => by
    show (x.cps ++ s.cps ++ (Str.join s (y :: r)).cps).toList = x.cps.toList ++ s.cps.toList ++ Mlg.joinL s.cps.toList (y :: r)
    rw [Array.toList_append, Array.toList_append, join_is s (y :: r)]
theorem join_eq' (s : Str) (xs : List Str) : Txt.join s xs = ⟨(Mlg.joinL s.cps.toList xs).toArray⟩ := by
  rw [TL.join_eq]
  exact str_ext (by rw [join_is])
theorem spl_is (c : Nat) : ∀ (l acc : List Nat), spl [c] 0 acc l = match splitL c l with | w :: ws => (acc ++ w) :: ws | [] => [acc]
  | [], acc => by rw [spl_nil]; show [acc] = [acc ++ []]; rw [List.append_nil]
  | x :: r, acc => by
    by_cases h : x = c
    · subst h
      have hp : pre [x] (x :: r) = true := by unfold pre; simp
      rw [spl_hit hp]
      show acc :: spl [x] 0 [] r = _
      rw [spl_is x r []]
      have e0 : splitL x (x :: r) = [] :: splitL x r := by
        show (if x = x then [] :: splitL x r else _) = _
        rw [if_pos rfl]
      rw [e0]
      dsimp only
      rw [List.append_nil]
      congr 1
      cases e : splitL x r with
      | nil =>
        cases r with
        | nil => cases e
        | cons y r' =>
          exfalso
          unfold splitL at e
          split at e
          · cases e
          · split at e <;> cases e
      | cons w ws => simp
    · have hp : pre [c] (x :: r) = false := by unfold pre; simp [h]
      rw [spl_miss hp, spl_is c r (acc ++ [x])]
      have e0 : splitL c (x :: r) = match splitL c r with | w :: ws => (x :: w) :: ws | [] => [[x]] := by
        exact (if_neg h).trans rfl
      rw [e0]
      cases e : splitL c r with
      | nil => simp
      | cons w ws => simp
theorem split_is {s : Str} {c : Nat} (x : Str) (hs : s.cps.toList = [c]) (hc : c < 256) : Txt.split x s = (splitL c x.cps.toList).map fun w => ⟨w.toArray⟩ := by
  have ha : s.cps.all (· < 256) = true := by
    rw [← Array.all_toList, hs]
    simp [hc]
  have h1 := split_spl x s (by show s.cps.toList ≠ []; rw [hs]; simp) (kind_ok ha)
  have h2 : spl s.cps.toList 0 [] x.cps.toList = splitL c x.cps.toList := by
    rw [hs, spl_is]
    cases e : splitL c x.cps.toList with
    | nil =>
      cases hx : x.cps.toList with
      | nil => rw [hx] at e; cases e
      | cons y r' =>
        exfalso
        rw [hx] at e
        unfold splitL at e
        split at e
        · cases e
        · split at e <;> cases e
    | cons w ws => simp
  have h3 : (Txt.split x s).map (fun z : Str => z.cps.toList) = splitL c x.cps.toList := h1.trans h2
  rw [← h3, List.map_map]
  conv => lhs; rw [← List.map_id (Txt.split x s)]
  congr 1
theorem reps_strs {K : Frag} {F : Hp} (l : List (List Nat)) : Reps K F ((l.map fun w => (⟨w.toArray⟩ : Str)).map V.str) (l.map fun w => PyData.str ⟨w.toArray⟩) := by
  induction l with
  | nil => exact .nil
  | cons w l ih => exact .cons (.str _) ih
def kM1 (f : M1) (r1 r2 : R) (ρ : Env) : Res (R × Env) := match look ρ r1, look ρ r2 with
  | some x, some y => (Res.of (m1 f x y)).bind fun r => .ok (r, ρ)
  | _, _ => .no
theorem kM1_ok {K : Frag} {W : WX} {f : M1} {ρ : Env} {F H H0 : Hp} {σ : St} {Q : VK} {r1 r2 : R} {v w : V} (S : Sim K ρ F σ H) (rl1 : RelR K H0 σ ρ F H v r1) (rl2 : RelR K H0 σ ρ F H w r2) (h : Out T K W ρ F σ H (relE K σ) (kM1 f r1 r2 ρ) Q) :
    ∃ d e r', View K F H v d ∧ View K F H w e ∧ m1 f d e = some r' ∧ Out T K W ρ F σ H (relE K σ) (.ok (r', ρ)) Q := by
  unfold kM1 at h
  cases e1 : look ρ r1 with
  | none => rw [e1] at h; exact h.elim
  | some d =>
    cases e2 : look ρ r2 with
    | none => rw [e1, e2] at h; exact h.elim
    | some e =>
      rw [e1, e2] at h
      obtain ⟨r', er, h⟩ := out_of h
      exact ⟨d, e, r', look_ok S rl1 e1, look_ok S rl2 e2, er, h⟩
theorem e_m1 (f : M1) {a b : Mlg.E} (ia : PrE fnm T call k N a) (ib : PrE fnm T call k N b) : PrE fnm T call k N (.m1 f a b) := by
  intro X W sc x C tk h
  unfold mE at h
  try dsimp only at h
  split at h
  · rename_i o m p y q
    obtain ⟨h1, hp, h2⟩ := and3 h
    obtain ⟨hm, hl, ho⟩ := and3 h1
    obtain ⟨hi, hm⟩ := and2 hm
    obtain ⟨h2, h3⟩ := and2 h2
    have em : m = m1nm f := of_decide_eq_true hm
    subst em
    have po := ia X W sc o C tk h2
    have pb := ib X W sc y C tk h3
    have pa : PA X [y] (tCons (LE T X.K W (Mlg.eval call b)) tNil) := pa_cons pb pa_nil (starEach_plain hp)
    have hst : starEach [y] X.env = [(false, PySem.eval y X.env)] := starEach_plain hp
    cases f with
    | index => cases hi
    | count =>
      refine PE.imp (pe_bm PySem.F.plainAttrs_list PySem.F.slot_list_count PySem.F.type_list_count mt_lcount po pa (atr_base ho) (few_one hp) hl (starEach_plain hp) (by rfl)) fun σ H Q q => ?_
      obtain ⟨ρ, F, S, q⟩ := q
      unfold Mlg.eval at q
      refine ⟨ρ, F, S, Out.bind back_E q fun r1 ρ1 v F1 H1 s1 S1 rl1 h1 => ?_⟩
      dsimp only at h1
      split at h1
      · rename_i cm
        cases e1 : look ρ1 r1 with
        | none => rw [e1] at cm; cases cm
        | some d =>
          rw [e1] at cm
          cases d <;> first | (cases cm; done) | skip
          obtain ⟨a1, vs1, rfl, g1, g2⟩ := (look_ok S1 rl1 e1).list S1.fh
          refine ⟨.inl ⟨rfl, vs1, g1⟩, ρ1, F1, S1, Out.bind (k := fun q => kM1 .count r1 q.1 q.2) back_E h1 fun r2 ρ2 w F2 H2 s2 S2 rl2 h2 => ?_⟩
          obtain ⟨d, e, r', hv, hw, er, h⟩ := kM1_ok S2 (rl1.step S1 S2 s2) (back_E _ _ _ _ _ _ _ s1.dom rl2) h2
          cases d <;> first | (cases er; done) | skip
          cases e <;> first | (cases er; done) | skip
          rename_i ds i
          replace er : (Mlg.intsD ds).map (fun is => R.val (.int (is.count i : Nat))) = some r' := er
          cases qi : Mlg.intsD ds with
          | none => rw [qi] at er; cases er
          | some is =>
            rw [qi] at er
            cases er
            obtain ⟨a2, vs2, ea, k1, k2⟩ := hv.list S2.fh
            cases ea
            obtain ⟨k3, _⟩ := k2.ints qi
            subst k3
            exact ⟨_, is, i, rfl, by rw [hw.int], k1, out_val S2 h (.int _)⟩
      · exact h1.elim
    | join =>
      refine PE.imp (pe_join po pb hst (atr_base ho) hl) fun σ H Q q => ?_
      obtain ⟨ρ, F, S, q⟩ := q
      unfold Mlg.eval at q
      refine ⟨ρ, F, S, Out.bind back_E q fun r1 ρ1 v F1 H1 s1 S1 rl1 h1 => ?_⟩
      dsimp only at h1
      split at h1
      · rename_i cm
        cases e1 : look ρ1 r1 with
        | none => rw [e1] at cm; cases cm
        | some d =>
          rw [e1] at cm
          cases d <;> first | (cases cm; done) | skip
          have g1 := (look_ok S1 rl1 e1).str
          refine ⟨⟨_, g1⟩, ρ1, F1, S1, Out.bind (k := fun q => kM1 .join r1 q.1 q.2) back_E h1 fun r2 ρ2 w F2 H2 s2 S2 rl2 h2 => ?_⟩
          obtain ⟨d, e, r', hv, hw, er, h⟩ := kM1_ok S2 (rl1.step S1 S2 s2) (back_E _ _ _ _ _ _ _ s1.dom rl2) h2
          cases d <;> first | (cases er; done) | skip
          cases e <;> first | (cases er; done) | skip
          rename_i z ds
          replace er : (Mlg.texts ds).bind (fun xs => if (xs.map (·.cps.size)).sum + xs.length * z.cps.size < lim then some (R.val (.str ⟨(Mlg.joinL z.cps.toList xs).toArray⟩)) else none) = some r' := er
          cases qi : Mlg.texts ds with
          | none => rw [qi] at er; cases er
          | some xs =>
            rw [qi] at er
            replace er : (if (xs.map (·.cps.size)).sum + xs.length * z.cps.size < lim then some (R.val (.str ⟨(Mlg.joinL z.cps.toList xs).toArray⟩)) else none) = some r' := er
            split at er
            · rename_i cl
              cases er
              obtain ⟨a2, vs2, ea, k1, k2⟩ := hw.list S2.fh
              subst ea
              have k3 := k2.texts qi
              subst k3
              refine ⟨z, a2, xs, hv.str, rfl, .inl k1, ?_, ?_⟩
              · have : lim ≤ 16777216 := by decide
                exact Nat.le_trans (Nat.le_of_lt cl) this
              · rw [join_eq']
                exact out_val S2 h (.str _)
            · cases er
      · exact h1.elim
    | split =>
      refine PE.imp (pe_split po pb hst (atr_base ho) hl) fun σ H Q q => ?_
      obtain ⟨ρ, F, S, q⟩ := q
      unfold Mlg.eval at q
      refine ⟨ρ, F, S, Out.bind back_E q fun r1 ρ1 v F1 H1 s1 S1 rl1 h1 => ?_⟩
      dsimp only at h1
      split at h1
      · rename_i cm
        cases e1 : look ρ1 r1 with
        | none => rw [e1] at cm; cases cm
        | some d =>
          rw [e1] at cm
          cases d <;> first | (cases cm; done) | skip
          have g1 := (look_ok S1 rl1 e1).str
          refine ⟨⟨_, g1⟩, ρ1, F1, S1, Out.bind (k := fun q => kM1 .split r1 q.1 q.2) back_E h1 fun r2 ρ2 w F2 H2 s2 S2 rl2 h2 => ?_⟩
          obtain ⟨d, e, r', hv, hw, er, h⟩ := kM1_ok S2 (rl1.step S1 S2 s2) (back_E _ _ _ _ _ _ _ s1.dom rl2) h2
          cases d <;> first | (cases er; done) | skip
          cases e <;> first | (cases er; done) | skip
          rename_i z y
          replace er : (match y.cps.toList with | [c] => if c < 256 ∧ z.cps.size < lim then some (R.tmp (.lst ((splitL c z.cps.toList).map fun w => .str ⟨w.toArray⟩))) else none | _ => none) = some r' := er
          split at er
          · rename_i c ec
            split at er
            · rename_i cl
              cases er
              refine ⟨z, y, hv.str, by rw [hw.str], ?_, ?_, ?_⟩
              · have : y.length = 1 := by show y.cps.size = 1; rw [← Array.length_toList, ec]; rfl
                rw [this]; rfl
              · have h1 : lim + 1 ≤ sizeLine := by decide
                have h2 : z.length < lim := cl.2
                omega
              · intro p hp
                rw [split_is z ec cl.1]
                exact out_lst S2 h (reps_strs _) hp
            · cases er
          · cases er
      · exact h1.elim
  · cases h
end
end Msd
/-! Sound16: all expressions. -/
namespace Msd
open PySem PySem.Spec PyProof.Rows L2 Mlg
section
variable {fnm : Nat → Option Str} {T : Errs} {call : CallT} {k : Nat} {N : List Str}
theorem noE {e : Mlg.E} (h : ∀ sc x, mE fnm N sc e x = false) : PrE fnm T call k N e := fun X W sc x C tk h' => by rw [h] at h'; cases h'
theorem noT {e : Mlg.E} (h : tstB e = false) : PrT fnm T call k N e := fun X W sc x C tk ht h' => by rw [h] at ht; cases ht
theorem noW {e : Mlg.E} (h : ∀ sc op xs p, mE fnm N sc e (.BoolOp op xs p) = false) : PrW fnm T call k N e := fun X W sc op xs p C tk h' => by rw [h] at h'; cases h'
theorem t_var (i : Nat) : PrT fnm T call k N (.var i) := by
  intro X W sc x C tk ht h
  have hx := e_var (T := T) (call := call) (k := k) i X W sc x C tk h
  unfold mE at h
  cases x <;> first | (cases h; done) | skip
  exact pt_of hx (by intro _; rfl)
theorem e_rev {a : Mlg.E} (ia : PrE fnm T call k N a) : PrE fnm T call k N (.rev a) := by
  intro X W sc x C tk h
  unfold mE at h
  try dsimp only at h
  split at h
  · rename_i x kk p1 p2 p3 pos
    refine PE.imp (pe_revB (ia X W sc x C tk h)) fun σ H Q q => ?_
    obtain ⟨ρ, F, S, q⟩ := q
    refine ⟨ρ, F, S, Out.bind back_E q fun r1 ρ1 v F1 H1 s1 S1 rl1 h1 => ?_⟩
    try dsimp only at h1
    cases e1 : look ρ1 r1 with
    | none => rw [e1] at h1; exact h1.elim
    | some d =>
      rw [e1] at h1
      obtain ⟨r, er, h⟩ := out_of h1
      have hv := look_ok S1 rl1 e1
      cases d <;> first | (cases er; done) | skip
      · cases er
        obtain ⟨a, vs, rfl, h4, h5⟩ := hv.list S1.fh
        exact ⟨a, vs, rfl, .inl ⟨h4, fun p hp => out_lst S1 h h5.reverse hp⟩⟩
      · cases er
        obtain ⟨a, vs, rfl, h4, _, h5⟩ := hv.tuple S1.fh
        exact ⟨a, vs, rfl, .inr ⟨SqT.of h4, fun p hp => out_tup S1 h h5.reverse hp⟩⟩
  · cases h
mutual
theorem allE : ∀ e : Mlg.E, PrE fnm T call k N e ∧ PrT fnm T call k N e ∧ PrW fnm T call k N e
  | .var i => ⟨e_var i, t_var i, noW fun _ _ _ _ => by unfold mE; rfl⟩
  | .cst d => ⟨e_cst d, noT rfl, noW fun _ _ _ _ => by unfold mE; rfl⟩
  | .glo g d => ⟨e_glo g d, noT rfl, noW fun _ _ _ _ => by unfold mE; rfl⟩
  | .bin o a b => ⟨e_bin o (allE a).1 (allE b).1, noT rfl, noW fun _ _ _ _ => by unfold mE; rfl⟩
  | .neg a => ⟨e_neg (allE a).1, noT rfl, noW fun _ _ _ _ => by unfold mE; rfl⟩
  | .cmp o a b => ⟨(e_cmp o (allE a).1 (allE b).1).1, (e_cmp o (allE a).1 (allE b).1).2, noW fun _ _ _ _ => by unfold mE; rfl⟩
  | .chn o o2 a b c => ⟨(e_chn o o2 (allE a).1 (allE b).1 (allE c).1).1, (e_chn o o2 (allE a).1 (allE b).1 (allE c).1).2, noW fun _ _ _ _ => by unfold mE; rfl⟩
  | .isN a => ⟨(e_isN (allE a).1).1, (e_isN (allE a).1).2, noW fun _ _ _ _ => by unfold mE; rfl⟩
  | .ntN a => ⟨(e_ntN (allE a).1).1, (e_ntN (allE a).1).2, noW fun _ _ _ _ => by unfold mE; rfl⟩
  | .and a b => e_and (allE a).1 (allE a).2.1 (allE b).1 (allE b).2.1 (allE b).2.2
  | .or a b => e_or (allE a).1 (allE a).2.1 (allE b).1 (allE b).2.1 (allE b).2.2
  | .not a => ⟨(e_not (allE a).1 (allE a).2.1).1, (e_not (allE a).1 (allE a).2.1).2, noW fun _ _ _ _ => by unfold mE; rfl⟩
  | .ite c a b => ⟨e_ite (allE c).2.1 (allE a).1 (allE b).1, noT rfl, noW fun _ _ _ _ => by unfold mE; rfl⟩
  | .call f as => ⟨(e_call f (allS as).2).1, (e_call f (allS as).2).2, noW fun _ _ _ _ => by unfold mE; rfl⟩
  | .er0 c => ⟨e_er0 c, noT rfl, noW fun _ _ _ _ => by unfold mE; rfl⟩
  | .er1 c a => ⟨e_er1 c (allE a).1, noT rfl, noW fun _ _ _ _ => by unfold mE; rfl⟩
  | .isE c a => ⟨(e_isE c (allE a).1).1, (e_isE c (allE a).1).2, noW fun _ _ _ _ => by unfold mE; rfl⟩
  | .xfd i f => ⟨e_xfd i f, noT rfl, noW fun _ _ _ _ => by unfold mE; rfl⟩
  | .isB neg b a => ⟨(e_isB neg b (allE a).1).1, (e_isB neg b (allE a).1).2, noW fun _ _ _ _ => by unfold mE; rfl⟩
  | .fld i f => ⟨e_fld i f, noT rfl, noW fun _ _ _ _ => by unfold mE; rfl⟩
  | .lno i => ⟨e_lno i, noT rfl, noW fun _ _ _ _ => by unfold mE; rfl⟩
  | .mth f i as => ⟨(e_mth f i (allS as).2).1, (e_mth f i (allS as).2).2, noW fun _ _ _ _ => by unfold mE; rfl⟩
  | .mk f as => ⟨e_mk f (allS as).2, noT rfl, noW fun _ _ _ _ => by unfold mE; rfl⟩
  | .b1 f a => ⟨(e_b1 f (allE a).1).1, (e_b1 f (allE a).1).2, noW fun _ _ _ _ => by unfold mE; rfl⟩
  | .b2 f a b => ⟨e_b2 f (allE a).1 (allE b).1, noT rfl, noW fun _ _ _ _ => by unfold mE; rfl⟩
  | .m1 f a b => ⟨e_m1 f (allE a).1 (allE b).1, noT rfl, noW fun _ _ _ _ => by unfold mE; rfl⟩
  | .ix a i => ⟨(e_ix (allE a).1 (allE i).1).1, (e_ix (allE a).1 (allE i).1).2, noW fun _ _ _ _ => by unfold mE; rfl⟩
  | .sl a lo hi => ⟨e_sl (allE a).1 (allO lo).1 (allO hi).1, noT rfl, noW fun _ _ _ _ => by unfold mE; rfl⟩
  | .rev a => ⟨e_rev (allE a).1, noT rfl, noW fun _ _ _ _ => by unfold mE; rfl⟩
  | .tup es => ⟨e_tup (allS es).1, noT rfl, noW fun _ _ _ _ => by unfold mE; rfl⟩
  | .lst es => ⟨e_lst (allS es).1, noT rfl, noW fun _ _ _ _ => by unfold mE; rfl⟩
  | .dnew t => ⟨e_dnew t, noT rfl, noW fun _ _ _ _ => by unfold mE; rfl⟩
  | .dsp a b => ⟨e_dsp (allE a).1 (allE b).1, noT rfl, noW fun _ _ _ _ => by unfold mE; rfl⟩
  | .din neg a i => ⟨(e_din neg i (allE a).1).1, (e_din neg i (allE a).1).2, noW fun _ _ _ _ => by unfold mE; rfl⟩
  | .dvals i => ⟨e_dvals i, noT rfl, noW fun _ _ _ _ => by unfold mE; rfl⟩
  | .rg1 l a => ⟨e_rg1 l (allE a).1, noT rfl, noW fun _ _ _ _ => by unfold mE; rfl⟩
  | .rg2 l a b => ⟨e_rg2 l (allE a).1 (allE b).1, noT rfl, noW fun _ _ _ _ => by unfold mE; rfl⟩
  | .lc elt tg it c vs => ⟨e_lc (allJ it).1 (allO c).2.1 (allE elt).1, noT rfl, noW fun _ _ _ _ => by unfold mE; rfl⟩
  | .lc2 elt tg it tg' it' vs vs1 => ⟨e_lc2 (allJ it).1 (allJ it').2 (allE elt).1, noT rfl, noW fun _ _ _ _ => by unfold mE; rfl⟩
  | .dc a b tg it c vs => ⟨e_dc (allJ it).1 (allO c).2.1 (allE a).1 (allE b).1, noT rfl, noW fun _ _ _ _ => by unfold mE; rfl⟩
  | .app i a => ⟨e_app i (allE a).1, noT rfl, noW fun _ _ _ _ => by unfold mE; rfl⟩
  | .pop i a => ⟨e_pop i (allO a).2.2, noT rfl, noW fun _ _ _ _ => by unfold mE; rfl⟩
  | .get i a d => ⟨noE fun _ _ => by unfold mE; rfl, noT rfl, noW fun _ _ _ _ => by unfold mE; rfl⟩
theorem allS : ∀ es : Mlg.Es, PrV fnm T call k N es ∧ PrA fnm T call k N es
  | .nil => ⟨v_nil, a_nil⟩
  | .cons e es => ⟨v_cons (allE e).1 (allS es).1, a_cons (allE e).1 (allS es).2⟩
  | .star e es => ⟨v_star (allE e).1 (allS es).1, a_star⟩
theorem allO : ∀ o : Mlg.Eo, PrO fnm T call k N o ∧ PrC fnm T call k N o ∧ ∀ e, o = .so e → PrE fnm T call k N e
  | .no => ⟨o_no, c_no, fun e h => by cases h⟩
  | .so e => ⟨o_so (allE e).1, c_so (allE e).2.1, fun e' h => by cases h; exact (allE e).1⟩
theorem allJ : ∀ it : Mlg.It, PrI fnm T call k N it ∧ ∀ a, it = .r1 a → PrE fnm T call k N a
  | .r1 a => ⟨i_r1 (allE a).1, fun b h => by cases h; exact (allE a).1⟩
  | .r2 a b => ⟨i_r2 (allE a).1 (allE b).1, fun _ h => by cases h⟩
  | .r3 a b c => ⟨i_r3 (allE a).1 (allE b).1 (allE c).1, fun _ h => by cases h⟩
  | .envar i => ⟨i_envar i, fun _ h => by cases h⟩
  | .enu a => ⟨i_enu (allE a).1, fun _ h => by cases h⟩
  | .var i => ⟨i_var i, fun _ h => by cases h⟩
  | .val a => ⟨i_val (allE a).1, fun _ h => by cases h⟩
end
theorem allI (it : Mlg.It) : PrI fnm T call k N it := (allJ it).1
end
end Msd
/-! Sound17: statements. -/
namespace Msd
open PySem PySem.Spec PyProof.Rows L2 Mlg
/-! ### a term tells a text: statements -/
def fxAnd (fx : Nat → Bool) (lk : Mlg.It) : Nat → Bool := match lk with
  | .var j => fun i => fx i || decide (i = j)
  | .envar j => fun i => fx i || decide (i = j)
  | _ => fx
/-- the value of a plain store is no comprehension that is stored within -/
def swB (sc : Scope) (y : Str) (py : Pos) : Expr → Bool
  | .ListComp _ _ scope p => decide (sc.names.lookup y = some .local) && (py.line == p.line) && !(scope.names.any fun (n, k) => n == y && (k == .local || k == .cell))
  | .DictComp _ _ _ scope p => decide (sc.names.lookup y = some .local) && (py.line == p.line) && !(scope.names.any fun (n, k) => n == y && (k == .local || k == .cell))
  | _ => false
def compB : Expr → Bool
  | .ListComp _ _ _ _ => true
  | .SetComp _ _ _ _ => true
  | .DictComp _ _ _ _ _ => true
  | _ => false
def cellB (sc : Scope) (y : Str) : Bool := decide (sc.names.lookup y = some .cell)
def starB : Expr → Bool
  | .Starred _ _ => true
  | _ => false
def swNames (sc : Scope) (ts : List Expr) : List Str :=
  ts.filterMap fun
    | .Name id pos => if sc.names.lookup id == some .local && pos.line == (ts.head?.map (·.pos.line)).getD 0 then some id else none
    | _ => none
def isLoc (sc : Scope) (line : Nat) : Expr → Bool
  | .Name x p => (sc.names.lookup x == some .local) && (p.line == line)
  | _ => false
/-- .. the stores exchanged -/
def parB (sc : Scope) (is : List Nat) (ts vs : List Expr) : Bool :=
  (is.length == 2 || is.length == 3) && decide (is.Nodup) && decide (vs.length = is.length) && ts.all (isLoc sc ((ts.head?.map (·.pos.line)).getD 0)) && decide ((swNames sc ts).eraseDups.length = is.length) && !(vs.all (foldedForSure 8)) && !(vs.all (constantsAlone 8))
/-- .. a plain tuple taken apart -/
def tupB (sc : Scope) (ts vs : List Expr) : Bool :=
  (!(ts.length == 2 || ts.length == 3) || vs.length != ts.length) || ((swNames sc ts).length != ts.length || (swNames sc ts).eraseDups.length != (swNames sc ts).length) || vs.all (foldedForSure 8)
/-- the name of the error and its field -/
def enB (N : List Str) (sc : Scope) (en : Option (Nat × Nat)) (e : Nat) (n f : Str) : Bool := match en with
  | none => false
  | some (e', c) => (e' == e) && decide (N[e]? = some n) && visB sc n && nameB n && decide (fldOf c = some f)
/-- an except suite -/
def mU (N : List Str) (sc : Scope) (fx : Nat → Bool) (en : Option (Nat × Nat)) : U → List Stmt → Bool
  | .set i d, [.Assign [.Name y _] (.Constant c _ _) _] => decide (N[i]? = some y) && locB sc y && nameB y && !fx i && cstB d c
  | .inc i n, [.Assign [.Name y _] (.BinOp (.Name y' _) .Add (.Constant c _ _) _) _] => decide (N[i]? = some y) && locB sc y && nameB y && !fx i && (decide (y' = y) && cstB (.int n) c)
  | .app i d, [.Expr (.Call (.Attribute (.Name y _) m p) [.Constant c _ _] [] q) _] => decide (m = ("append" : Str)) && decide (N[i]? = some y) && visB sc y && nameB y && (p.endLine == q.line) && cstB d c
  | .setF i w e, [.Assign [.Name y _] (.Tuple [.Constant c _ _, .Attribute (.Name n _) f _] _ _) _] => decide (N[i]? = some y) && locB sc y && nameB y && !fx i && (cstB w c && enB N sc en e n f)
  | .appF i e, [.Expr (.Call (.Attribute (.Name y _) m p) [.Attribute (.Name n _) f _] [] q) _] => decide (m = ("append" : Str)) && decide (N[i]? = some y) && visB sc y && nameB y && (p.endLine == q.line) && enB N sc en e n f
  | _, _ => false
def mHs (ern : Nat → Option Str) (N : List Str) (sc : Scope) (fx : Nat → Bool) : List (Nat × Option Nat × U) → List ExceptHandler → Bool
  | [], [] => true
  | (c, none, u) :: hs, .ExceptHandler (some (.Name y _)) none (b0 :: su) _ :: hds => decide (ern c = some y) && gloB sc y && nameB y && mU N sc fx none u (b0 :: su) && mHs ern N sc fx hs hds
  | (c, some e, u) :: hs, .ExceptHandler (some (.Name y _)) (some n) (b0 :: su) _ :: hds => decide (ern c = some y) && gloB sc y && nameB y && (decide (N[e]? = some n) && decide (sc.names.lookup n = some .local) && !fx e) && mU N sc fx (some (e, c)) u (b0 :: su) && mHs ern N sc fx hs hds
  | _, _ => false
section
variable (fnm ern : Nat → Option Str) (N : List Str) (sc : Scope)
mutual
def mS (fx : Nat → Bool) : Mlg.S → Stmt → Bool
  | .asg i e, x => match x with
    | .Assign [.Name y py] v pos => decide (N[i]? = some y) && locB sc y && nameB y && !fx i && !(compB v && !(swB sc y py v || cellB sc y)) && mE fnm N sc e v
    | _ => false
  | .par is es, x => match x with
    | .Assign [.Tuple ts j p] (.Tuple vs _ _) pos => tgB N sc fx (.tup is) (.Tuple ts j p) && (parB sc is ts vs || (decide (is.length ≤ 8) && tupB sc ts vs)) && (nst es && mEs fnm N sc es vs)
    | _ => false
  | .unp is e, x => match x with
    | .Assign [.Tuple ts k p] v pos => tgB N sc fx (.tup is) (.Tuple ts k p) && plainX v && (match v with | .Tuple _ _ _ => false | _ => true) && mE fnm N sc e v
    | _ => false
  | .sub i ix e, x => match x with
    | .Assign [.Subscript (.Name y _) z _] v pos => decide (N[i]? = some y) && visB sc y && nameB y && plainX z && !compB v && (mE fnm N sc ix z && mE fnm N sc e v)
    | _ => false
  | .swp i a b c d, x => match x with
    | .Assign [.Tuple [.Subscript (.Name y _) za _, .Subscript (.Name y' _) zb _] _ _] (.Tuple [u, v] _ _) pos => decide (N[i]? = some y) && visB sc y && nameB y && (decide (y' = y) && plainX za && plainX zb) && (plainX u && plainX v) && (mE fnm N sc a za && mE fnm N sc b zb && (mE fnm N sc (.ix (.var i) c) u && mE fnm N sc (.ix (.var i) d) v))
    | _ => false
  | .aug i o e, x => match x with
    | .AugAssign (.Name y _) op v pos => decide (N[i]? = some y) && locB sc y && nameB y && !fx i && (decide (o = .add) || decide (o = .sub)) && decide (op = opOf o) && mE fnm N sc e v
    | _ => false
  | .sfld i f e, x => match x with
    | .Assign [.Attribute (.Name y _) g _] v pos => decide (fnm 300000 = some ("Deck" : Str)) && (decide (N[i]? = some y) && visB sc y && nameB y) && (decide (g = f) && fldNames.contains f && !compB v) && mE fnm N sc e v
    | _ => false
  | .exp e, x => match x with
    | .Expr v pos => !compB v && mE fnm N sc e v
    | _ => false
  | .ret e, x => match x with
    | .Return (some v) _ => mE fnm N sc e v
    | _ => false
  | .cond c a b, x => match x with
    | .If c' a' b' _ => tstB c && (mE fnm N sc c c' && mSs fx a a' && mSs fx b b')
    | _ => false
  | .loop tg it b, x => match x with
    | .For t i b' [] _ => tgB N sc (fxAnd fx it) tg t && enuB it tg && plainX i && (mIt fnm N sc it i && mSs (fxAnd fx it) b b')
    | _ => false
  | .whil c b, x => match x with
    | .While c' b' [] _ => tstB c && (mE fnm N sc c c' && mSs fx b b')
    | _ => false
  | .rais c e, x => match e, x with
    | .no, .Raise (some (.Call (.Name y _) [] [] _)) none _ => decide (ern c = some y) && gloB sc y && nameB y && !(c == 7 || c == 13)
    | .so e, .Raise (some (.Call (.Name y _) [v] [] _)) none _ => decide (ern c = some y) && gloB sc y && nameB y && (c == 7 || c == 13) && plainX v && mE fnm N sc e v
    | _, _ => false
  | .tri b hs, x => match x with
    | .Try body (h0 :: hds) [] [] _ => mHs ern N sc fx hs (h0 :: hds) && mSs fx b body
    | _ => false
  | .stuck, _ => true
  | .pass, x => match x with
    | .Pass _ => true
    | _ => false
def mSs (fx : Nat → Bool) : Mlg.Ss → List Stmt → Bool
  | .nil, x => match x with
    | [] => true
    | _ => false
  | .cons s r, x => match x with
    | x :: xs => mS fx s x && mSs fx r xs
    | _ => false
end
end
/-- the context of statements -/
structure Sok (fnm : Nat → Option Str) (T : Errs) (call : CallT) (k : Nat) (N : List Str) (X : Cx) (sc : Scope) : Prop extends Cok fnm T call k N X sc where
  kind : sc.kind = .function
  fn : ∀ x, X.fn x = true
  stk : X.stack = X.env :: X.outer
  frm : X.env.frame = some X.env.locals
  po : PassesOwn (model X.prog X.w) X.A X.env X.xe
theorem PS.imp {X : Cx} {x : Stmt} {t t' : TS} (h : PS X x t) (i : ∀ D σ H, t' D σ H → t D σ H) : PS X x t' := ⟨fun pins s σ H D I q => h.run pins s σ H D I (i D σ H q)⟩
theorem PSs.imp {X : Cx} {x : List Stmt} {t t' : TS} (h : PSs X x t) (i : ∀ D σ H, t' D σ H → t D σ H) : PSs X x t' := ⟨fun pins s σ H D I q => h.run pins s σ H D I (i D σ H q)⟩
def OutS (T : Errs) (K : Frag) (W : WX) (fx : Nat → Bool) (ρ : Env) (F : Hp) (σ : St) (H : Hp) (res : Res (Env × Option R)) (D : Ends) : Prop := match res with
  | .ok (ρ', none) => ∀ σ' F' H', Step ρ σ F H ρ' σ' F' H' → Sim K ρ' F' σ' H' → Fx fx σ σ' → D.nx σ' H'
  | .ok (ρ', some r) => ∀ v σ' F' H', Step ρ σ F H ρ' σ' F' H' → Sim K ρ' F' σ' H' → Fx fx σ σ' → RetR K ρ σ H ρ' F' σ' H' v r → D.rt v H'
  | .exc c f ρ' => ∀ σ' F' H' cls d, Step ρ σ F H ρ' σ' F' H' → Sim K ρ' F' σ' H' → Fx fx σ σ' → ExcR T K F' H' c f cls d → W cls d σ' H'
  | .no => False
section
variable {T : Errs} {K : Frag} {W : WX} {fx : Nat → Bool} {ρ ρ1 : Env} {F H F1 H1 : Hp} {σ σ1 : St} {D : Ends}
theorem OutS.rebase {res : Res (Env × Option R)} (st : Step ρ σ F H ρ1 σ1 F1 H1) (fxs : Fx fx σ σ1) (h : OutS T K W fx ρ F σ H res D) : OutS T K W fx ρ1 F1 σ1 H1 res D := by
  cases res with
  | no => exact h
  | exc c f ρ' => exact fun σ' F' H' cls d s S x e => h σ' F' H' cls d (st.trans s) S (fxs.trans x) e
  | ok p =>
    obtain ⟨ρ', o⟩ := p
    cases o with
    | none => exact fun σ' F' H' s S x => h σ' F' H' (st.trans s) S (fxs.trans x)
    | some r => exact fun v σ' F' H' s S x rl => h v σ' F' H' (st.trans s) S (fxs.trans x) (by
        cases r with
        | val d => exact rl
        | loc _ => exact rl.elim
        | tmp o =>
          obtain ⟨p, a, b, c, d, e⟩ := rl
          exact ⟨p, a, b, c, d, e.elim (fun z => .inl (st.dom p z)) fun z => (st.own p z).elim .inr .inl⟩)
/-- an expression, then the rest -/
theorem OutS.bind {α β : Type} {Rl : Hp → Env → Hp → Hp → β → α → Prop} {res : Res (α × Env)} {kk : α × Env → Res (Env × Option R)} {Q1 : β → Hp → Prop} (h : OutS T K W fx ρ F σ H (res.bind kk) D)
    (hk : ∀ a ρ1 b F1 H1, Step ρ σ F H ρ1 σ F1 H1 → Sim K ρ1 F1 σ H1 → Rl H ρ1 F1 H1 b a → OutS T K W fx ρ F σ H (kk (a, ρ1)) D → Q1 b H1) : Out T K W ρ F σ H Rl res Q1 := by
  cases res with
  | ok p => exact fun b F' H' s S r => hk p.1 p.2 b F' H' s S r h
  | exc c f ρ' => exact fun F' H' cls d s S e => h σ F' H' cls d s S .refl e
  | no => exact h
theorem OutS.bind1 {α β : Type} {Rl : Hp → Env → Hp → Hp → β → α → Prop} {res : Res (α × Env)} {kk : α × Env → Res (Env × Option R)} {Q1 : β → Hp → Prop} (st : Step ρ σ F H ρ1 σ F1 H1) (h : OutS T K W fx ρ F σ H (res.bind kk) D)
    (hk : ∀ a ρ2 b F2 H2, Step ρ1 σ F1 H1 ρ2 σ F2 H2 → Sim K ρ2 F2 σ H2 → Rl H1 ρ2 F2 H2 b a → OutS T K W fx ρ F σ H (kk (a, ρ2)) D → Q1 b H2) : Out T K W ρ1 F1 σ H1 Rl res Q1 := by
  cases res with
  | ok p => exact fun b F' H' s S r => hk p.1 p.2 b F' H' s S r h
  | exc c f ρ' => exact fun F' H' cls d s S r => h σ F' H' cls d (st.trans s) S .refl r
  | no => exact h
end
def LS (T : Errs) (K : Frag) (W : WX) (fx : Nat → Bool) (m : Env → Res (Env × Option R)) : TS := fun D σ H => ∃ ρ F, Sim K ρ F σ H ∧ OutS T K W fx ρ F σ H (m ρ) D
section
variable {fnm : Nat → Option Str} {T : Errs} {call : CallT} {k np : Nat} {N : List Str}
def PrS (fnm : Nat → Option Str) (T : Errs) (call : CallT) (k np : Nat) (N : List Str) (s : Mlg.S) : Prop :=
  ∀ (X : Cx) (W : WX) (sc : Scope) (fx : Nat → Bool) (x : Stmt), Sok fnm T call k N X sc → Takes X W → mS fnm T.nm N sc fx s x = true → PS X x (LS T X.K W fx (Mlg.exec call np s))
def PrSs (fnm : Nat → Option Str) (T : Errs) (call : CallT) (k np : Nat) (N : List Str) (s : Mlg.Ss) : Prop :=
  ∀ (X : Cx) (W : WX) (sc : Scope) (fx : Nat → Bool) (xs : List Stmt), Sok fnm T call k N X sc → Takes X W → mSs fnm T.nm N sc fx s xs = true → PSs X xs (LS T X.K W fx (Mlg.execs call np s))
theorem ss_nil : PrSs fnm T call k np N .nil := by
  intro X W sc fx x C tk h
  unfold mSs at h
  try dsimp only at h
  split at h
  · exact PSs.imp pss_nil fun D σ H q => by obtain ⟨ρ, F, S, q⟩ := q; exact q σ F H .refl S .refl
  · cases h
theorem ss_cons {s : Mlg.S} {r : Mlg.Ss} (is : PrS fnm T call k np N s) (ir : PrSs fnm T call k np N r) : PrSs fnm T call k np N (.cons s r) := by
  intro X W sc fx x C tk h
  unfold mSs at h
  try dsimp only at h
  split at h
  · rename_i x xs
    obtain ⟨h1, h2⟩ := and2 h
    refine PSs.imp (pss_cons (is X W sc fx x C tk h1) (ir X W sc fx xs C tk h2)) fun D σ H q => ?_
    obtain ⟨ρ, F, S, q⟩ := q
    refine ⟨ρ, F, S, ?_⟩
    unfold Mlg.execs at q
    cases e : Mlg.exec call np s ρ with
    | no => rw [e] at q; exact q
    | exc c f ρ' => rw [e] at q; exact q
    | ok p =>
      rw [e] at q
      obtain ⟨ρ', o⟩ := p
      cases o with
      | none => exact fun σ' F' H' st S' fxs => ⟨ρ', F', S', OutS.rebase st fxs q⟩
      | some r => exact q
  · cases h
theorem s_pass : PrS fnm T call k np N .pass := by
  intro X W sc fx x C tk h
  unfold mS at h
  try dsimp only at h
  split at h
  · exact PS.imp ps_pass fun D σ H q => by obtain ⟨ρ, F, S, q⟩ := q; exact q σ F H .refl S .refl
  · cases h
/-- a name gets a result -/
theorem put_res {K : Frag} {ρ0 ρ ρ' : Env} {F0 H0 F H : Hp} {σ : St} {i : Nat} {r : R} {v : V} (st : Step ρ0 σ F0 H0 ρ σ F H) (S : Sim K ρ F σ H) (rl : RelR K H0 σ ρ F H v r) (e : put ρ i r = some ρ') : ∃ F', Step ρ0 σ F0 H0 ρ' (σ.set i (some v)) F' H ∧ Sim K ρ' F' (σ.set i (some v)) H := by
  cases r with
  | val d =>
    unfold Mlg.put at e
    dsimp only at e
    split at e
    · rename_i c
      cases e
      exact ⟨F, st.trans (Step.setSlot c rfl), S.putV c rl⟩
    · cases e
  | tmp o =>
    unfold Mlg.put at e
    dsimp only at e
    split at e
    · rename_i c
      cases e
      obtain ⟨p, rfl, hF, ho, hn, h0⟩ := rl
      exact ⟨F, Step.putOwn st c h0 (by rw [← S.len]; exact c), S.putOwn c hF ho hn⟩
    · cases e
  | loc j =>
    unfold Mlg.put at e
    dsimp only at e
    split at e
    · rename_i c
      cases ef : fix ρ (.loc j) with
      | none => rw [ef] at e; cases e
      | some p =>
        rw [ef] at e
        cases e
        obtain ⟨F', st', S', hr⟩ := fix_step st S rl ef
        have c' : i < p.2.length := by
          have : p.2.length = ρ.length := by rw [S'.len, S.len]
          rw [this]; exact c
        exact ⟨F', st'.trans (Step.setSlot c' rfl), S'.putV c' hr⟩
    · cases e
theorem swaps_no {v : Expr} {t : Option Expr} {l : Nat} {env : PySem.Env} (h : compB v = false) : swapsWith v t l env = pure false := by
  cases v <;> first | rfl | cases h
theorem s_asg (i : Nat) {e : Mlg.E} : PrS fnm T call k np N (.asg i e) := by
  intro X W sc fx x C tk h
  unfold mS at h
  try dsimp only at h
  split at h
  · rename_i y py v pos
    obtain ⟨h1, hsw, he⟩ := and3 h
    obtain ⟨h1, hn, hfx⟩ := and3 h1
    obtain ⟨hN, hl⟩ := and2 h1
    have hfx : fx i = false := by simpa using hfx
    have rd : ∀ D σ H, LS T X.K W fx (Mlg.exec call np (.asg i e)) D σ H → tAsg (LE T X.K W (Mlg.eval call e)) (gName i) D σ H := by
      intro D σ H q
      obtain ⟨ρ, F, S, q⟩ := q
      refine ⟨ρ, F, S, OutS.bind q fun r ρ1 v F1 H1 st S1 rl h => ?_⟩
      try dsimp only at h
      cases ep : put ρ1 i r with
      | none => rw [ep] at h; exact h.elim
      | some ρ2 =>
        rw [ep] at h
        obtain ⟨F2, st2, S2⟩ := put_res st S1 rl ep
        exact h _ F2 H1 st2 S2 (Fx.set hfx)
    cases hc : compB v with
    | false =>
      exact PS.imp (ps_set (by rw [C.hN]; exact C.nd) (by rw [C.hN]; exact of_decide_eq_true hN) (by rw [C.hsc]; exact locB_ok hl) ((allE e).1 X W sc v C.toCok tk he) (swaps_no hc) (.inl (C.fn y))) rd
    | true =>
      cases hcl : cellB sc y with
      | true =>
        have hk : X.env.kindOf y = some .cell := by show X.env.scope.names.lookup y = _; rw [C.hsc]; exact of_decide_eq_true hcl
        have sw : swapsWith v (some (.Name y py)) pos.line X.env = pure false := by
          cases v <;> first | (cases hc; done) | skip
          all_goals
            unfold swapsWith
            simp only [hk]
            rw [show ((some NameKind.cell : Option NameKind) == some NameKind.local) = false from rfl]
            simp
        exact PS.imp (ps_set (by rw [C.hN]; exact C.nd) (by rw [C.hN]; exact of_decide_eq_true hN) (by rw [C.hsc]; exact locB_ok hl) ((allE e).1 X W sc v C.toCok tk he) sw (.inl (C.fn y))) rd
      | false =>
      have hs : swB sc y py v = true := by rw [hc, hcl] at hsw; simpa using hsw
      cases v <;> first | (cases hs; done) | skip
      rotate_left
      · rename_i kx vx gens scope lpos
        cases e <;> first | (unfold mE at he; cases he; done) | skip
        rename_i ke ve tg it c vs
        unfold mE at he
        try dsimp only at he
        split at he
        · rename_i y' x t i' ifs scope' pos' heq
          cases heq
          obtain ⟨he, hk⟩ := and2 he
          obtain ⟨p1, p2, p3, p4, p5, p6, p7, p8⟩ := lc_parts (allI it) (allO c).2.1 (allE ve).1 C.toCok tk he
          obtain ⟨s1, s2, s3⟩ := and3 hs
          have hyl : X.env.scope.names.lookup y = some .local := by rw [C.hsc]; exact of_decide_eq_true s1
          refine PS.imp (ps_setDc (tk := LE T X.K (fun _ _ _ _ => False) (Mlg.eval call ke)) C.calm (by rw [C.hN]; exact C.nd) (by rw [C.hN]; exact of_decide_eq_true hN) hyl (sw_dc (by rw [C.hsc]; exact C.kind) hyl s2 (by simpa using s3)) p1 p2 p6 p7 (fun s H Ca cl fp => (allE ke).1 _ _ _ _ (C.toCok.blk s H scope cl Ca fp) takes0 hk) p8 (fun x => plain_folded p4 x)) fun D σ H q => ?_
          rw [p3]
          exact dc_ok p5 (rd D σ H q)
        · cases he
      rename_i elt gens scope lpos
      have he0 := he
      cases e <;> first | (unfold mE at he; cases he; done) | skip
      rotate_left
      · rename_i el tg it tg' it' vs vs1
        unfold mE at he
        try dsimp only at he
        split at he
        · rename_i x t i' t1 i1 scope' pos' heq
          cases heq
          cases it' with
          | r1 a =>
            obtain ⟨⟨p1, p2, p3, p4, p5, p6, p7, p8⟩, q1, q2, q3, q4, q5⟩ := lc2_parts (a := a) (tg' := tg') (vs1 := vs1) (t1 := t1) (i1 := i1) (allI it) ((allJ (.r1 a)).2 a rfl) (allE el).1 C.toCok tk he
            obtain ⟨s1, s2, s3⟩ := and3 hs
            have hyl : X.env.scope.names.lookup y = some .local := by rw [C.hsc]; exact of_decide_eq_true s1
            refine PS.imp (ps_setLc2 (vs1 := vs1) C.calm (by rw [C.hN]; exact C.nd) (by rw [C.hN]; exact of_decide_eq_true hN) hyl (sw_true (by rw [C.hsc]; exact C.kind) hyl s2 (by simpa using s3)) p1 p2 (by rw [p3]; exact q3) p6 p7 q5 q4 p7 p8 (fun x => plain_folded p4 x) (fun e x => plain_folded q1 x)) fun D σ H q => ?_
            rw [p3]
            exact lc2_ok p5 q2 q3 (rd D σ H q)
          | _ => simp at he
        · cases he
      rename_i el tg it c vs
      unfold mE at he
      try dsimp only at he
      split at he
      · rename_i x t i' ifs scope' pos' heq
        cases heq
        obtain ⟨p1, p2, p3, p4, p5, p6, p7, p8⟩ := lc_parts (allI it) (allO c).2.1 (allE el).1 C.toCok tk he
        obtain ⟨s1, s2, s3⟩ := and3 hs
        have hyl : X.env.scope.names.lookup y = some .local := by rw [C.hsc]; exact of_decide_eq_true s1
        refine PS.imp (ps_setLc C.calm (by rw [C.hN]; exact C.nd) (by rw [C.hN]; exact of_decide_eq_true hN) hyl (sw_true (by rw [C.hsc]; exact C.kind) hyl s2 (by simpa using s3)) p1 p2 p6 p7 p8 (fun x => plain_folded p4 x)) fun D σ H q => ?_
        rw [p3]
        exact lc_ok p5 (rd D σ H q)
      · cases he
  · cases h
theorem s_exp {e : Mlg.E} : PrS fnm T call k np N (.exp e) := by
  intro X W sc fx x C tk h
  unfold mS at h
  try dsimp only at h
  split at h
  · rename_i v pos
    obtain ⟨hc, he⟩ := and2 h
    refine PS.imp (ps_expr ((allE e).1 X W sc v C.toCok tk he) (swaps_no (by simpa using hc))) fun D σ H q => ?_
    obtain ⟨ρ, F, S, q⟩ := q
    exact ⟨ρ, F, S, OutS.bind q fun r ρ1 v F1 H1 st S1 rl h => h σ F1 H1 st S1 .refl⟩
  · cases h
theorem s_cond {c : Mlg.E} {a b : Mlg.Ss} (ia : PrSs fnm T call k np N a) (ib : PrSs fnm T call k np N b) : PrS fnm T call k np N (.cond c a b) := by
  intro X W sc fx x C tk h
  unfold mS at h
  try dsimp only at h
  split at h
  · rename_i c' a' b' pos
    obtain ⟨ht, h1⟩ := and2 h
    obtain ⟨h1, h2, h3⟩ := and3 h1
    refine PS.imp (ps_if ((allE c).2.1 X W sc c' C.toCok tk ht h1) (ia X W sc fx a' C tk h2) (ib X W sc fx b' C tk h3)) fun D σ H q => ?_
    obtain ⟨ρ, F, S, q⟩ := q
    refine ⟨ρ, F, S, OutS.bind q fun r ρ1 v F1 H1 st S1 rl h => ?_⟩
    have rl : v = r := rl
    subst rl
    cases v with
    | true => rw [if_pos rfl] at h ⊢; exact ⟨ρ1, F1, S1, OutS.rebase st .refl h⟩
    | false => rw [if_neg Bool.false_ne_true] at h ⊢; exact ⟨ρ1, F1, S1, OutS.rebase st .refl h⟩
  · cases h

theorem s_ret {e : Mlg.E} : PrS fnm T call k np N (.ret e) := by
  intro X W sc fx x C tk h
  unfold mS at h
  try dsimp only at h
  split at h
  · rename_i v pos
    refine PS.imp (ps_ret ((allE e).1 X W sc v C.toCok tk h)) fun D σ H q => ?_
    obtain ⟨ρ, F, S, q⟩ := q
    refine ⟨ρ, F, S, OutS.bind q fun r ρ1 v F1 H1 st S1 rl h => ?_⟩
    try dsimp only at h
    cases r with
    | val d => exact h v σ F1 H1 st S1 .refl rl
    | tmp o =>
      obtain ⟨p, a, b, c, d, e⟩ := rl
      exact h v σ F1 H1 st S1 .refl ⟨p, a, b, c, d, .inl e⟩
    | loc i =>
      unfold retOf at h
      dsimp only at h
      split at h
      · cases ef : fix ρ1 (.loc i) with
        | none => rw [ef] at h; exact h.elim
        | some p =>
          rw [ef] at h
          obtain ⟨F', st', S', hr⟩ := fix_step st S1 rl ef
          exact h v σ F' H1 st' S' .refl hr
      · obtain ⟨rl, pp, rfl⟩ := rl
        have key : ∀ o s, ρ1[i]? = some s → isOwn s = some o → SlotR X.K F1 H1 σ i s → OutS T X.K W fx ρ F σ H (.ok (ρ1.set i .un, some (.tmp o))) D → (∃ p, σ[i]? = some (some (.ref p)) ∧ F1 p = none ∧ ObjR X.K F1 H1 p o) → D.rt (.ref pp) H1 := by
          intro o s hs ho _ h ⟨p, g1, g2, g3⟩
          rw [rl] at g1
          cases g1
          have hi := lt_of_get hs
          have S2 := S1.putUn (x := some (.ref pp)) hi
          have eσ : σ.set i (some (.ref pp)) = σ := by
            apply List.ext_getElem?
            intro j
            by_cases ej : j = i
            · subst ej; rw [List.getElem?_set_self (by rw [← S1.len]; exact hi), rl]
            · rw [List.getElem?_set_ne (Ne.symm ej)]
          rw [eσ] at S2
          have st2 : Step ρ1 σ F1 H1 (ρ1.set i .un) σ F1 H1 := by
            have := Step.setSlot (ρ := ρ1) (σ := σ) (F := F1) (H := H1) (x := some (.ref pp)) (s' := .un) hi rfl
            rw [eσ] at this
            exact this
          refine h _ σ F1 H1 (st.trans st2) S2 .refl ⟨pp, rfl, g2, g3, ?_, (st.own pp ⟨i, s, o, hs, ho, rl⟩).elim .inr .inl⟩
          rintro ⟨j, s', o', a1, a2, a3⟩
          rcases isOwn_set hi a1 a2 with ⟨_, z⟩ | ⟨nj, hj⟩
          · cases z
          · exact nj (S1.sep j i s' s o' o pp hj hs a2 ho a3 rl)
        split at h
        · rename_i o hi
          exact key o _ hi rfl (S1.slot i _ hi) h (S1.slot i _ hi)
        · rename_i o hi
          exact key o _ hi rfl (S1.slot i _ hi) h (S1.slot i _ hi)
        · rename_i d hi
          obtain ⟨v', g1, g2⟩ := S1.slot i _ hi
          rw [rl] at g1
          cases g1
          exact h _ σ F1 H1 st S1 .refl g2
        · exact h.elim
  · cases h
end
end Msd
/-! Sound18: loops, stores. -/
namespace Msd
open PySem PySem.Spec PyProof.Rows L2 Mlg
section
variable {fnm : Nat → Option Str} {T : Errs} {call : CallT} {k np : Nat} {N : List Str}
theorem Fx.le {fx fx' : Nat → Bool} {σ σ' : St} (h : Fx fx' σ σ') (l : ∀ i, fx i = true → fx' i = true) : Fx fx σ σ' := ⟨h.1, fun i hi => h.2 i (l i hi)⟩
theorem fxAnd_le {fx : Nat → Bool} {it : Mlg.It} {i : Nat} (h : fx i = true) : fxAnd fx it i = true := by
  cases it <;> first | exact h | (show (fx i || _) = true; rw [h]; rfl)
/-- which name is locked -/
theorem walk_lk {it : Mlg.It} {ρ ρ' : Env} {ds : List D} {j : Nat} {fx : Nat → Bool} (h : Mlg.walk call it ρ = .ok ((ds, some j), ρ')) : fxAnd fx it j = true := by
  cases it with
  | r1 a =>
    unfold Mlg.walk at h
    cases e : Mlg.eval call a ρ with
    | no => rw [e] at h; cases h
    | exc _ _ _ => rw [e] at h; cases h
    | ok p =>
      rw [e] at h
      obtain ⟨r, ρ1⟩ := p
      cases r with
      | tmp _ => cases h
      | loc _ => cases h
      | val d =>
        cases d <;> first | (cases h; done) | skip
        rename_i i
        replace h : (if rangeOk i = true then Res.ok ((rangeL 0 i, none), ρ1) else .no) = .ok ((ds, some j), ρ') := h
        split at h <;> cases h
  | r2 a b =>
    unfold Mlg.walk at h
    cases e : Mlg.eval call a ρ with
    | no => rw [e] at h; cases h
    | exc _ _ _ => rw [e] at h; cases h
    | ok p =>
      rw [e] at h
      replace h : ((Mlg.eval call b p.2).bind fun q => match p.1, q.1 with
        | .val (.int i), .val (.int j) => if (rangeOk i && rangeOk j) = true then Res.ok ((rangeL i j, (none : Option Nat)), q.2) else .no
        | _, _ => .no) = .ok ((ds, some j), ρ') := h
      cases e2 : Mlg.eval call b p.2 with
      | no => rw [e2] at h; cases h
      | exc _ _ _ => rw [e2] at h; cases h
      | ok q =>
        rw [e2] at h
        replace h : (match p.1, q.1 with
          | .val (.int i), .val (.int j) => if (rangeOk i && rangeOk j) = true then Res.ok ((rangeL i j, (none : Option Nat)), q.2) else .no
          | _, _ => .no) = .ok ((ds, some j), ρ') := h
        split at h
        · split at h <;> cases h
        · cases h
  | r3 a b c =>
    unfold Mlg.walk at h
    cases e : Mlg.eval call a ρ with
    | no => rw [e] at h; cases h
    | exc _ _ _ => rw [e] at h; cases h
    | ok p =>
      rw [e] at h
      replace h : ((Mlg.eval call b p.2).bind fun q => (Mlg.eval call c q.2).bind fun r => match p.1, q.1, r.1 with
        | .val (.int i), .val (.int j), .val (.int k) => if (rangeOk i && rangeOk j && rangeOk k && decide (0 < k)) = true then Res.ok ((stepL i j k, (none : Option Nat)), r.2) else .no
        | _, _, _ => .no) = .ok ((ds, some j), ρ') := h
      cases e2 : Mlg.eval call b p.2 with
      | no => rw [e2] at h; cases h
      | exc _ _ _ => rw [e2] at h; cases h
      | ok q =>
        rw [e2] at h
        replace h : ((Mlg.eval call c q.2).bind fun r => match p.1, q.1, r.1 with
          | .val (.int i), .val (.int j), .val (.int k) => if (rangeOk i && rangeOk j && rangeOk k && decide (0 < k)) = true then Res.ok ((stepL i j k, (none : Option Nat)), r.2) else .no
          | _, _, _ => .no) = .ok ((ds, some j), ρ') := h
        cases e3 : Mlg.eval call c q.2 with
        | no => rw [e3] at h; cases h
        | exc _ _ _ => rw [e3] at h; cases h
        | ok r =>
          rw [e3] at h
          replace h : (match p.1, q.1, r.1 with
            | .val (.int i), .val (.int j), .val (.int k) => if (rangeOk i && rangeOk j && rangeOk k && decide (0 < k)) = true then Res.ok ((stepL i j k, (none : Option Nat)), r.2) else .no
            | _, _, _ => .no) = .ok ((ds, some j), ρ') := h
          split at h
          · split at h <;> cases h
          · cases h
  | envar i =>
    unfold Mlg.walk at h
    split at h
    · cases h
    · cases e : lockV ρ i with
      | none => rw [e] at h; cases h
      | some p =>
        rw [e] at h
        obtain ⟨⟨xs, lk⟩, ρ1⟩ := p
        replace h : Res.ok ((enumL 0 xs, lk), ρ1) = .ok ((ds, some j), ρ') := h
        cases h
        obtain ⟨rfl, _⟩ := lockV_own e
        show (fx j || decide (j = j)) = true
        simp
  | enu a =>
    unfold Mlg.walk at h
    cases e : Mlg.eval call a ρ with
    | no => rw [e] at h; cases h
    | exc _ _ _ => rw [e] at h; cases h
    | ok p =>
      rw [e] at h
      replace h : (if isStr (look p.2 p.1) = true then .no else (Res.of (walkR p.1)).bind fun xs => Res.ok ((enumL 0 xs, (none : Option Nat)), p.2)) = .ok ((ds, some j), ρ') := h
      split at h
      · cases h
      · cases e2 : walkR p.1 with
        | none => rw [e2] at h; cases h
        | some xs => rw [e2] at h; cases h
  | var i =>
    unfold Mlg.walk at h
    cases e : lockV ρ i with
    | none => rw [e] at h; cases h
    | some p =>
      rw [e] at h
      obtain ⟨⟨xs, lk⟩, ρ1⟩ := p
      replace h : Res.ok ((xs, lk), ρ1) = .ok ((ds, some j), ρ') := h
      cases h
      obtain ⟨rfl, _⟩ := lockV_own e
      show (fx j || decide (j = j)) = true
      simp
  | val a =>
    unfold Mlg.walk at h
    cases e : Mlg.eval call a ρ with
    | no => rw [e] at h; cases h
    | exc _ _ _ => rw [e] at h; cases h
    | ok p =>
      rw [e] at h
      replace h : ((Res.of (walkR p.1)).bind fun xs => Res.ok ((xs, (none : Option Nat)), p.2)) = .ok ((ds, some j), ρ') := h
      cases e2 : walkR p.1 with
      | none => rw [e2] at h; cases h
      | some xs => rw [e2] at h; cases h
def turnF (call : CallT) (np : Nat) (tg : Tg) (b : Mlg.Ss) : D → Env → Res (Env × Option R) := fun d ρ => match putTg ρ tg d with
  | none => .no
  | some ρ1 => Mlg.execs call np b ρ1
theorem loop_ok {K : Frag} {W : WX} {fx : Nat → Bool} {tg : Tg} {it : Mlg.It} {b : Mlg.Ss} {σ : St} {H : Hp} {D : Ends} (htg : ∀ i ∈ tgSlots tg, fxAnd fx it i = false) (h : LS T K W fx (Mlg.exec call np (.loop tg it b)) D σ H) :
    tFor (LW T K W (Mlg.walk call it)) (gTg K tg) (LS T K W (fxAnd fx it) (Mlg.execs call np b)) D σ H := by
  obtain ⟨ρ, F, S, h⟩ := h
  refine ⟨ρ, F, S, ?_⟩
  replace h : OutS T K W fx ρ F σ H ((Mlg.walk call it ρ).bind fun p => (loopF (turnF call np tg b) p.1.1 p.2).bind fun q => match q.2 with
      | none => (Res.of (unlockE q.1 p.1.2)).bind fun ρ' => .ok (ρ', none)
      | some s => .ok (q.1, some s)) D := h
  cases ew : Mlg.walk call it ρ with
  | no => rw [ew] at h; exact h
  | exc _ _ _ => rw [ew] at h; exact fun F' H' cls d st S' e => h σ F' H' cls d st S' .refl e
  | ok p =>
    rw [ew] at h
    obtain ⟨⟨ds, lk⟩, ρp⟩ := p
    replace h : OutS T K W fx ρ F σ H ((loopF (turnF call np tg b) ds ρp).bind fun q => match q.2 with
      | none => (Res.of (unlockE q.1 lk)).bind fun ρ' => .ok (ρ', none)
      | some s => .ok (q.1, some s)) D := h
    intro J Fp H1 P stp Sp gs hP hlk
    have hle : ∀ i, fx i = true → fxAnd fx it i = true := fun i hi => fxAnd_le hi
    generalize hres : loopF (turnF call np tg b) ds ρp = res at h
    refine ⟨fun i m σi Hi => m = ds.length - i ∧ i ≤ ds.length ∧ ∃ ρi Fi, Sim K ρi Fi σi Hi ∧ Step ρp σ Fp H1 ρi σi Fi Hi ∧ Fx (fxAnd fx it) σ σi ∧ loopF (turnF call np tg b) (ds.drop i) ρi = res,
      ⟨ds.length, by simp, Nat.zero_le _, ρp, Fp, Sp, .refl, .refl, by simpa using hres⟩, ?_⟩
    rintro i m σi Hi ⟨rfl, hi, ρi, Fi, Si, sti, fxi, eq⟩
    have hPi := gs.stays _ _ _ _ _ _ _ _ hP sti
    by_cases hlt : i < ds.length
    · refine .inr ⟨gs.go i ρi Fi _ Hi hlt hPi Si, fun σ' H' => ∃ ρi Fi, Sim K ρi Fi σ' H' ∧ Step ρp σ Fp H1 ρi σ' Fi H' ∧ Fx (fxAnd fx it) σ σ' ∧ loopF (turnF call np tg b) (ds.drop (i + 1)) ρi = res,
        fun σ' H' hN => ⟨ds.length - (i + 1), by omega, rfl, hlt, hN⟩, fun x H' y => ?_⟩
      have ed : ds[i]? = some ds[i] := List.getElem?_eq_getElem hlt
      obtain ⟨F', st', S', hx⟩ := gs.yld i _ ρi Fi _ Hi x H' ed hPi Si y
      rw [List.drop_eq_getElem_cons hlt] at eq
      unfold loopF at eq
      cases e1 : putTg ρi tg ds[i] with
      | none =>
        have : turnF call np tg b ds[i] ρi = .no := by unfold turnF; rw [e1]
        rw [this] at eq
        rw [← eq] at h
        exact h.elim
      | some ρ2 =>
        have et : turnF call np tg b ds[i] ρi = Mlg.execs call np b ρ2 := by unfold turnF; rw [e1]
        rw [et] at eq
        refine tg_ok S' hx e1 htg fun σ2 S2 st2 fx2 _ => ⟨ρ2, F', S2, ?_⟩
        have st02 := (sti.trans st').trans st2
        have fx02 := fxi.trans fx2
        cases ee : Mlg.execs call np b ρ2 with
        | no =>
          rw [ee] at eq
          rw [← eq] at h
          exact h.elim
        | exc c f ρ3 =>
          rw [ee] at eq
          rw [← eq] at h
          exact fun σ3 F3 H3 cls d st3 S3 fx3 e => h σ3 F3 H3 cls d (stp.trans (st02.trans st3)) S3 ((fx02.trans fx3).le hle) e
        | ok p =>
          rw [ee] at eq
          obtain ⟨ρ3, o⟩ := p
          cases o with
          | none => exact fun σ3 F3 H3 st3 S3 fx3 => ⟨ρ3, F3, S3, st02.trans st3, fx02.trans fx3, eq⟩
          | some r =>
            rw [← eq] at h
            intro v σ3 F3 H3 st3 S3 fx3 rr
            refine h v σ3 F3 H3 (stp.trans (st02.trans st3)) S3 ((fx02.trans fx3).le hle) ?_
            cases r with
            | val d => exact rr
            | loc _ => exact rr.elim
            | tmp o =>
              obtain ⟨p, a, b, c, d, e⟩ := rr
              have st0 := stp.trans st02
              exact ⟨p, a, b, c, d, e.elim (fun z => .inl (st0.dom p z)) fun z => (st0.own p z).elim .inr .inl⟩
    · have ei : i = ds.length := by omega
      subst ei
      refine .inl ⟨gs.stop ρi Fi _ Hi hPi Si, ?_⟩
      rw [List.drop_length] at eq
      replace eq : Res.ok (ρi, (none : Option R)) = res := eq
      rw [← eq] at h
      replace h : OutS T K W fx ρ F σ H ((Res.of (unlockE ρi lk)).bind fun ρ' => .ok (ρ', none)) D := h
      cases lk with
      | none => exact h σi Fi Hi (stp.trans sti) Si (fxi.le hle)
      | some j =>
        obtain ⟨pp, hp1, hp2⟩ := hlk j rfl
        have hj := walk_lk (fx := fx) ew
        have hσ : σi[j]? = some (some (.ref pp)) := (fxi.2 j hj).trans hp2
        replace h : OutS T K W fx ρ F σ H ((Res.of (match ρi[j]? with
          | some (.lck o) => some (ρi.set j (.own o))
          | _ => none)).bind fun ρ' => .ok (ρ', none)) D := h
        split at h
        · rename_i o eo
          obtain ⟨Su, stu⟩ := Si.unlock (stp.trans sti) eo hσ hp1
          exact h σi Fi Hi stu Su (fxi.le hle)
        · exact h.elim
theorem s_loop {tg : Tg} {it : Mlg.It} {b : Mlg.Ss} (ib : PrSs fnm T call k np N b) : PrS fnm T call k np N (.loop tg it b) := by
  intro X W sc fx x C tk h
  unfold mS at h
  try dsimp only at h
  split at h
  · rename_i t i b' pos
    obtain ⟨h1, hp, h2⟩ := and3 h
    obtain ⟨ht, hE⟩ := and2 h1
    obtain ⟨h2, h3⟩ := and2 h2
    refine PS.imp (ps_for C.po C.calm (allI it X W sc i t C.toCok tk (enuT_of ht hE) h2) (pg_tg C.hN C.nd (fun x hx => by rw [C.hsc]; exact locB_ok hx) C.calm (fun x _ => .inl (C.fn x)) ht) (ib X W sc _ b' C tk h3) (fun x => plain_folded hp x)) fun D σ H q => loop_ok (tg_fx ht) q
  · cases h
theorem s_whil {c : Mlg.E} {b : Mlg.Ss} (ib : PrSs fnm T call k np N b) : PrS fnm T call k np N (.whil c b) := by
  intro X W sc fx x C tk h
  unfold mS at h
  try dsimp only at h
  split at h
  · rename_i c' b' pos
    obtain ⟨ht, h1⟩ := and2 h
    obtain ⟨h1, h2⟩ := and2 h1
    refine PS.imp (ps_while C.po ((allE c).2.1 X W sc c' C.toCok tk ht h1) (ib X W sc fx b' C tk h2)) fun D σ H q => ?_
    obtain ⟨ρ, F, S, q⟩ := q
    replace q : OutS T X.K W fx ρ F σ H (loopW (fun ρ => asB (Mlg.eval call c ρ)) (Mlg.execs call np b) 1000000 ρ) D := q
    generalize 1000000 = fuel at q
    refine ⟨fun m σi Hi => ∃ ρi Fi, Sim X.K ρi Fi σi Hi ∧ Step ρ σ F H ρi σi Fi Hi ∧ Fx fx σ σi ∧ loopW (fun ρ => asB (Mlg.eval call c ρ)) (Mlg.execs call np b) m ρi = loopW (fun ρ => asB (Mlg.eval call c ρ)) (Mlg.execs call np b) fuel ρ, ⟨fuel, ρ, F, S, .refl, .refl, rfl⟩, ?_⟩
    rintro m σi Hi ⟨ρi, Fi, Si, sti, fxi, eq⟩
    generalize loopW (fun ρ => asB (Mlg.eval call c ρ)) (Mlg.execs call np b) fuel ρ = res at q eq
    cases m with
    | zero => rw [← eq] at q; exact q.elim
    | succ m =>
      unfold loopW at eq
      refine ⟨ρi, Fi, Si, ?_⟩
      show Out T X.K W ρi Fi σi Hi (relT σi) (asB (Mlg.eval call c ρi)) _
      cases e1 : asB (Mlg.eval call c ρi) with
      | no =>
        replace eq : (match asB (Mlg.eval call c ρi) with
          | .ok (true, ρ1) => (match Mlg.execs call np b ρ1 with
            | .ok (ρ2, none) => loopW (fun ρ => asB (Mlg.eval call c ρ)) (Mlg.execs call np b) m ρ2
            | .ok (ρ2, some s) => .ok (ρ2, some s)
            | .exc c f ρ' => .exc c f ρ'
            | .no => .no)
          | .ok (false, ρ1) => .ok (ρ1, none)
          | .exc c f ρ' => .exc c f ρ'
          | .no => .no) = res := eq
        rw [e1] at eq
        rw [← eq] at q
        exact q.elim
      | exc cc f ρ' =>
        replace eq : (match asB (Mlg.eval call c ρi) with
          | .ok (true, ρ1) => (match Mlg.execs call np b ρ1 with
            | .ok (ρ2, none) => loopW (fun ρ => asB (Mlg.eval call c ρ)) (Mlg.execs call np b) m ρ2
            | .ok (ρ2, some s) => .ok (ρ2, some s)
            | .exc c f ρ' => .exc c f ρ'
            | .no => .no)
          | .ok (false, ρ1) => .ok (ρ1, none)
          | .exc c f ρ' => .exc c f ρ'
          | .no => .no) = res := eq
        rw [e1] at eq
        rw [← eq] at q
        exact fun F' H' cls d st S' e => q σi F' H' cls d (sti.trans st) S' fxi e
      | ok p =>
        replace eq : (match asB (Mlg.eval call c ρi) with
          | .ok (true, ρ1) => (match Mlg.execs call np b ρ1 with
            | .ok (ρ2, none) => loopW (fun ρ => asB (Mlg.eval call c ρ)) (Mlg.execs call np b) m ρ2
            | .ok (ρ2, some s) => .ok (ρ2, some s)
            | .exc c f ρ' => .exc c f ρ'
            | .no => .no)
          | .ok (false, ρ1) => .ok (ρ1, none)
          | .exc c f ρ' => .exc c f ρ'
          | .no => .no) = res := eq
        rw [e1] at eq
        obtain ⟨bb, ρ1⟩ := p
        intro b0 F1 H1 st S1 rb
        have rb : b0 = bb := rb
        subst rb
        have st01 := sti.trans st
        cases b0 with
        | false =>
          rw [if_neg Bool.false_ne_true]
          rw [← eq] at q
          exact q σi F1 H1 st01 S1 fxi
        | true =>
          rw [if_pos rfl]
          refine ⟨fun σ' H' => ∃ ρi Fi, Sim X.K ρi Fi σ' H' ∧ Step ρ σ F H ρi σ' Fi H' ∧ Fx fx σ σ' ∧ loopW (fun ρ => asB (Mlg.eval call c ρ)) (Mlg.execs call np b) m ρi = res, fun σ' H' hN => ⟨m, Nat.lt_succ_self _, hN⟩, ρ1, F1, S1, ?_⟩
          replace eq : (match Mlg.execs call np b ρ1 with
            | .ok (ρ2, none) => loopW (fun ρ => asB (Mlg.eval call c ρ)) (Mlg.execs call np b) m ρ2
            | .ok (ρ2, some s) => .ok (ρ2, some s)
            | .exc c f ρ' => .exc c f ρ'
            | .no => .no) = res := eq
          cases ee : Mlg.execs call np b ρ1 with
          | no => rw [ee] at eq; rw [← eq] at q; exact q.elim
          | exc cc f ρ3 =>
            rw [ee] at eq
            rw [← eq] at q
            exact fun σ3 F3 H3 cls d st3 S3 fx3 e => q σ3 F3 H3 cls d (st01.trans st3) S3 (fxi.trans fx3) e
          | ok p =>
            rw [ee] at eq
            obtain ⟨ρ3, o⟩ := p
            cases o with
            | none => exact fun σ3 F3 H3 st3 S3 fx3 => ⟨ρ3, F3, S3, st01.trans st3, fxi.trans fx3, eq⟩
            | some r =>
              rw [← eq] at q
              exact fun v σ3 F3 H3 st3 S3 fx3 rr => OutS.rebase st01 fxi q v σ3 F3 H3 st3 S3 fx3 rr
  · cases h

/-! ### x op= e, xs[i] = e, a, b = e -/
def ipOf : Bi → TIp
  | .add => ipI fun i j => i + j
  | .sub => ipI fun i j => i - j
  | _ => fun _ _ _ _ => False
theorem s_aug (i : Nat) (o : Bi) {e : Mlg.E} : PrS fnm T call k np N (.aug i o e) := by
  intro X W sc fx x C tk h
  unfold mS at h
  try dsimp only at h
  split at h
  · rename_i y py op v pos
    obtain ⟨h1, hop, he⟩ := and3 h
    obtain ⟨h1, hfx, ho⟩ := and3 h1
    obtain ⟨hN, hl, hn⟩ := and3 h1
    have hfx : fx i = false := by simpa using hfx
    have eop : op = opOf o := of_decide_eq_true hop
    subst eop
    have hp : PIp X (opOf o) (ipOf o) := by
      cases o <;> first | exact ip_add | exact ip_sub | (simp at ho)
    refine PS.imp (ps_aug (by rw [C.hN]; exact C.nd) (by rw [C.hN]; exact of_decide_eq_true hN) (by rw [C.hsc]; exact locB_ok hl) ((allE e).1 X W sc v C.toCok tk he) hp (.inl (C.fn y))) fun D σ H q => ?_
    obtain ⟨ρ, F, S, q⟩ := q
    unfold Mlg.exec at q
    cases es : ρ[i]? with
    | none => rw [es] at q; exact q.elim
    | some s =>
      rw [es] at q
      cases s <;> first | exact q.elim | skip
      rename_i dx
      cases dx <;> first | exact q.elim | skip
      rename_i xi
      obtain ⟨vx, g1, g2⟩ := S.slot i _ es
      cases g2
      refine ⟨_, g1, ρ, F, S, OutS.bind q fun r ρ1 v F1 H1 st S1 rl h => ?_⟩
      cases r with
      | tmp _ => exact h.elim
      | loc _ => exact h.elim
      | val dy =>
        cases dy <;> first | exact h.elim | skip
        rename_i yi
        cases rl
        replace h : OutS T X.K W fx ρ F σ H ((Res.of (augI o xi yi)).bind fun z => (Res.of (Mlg.putV ρ1 i (.int z))).bind fun ρ' => .ok (ρ', none)) D := h
        have fin : ∀ z : Int, augI o xi yi = some z → D.nx (σ.set i (some (.int z))) H1 := by
          intro z ez
          rw [ez] at h
          replace h : OutS T X.K W fx ρ F σ H ((Res.of (Mlg.putV ρ1 i (.int z))).bind fun ρ' => .ok (ρ', none)) D := h
          cases ep : Mlg.putV ρ1 i (.int z) with
          | none => rw [ep] at h; exact h.elim
          | some ρ2 =>
            rw [ep] at h
            obtain ⟨S2, st2⟩ := put_ok (v := .int z) S1 (.int z) ep
            exact h _ F1 H1 (st.trans st2) S2 (Fx.set hfx)
        cases o <;> first | (simp at ho; done) | exact ⟨_, _, rfl, rfl, fin _ rfl⟩
  · cases h
theorem s_unp (is : List Nat) {e : Mlg.E} : PrS fnm T call k np N (.unp is e) := by
  intro X W sc fx x C tk h
  unfold mS at h
  try dsimp only at h
  split at h
  · rename_i ts kk p v pos
    obtain ⟨h1, hnt, he⟩ := and3 h
    obtain ⟨ht, hp⟩ := and2 h1
    have hsw : swapsWithSole [.Tuple ts kk p] v pos.line X.env = pure false := by cases v <;> rfl
    have hst : swappedStores [.Tuple ts kk p] v X.env = pure none := by
      cases v <;> first | rfl | cases hnt
    refine PS.imp (ps_asg ((allE e).1 X W sc v C.toCok tk he) (pg_tg (tg := .tup is) C.hN C.nd (fun x hx => by rw [C.hsc]; exact locB_ok hx) C.calm (fun x _ => .inl (C.fn x)) ht) hsw hst) fun D σ H q => ?_
    obtain ⟨ρ, F, S, q⟩ := q
    refine ⟨ρ, F, S, OutS.bind q fun r ρ1 v F1 H1 st S1 rl h => ?_⟩
    cases r with
    | tmp _ => exact h.elim
    | loc _ => exact h.elim
    | val d =>
      cases d <;> first | exact h.elim | skip
      rename_i ds
      try dsimp only at h
      cases ep : putVs ρ1 is ds with
      | none => rw [ep] at h; exact h.elim
      | some ρ2 =>
        rw [ep] at h
        exact tg_ok (tg := .tup is) S1 rl ep (tg_fx ht) fun σ' S' st' fx' _ => h σ' F1 H1 (st.trans st') S' fx'
  · cases h
theorem hasObj_at {K : Frag} {ρ : Env} {F H : Hp} {σ : St} {i : Nat} (S : Sim K ρ F σ H) (h : hasObj ρ i = true) : ∃ p, σ[i]? = some (some (.ref p)) := by
  unfold hasObj at h
  split at h
  · rename_i o e
    obtain ⟨p, h1, _⟩ := S.slot i _ e
    exact ⟨p, h1⟩
  · cases h
def rSetA : TSet := fun o i v H Q => rSetL o i v H Q ∨ ∃ a H', o = .ref a ∧ DPut H a i v H' ∧ Q H'
theorem set_any {X : Cx} (hu : X.A.units + 1 < cLine) : PSet X rSetA := by
  intro pins s σ H o i v ov iv u Q I ro ri rv h
  rcases h with h | ⟨a, H', rfl, g, q⟩
  · exact set_list pins s σ H o i v ov iv u Q I ro ri rv h
  · obtain rfl : ov = Value.ref a := ro
    exact d_setItem hu I g ri rv fun s' I' => ⟨H', I', q⟩
/-- a store to a name's object -/
theorem store_ok' {K : Frag} {ρ ρ' : Env} {F H : Hp} {σ : St} {i : Nat} {p : Addr} {kd x : D} {kv v : V} (S : Sim K ρ F σ H) (hp : σ[i]? = some (some (.ref p))) (hk : Rep K F kv kd) (hv : Rep K F v x) (e : storeD ρ i kd x = some ρ') :
    ∃ H', (∀ Q : Hp → Prop, Q H' → rSetA (.ref p) kv v H Q) ∧ Sim K ρ' F σ H' ∧ Step ρ σ F H ρ' σ F H' := by
  unfold storeD at e
  split at e
  · rename_i xs hi
    cases kd <;> first | (cases e; done) | skip
    rename_i j
    replace e : (place xs.length j).map (fun n => ρ.set i (.own (.lst (xs.set n x)))) = some ρ' := e
    cases ep : place xs.length j with
    | none => rw [ep] at e; cases e
    | some n =>
      rw [ep] at e
      cases e
      cases hk
      obtain ⟨p', k1, kF, vs, k2, k3⟩ := S.slot i _ hi
      rw [hp] at k1
      cases k1
      obtain ⟨S2, st2⟩ := S.change (u := .lst (vs.set n v)) (o' := .lst (xs.set n x)) hi hp ⟨_, upd_same, k3.set hv n⟩
      refine ⟨_, fun Q q => .inl ⟨p, vs, j, n, rfl, rfl, k2, ?_, q⟩, S2, st2⟩
      rw [k3.length]
      exact ep
  · rename_i t kvs hi
    split at e
    · rename_i c
      cases e
      obtain ⟨c1, c2⟩ := and2 c
      obtain ⟨p', k1, kF, k2⟩ := S.slot i _ hi
      rw [hp] at k1
      cases k1
      obtain ⟨u, g1, g2⟩ := dic_put S.fh k2 (of_decide_eq_true c2) c1 hk hv
      obtain ⟨S2, st2⟩ := S.change (u := u) (o' := .dic t (setKey kvs kd x)) hi hp g2
      exact ⟨_, fun Q q => .inr ⟨p, _, rfl, g1, q⟩, S2, st2⟩
    · cases e
  · cases e
theorem s_sub (i : Nat) {ix e : Mlg.E} : PrS fnm T call k np N (.sub i ix e) := by
  intro X W sc fx x C tk h
  unfold mS at h
  try dsimp only at h
  split at h
  · rename_i y py z pz v pos
    obtain ⟨h1, hcb, h2⟩ := and3 h
    obtain ⟨h1, hn, hpz⟩ := and3 h1
    obtain ⟨hN, hv⟩ := and2 h1
    obtain ⟨h2, h3⟩ := and2 h2
    obtain ⟨n1, n2, _⟩ := nameB_ok hn
    have po : PE X (.Name y py) (tVar i) := pe_var (i := i) (by rw [C.hN]; exact of_decide_eq_true hN) (by rw [C.hsc]; exact visB_ok hv) n1 n2
    have hst : swappedStores [.Subscript (.Name y py) z pz] v X.env = pure none := by cases v <;> rfl
    refine PS.imp (ps_asg ((allE e).1 X W sc v C.toCok tk h3) (pg_sub po ((allE ix).1 X W sc z C.toCok tk h2) (set_any (by have := C.room.un; omega)) (by intro v; cases z <;> first | rfl | cases hpz)) (show swapsWith v (some (.Subscript (.Name y py) z pz)) pos.line X.env = pure false from swaps_no (by simpa using hcb)) hst) fun D σ H q => ?_
    obtain ⟨ρ, F, S, q⟩ := q
    refine ⟨ρ, F, S, OutS.bind q fun r ρ1 v F1 H1 st S1 rl h => ?_⟩
    try dsimp only at h
    cases ef : fix ρ1 r with
    | none => rw [ef] at h; exact h.elim
    | some p =>
      obtain ⟨d, ρ2⟩ := p
      rw [ef] at h
      try dsimp only at h
      obtain ⟨F2, st2, S2, hr⟩ := fix_step st S1 rl ef
      split at h
      · rename_i hob
        obtain ⟨pp, g1⟩ := hasObj_at S2 hob
        refine ⟨_, g1, ρ2, F2, S2, OutS.bind1 (Rl := relE X.K σ) st2 h fun r3 ρ3 w F3 H3 st3 S3 rl3 h3 => ?_⟩
        cases r3 with
        | tmp _ => exact h3.elim
        | loc _ => exact h3.elim
        | val kd =>
          try dsimp only at h3
          cases es : storeD ρ3 i kd d with
          | none => rw [es] at h3; exact h3.elim
          | some ρ4 =>
            rw [es] at h3
            obtain ⟨H4, c1, S4, st4⟩ := store_ok' S3 g1 rl3 (hr.mono st3.ext) es
            exact c1 _ (h3 σ F3 H4 ((st2.trans st3).trans st4) S4 .refl)
      · exact h.elim
  · cases h
end
end Msd
/-! Sound19: a, b = x, y. -/
namespace Msd
open PySem PySem.Spec PyProof.Rows L2 Mlg
/-! ### several stores -/
def setAll : St → List Nat → List V → St
  | σ, i :: is, v :: vs => setAll (σ.set i (some v)) is vs
  | σ, _, _ => σ
/-- results that are no name's -/
def RelP (K : Frag) (H0 : Hp) (ρ : Env) (σ : St) (F H : Hp) (v : V) : R → Prop
  | .val d => Rep K F v d
  | .tmp o => ∃ p, v = .ref p ∧ F p = none ∧ ObjR K F H p o ∧ ¬ Own ρ σ p ∧ H0 p = none
  | .loc _ => False
inductive RelPs (K : Frag) (H0 : Hp) (ρ : Env) (σ : St) (F H : Hp) : List V → List R → Prop
  | nil : RelPs K H0 ρ σ F H [] []
  | cons {v : V} {vs : List V} {r : R} {rs : List R} : RelP K H0 ρ σ F H v r → RelPs K H0 ρ σ F H vs rs →
      (∀ p o, v = .ref p → r = .tmp o → ∀ i : Nat, vs[i]? = some (.ref p) → ∀ o', rs[i]? ≠ some (.tmp o')) → RelPs K H0 ρ σ F H (v :: vs) (r :: rs)
section
variable {K : Frag} {ρ0 : Env} {σ0 : St} {F0 H0 F H : Hp}
theorem RelPs.get {ρ : Env} {σ : St} : ∀ {vs : List V} {rs : List R} {i : Nat} {r : R}, RelPs K H0 ρ σ F H vs rs → rs[i]? = some r → ∃ v, vs[i]? = some v ∧ RelP K H0 ρ σ F H v r
  | _, _, _, _, .nil, e => by simp at e
  | _, _, 0, _, .cons h _ _, e => by simp at e; subst e; exact ⟨_, rfl, h⟩
  | _, _, i + 1, r, .cons _ t _, e => by
    obtain ⟨v, a, b⟩ := RelPs.get (i := i) t (by simpa using e)
    exact ⟨v, by simpa using a, b⟩
/-- the rest behind one store -/
theorem RelPs.after {ρ ρ' : Env} {σ σ' : St} : ∀ {vs : List V} {rs : List R}, RelPs K H0 ρ σ F H vs rs → (∀ (i : Nat) (p : Addr) (o : O), vs[i]? = some (.ref p) → rs[i]? = some (.tmp o) → ¬ Own ρ σ p → ¬ Own ρ' σ' p) → RelPs K H0 ρ' σ' F H vs rs
  | _, _, .nil, _ => .nil
  | _, _, .cons (v := v) (r := r) h t d, hn => by
    refine .cons ?_ (RelPs.after t fun i p o h1 h2 => hn (i + 1) p o (by simpa using h1) (by simpa using h2)) d
    cases r with
    | val _ => exact h
    | loc _ => exact h
    | tmp o =>
      obtain ⟨p, e, a, b, c, g⟩ := h
      exact ⟨p, e, a, b, hn 0 p o (by simp [e]) (by simp) c, g⟩
theorem putsR_ok : ∀ {is : List Nat} {vs : List V} {rs : List R} {ρ ρ' : Env} {σ : St}, Sim K ρ F σ H → Step ρ0 σ0 F0 H0 ρ σ F H → RelPs K H0 ρ σ F H vs rs → puts ρ is rs = some ρ' → Sim K ρ' F (setAll σ is vs) H ∧ Step ρ0 σ0 F0 H0 ρ' (setAll σ is vs) F H
  | [], _, _, ρ, ρ', σ, S, st, .nil, e => by cases e; exact ⟨S, st⟩
  | [], _, _, ρ, ρ', σ, S, st, .cons _ _ _, e => by cases e
  | _ :: _, _, _, ρ, ρ', σ, S, st, .nil, e => by cases e
  | i :: is, _, _, ρ, ρ', σ, S, st, .cons (v := v) (vs := vs) (r := r) (rs := rs) h t d, e => by
    have e : (put ρ i r).bind (fun ρ' => puts ρ' is rs) = some ρ' := e
    cases ep : put ρ i r with
    | none => rw [ep] at e; cases e
    | some ρ1 =>
      rw [ep] at e
      cases r with
      | loc _ => exact h.elim
      | val dd =>
        unfold Mlg.put at ep
        dsimp only at ep
        split at ep
        · rename_i c
          cases ep
          exact putsR_ok (is := is) (vs := vs) (rs := rs) (S.putV c h) (st.trans (Step.setSlot c rfl)) (t.after fun j p o _ _ hn q => hn (own_set c rfl q)) e
        · cases ep
      | tmp o =>
        unfold Mlg.put at ep
        dsimp only at ep
        split at ep
        · rename_i c
          cases ep
          obtain ⟨p, ev, a, b, g, h0⟩ := h
          subst ev
          have ci : i < σ.length := by rw [← S.len]; exact c
          refine putsR_ok (is := is) (vs := vs) (rs := rs) (S.putOwn c a b g) (Step.putOwn st c h0 ci) (t.after fun j q o' h1 h2 hn hq => ?_) e
          obtain ⟨j', s, o2, a1, a2, a3⟩ := hq
          rcases isOwn_set c a1 a2 with ⟨ej, _⟩ | ⟨nj, hj⟩
          · subst ej
            rw [List.getElem?_set_self ci] at a3
            cases a3
            exact d p o rfl rfl j h1 o' h2
          · rw [List.getElem?_set_ne (Ne.symm nj)] at a3
            exact hn ⟨j', s, o2, hj, a2, a3⟩
        · cases ep
theorem RelRs.froze {σ : St} {ρ ρ1 : Env} {F F1 : Hp} (ex : Same F F1) (hf : ∀ p, F p = none → ¬ Own ρ σ p → F1 p = none) (ho : ∀ p, Own ρ1 σ p → Own ρ σ p) : ∀ {vs : List V} {rs : List R}, RelRs K H0 σ ρ F H vs rs → RelRs K H0 σ ρ1 F1 H vs rs
  | _, _, .nil => .nil
  | _, _, .cons (r := r) h t d => by
    refine .cons ?_ (RelRs.froze ex hf ho t) d
    cases r with
    | val _ => exact Rep.mono ex h
    | loc _ => exact h
    | tmp o =>
      obtain ⟨p, e, a, b, c, g⟩ := h
      exact ⟨p, e, hf p a c, b.move ex fun u hu => hu, fun q => c (ho p q), g⟩
/-- names' objects among them are frozen -/
theorem fixLocs_ok {σ : St} : ∀ {vs : List V} {rs rs' : List R} {ρ ρ' : Env} {F : Hp}, Sim K ρ F σ H → Step ρ0 σ F0 H0 ρ σ F H → RelRs K H0 σ ρ F H vs rs → fixLocs ρ rs = some (rs', ρ') →
    ∃ F', Sim K ρ' F' σ H ∧ Step ρ0 σ F0 H0 ρ' σ F' H ∧ RelPs K H0 ρ' σ F' H vs rs' ∧ (∀ p, Own ρ' σ p → Own ρ σ p) ∧ Same F F' ∧ (∀ p, F p = none → ¬ Own ρ σ p → F' p = none) ∧ ∀ (i : Nat) (o : O), rs'[i]? = some (.tmp o) → rs[i]? = some (.tmp o)
  | _, _, rs', ρ, ρ', F, S, st, .nil, e => by cases e; exact ⟨F, S, st, .nil, fun _ h => h, .refl _, fun _ h _ => h, fun _ _ h => h⟩
  | _, _, rs', ρ, ρ', F, S, st, .cons (v := v) (vs := vs) (r := r) (rs := rs) h t d, e => by
    -- what is no name's stays
    have plain : (∀ i, r ≠ .loc i) → (fixLocs ρ rs).map (fun q => (r :: q.1, q.2)) = some (rs', ρ') → ∃ F', Sim K ρ' F' σ H ∧ Step ρ0 σ F0 H0 ρ' σ F' H ∧ RelPs K H0 ρ' σ F' H (v :: vs) rs' ∧ (∀ p, Own ρ' σ p → Own ρ σ p) ∧ Same F F' ∧ (∀ p, F p = none → ¬ Own ρ σ p → F' p = none) ∧ ∀ (i : Nat) (o : O), rs'[i]? = some (.tmp o) → (r :: rs)[i]? = some (.tmp o) := by
      intro hr e
      cases ef : fixLocs ρ rs with
      | none => rw [ef] at e; cases e
      | some q =>
        rw [ef] at e
        cases e
        obtain ⟨F', S', st', rp, ow, ex, fr, tm⟩ := fixLocs_ok S st t ef
        refine ⟨F', S', st', .cons ?_ rp fun p o e1 e2 i e3 o' e4 => d p o e1 e2 i e3 o' (tm i o' e4), ow, ex, fr, fun i o e => ?_⟩
        · cases r with
          | val _ => exact Rep.mono ex h
          | loc i => exact absurd rfl (hr i)
          | tmp o =>
            obtain ⟨p, e, a, b, c, g⟩ := h
            exact ⟨p, e, fr p a c, b.move ex fun u hu => hu, fun q => c (ow p q), g⟩
        · cases i with
          | zero => simpa using e
          | succ i => simp at e; simpa using tm i o e
    cases r with
    | val dd => exact plain (fun _ z => by cases z) e
    | tmp o => exact plain (fun _ z => by cases z) e
    | loc i =>
      have e : (fix ρ (.loc i)).bind (fun p => (fixLocs p.2 rs).map fun q => (R.val p.1 :: q.1, q.2)) = some (rs', ρ') := e
      cases ef : fix ρ (.loc i) with
      | none => rw [ef] at e; cases e
      | some p1 =>
        rw [ef] at e
        obtain ⟨dd, ρ1⟩ := p1
        have e : (fixLocs ρ1 rs).map (fun q => (R.val dd :: q.1, q.2)) = some (rs', ρ') := e
        obtain ⟨hσ, _⟩ := h
        -- one is frozen
        have one : ∃ F1, Sim K ρ1 F1 σ H ∧ Step ρ0 σ F0 H0 ρ1 σ F1 H ∧ Rep K F1 v dd ∧ Same F F1 ∧ (∀ p, F p = none → ¬ Own ρ σ p → F1 p = none) ∧ ∀ p, Own ρ1 σ p → Own ρ σ p := by
          unfold fix at ef
          dsimp only at ef
          split at ef
          · rename_i d' hi
            cases ef
            obtain ⟨v', h1, h2⟩ := S.slot i _ hi
            rw [hσ] at h1
            cases h1
            exact ⟨F, S, st, h2, .refl _, fun _ h _ => h, fun _ h => h⟩
          · rename_i o hi
            obtain ⟨d', hd, ef⟩ := Option.map_eq_some_iff.mp ef
            cases ef
            obtain ⟨p, u, h1, h2, h3, h4, h5, h6⟩ := S.freeze hi hd
            rw [hσ] at h1
            cases h1
            refine ⟨_, h5, st.trans h6, h4, same_new h3, fun q hq hn => ?_, fun q hq => ?_⟩
            · rw [upd_ne (show q ≠ p from fun z => hn ⟨i, _, o, hi, rfl, z ▸ hσ⟩)]; exact hq
            · refine own_sub (fun j s o' hj ho => ?_) q hq
              rcases isOwn_set (lt_of_get hi) hj ho with ⟨_, z⟩ | ⟨_, hj⟩
              · cases z
              · exact ⟨s, o', hj, ho⟩
          · cases ef
        obtain ⟨F1, S1, st1, hr, ex1, fr1, ow1⟩ := one
        cases ef2 : fixLocs ρ1 rs with
        | none => rw [ef2] at e; cases e
        | some q =>
          rw [ef2] at e
          cases e
          obtain ⟨F', S', st', rp, ow, ex, fr, tm⟩ := fixLocs_ok S1 st1 (t.froze ex1 fr1 ow1) ef2
          refine ⟨F', S', st', .cons (Rep.mono ex hr) rp (fun p o _ e2 => by cases e2), fun p q => ow1 p (ow p q), ex1.trans ex, fun p a b => fr p (fr1 p a b) fun q => b (ow1 p q), fun j o e => ?_⟩
          cases j with
          | zero => simp at e
          | succ j => simp at e; simpa using tm j o e
end
theorem setAll_gNames {K : Frag} : ∀ {is : List Nat} {vs : List V} {σ : St} {H : Hp} {Q : St → Hp → Prop}, vs.length = is.length → Q (setAll σ is vs) H → gNames is vs σ H Q
  | [], [], _, _, _, _, q => ⟨rfl, q⟩
  | [], _ :: _, _, _, _, h, _ => by simp at h
  | _ :: _, [], _, _, _, h, _ => by simp at h
  | i :: is, v :: vs, σ, H, Q, h, q => ⟨v, vs, rfl, setAll_gNames (K := K) (by simpa using h) q⟩
theorem setAll_fx {fx : Nat → Bool} : ∀ {is : List Nat} {vs : List V} {σ : St}, (∀ i ∈ is, fx i = false) → Fx fx σ (setAll σ is vs)
  | [], _, _, _ => .refl
  | _ :: _, [], _, _ => .refl
  | i :: is, v :: vs, σ, h => (Fx.set (h i List.mem_cons_self)).trans (setAll_fx fun j hj => h j (List.mem_cons_of_mem _ hj))
theorem sw_some {ts vs : List Expr} {k k2 : Nat} {p p2 : Pos} {env : PySem.Env} (hk : env.blockKind = .function) (h1 : (ts.length == 2 || ts.length == 3) = true) (h2 : vs.length = ts.length) (h3 : vs.any starB = false)
    (h4 : (swNames env.scope ts).length = ts.length) (h4' : (swNames env.scope ts).eraseDups.length = (swNames env.scope ts).length) (h5 : vs.all (foldedForSure 8) = false) (h6 : vs.all (constantsAlone 8) = false) :
    swappedStores [.Tuple ts k p] (.Tuple vs k2 p2) env = pure (some (swNames env.scope ts)) := by
  have a1 : (!(ts.length == 2 || ts.length == 3) || vs.length != ts.length || env.blockKind != ScopeKind.function) = false := by
    rw [h1, hk, h2]; simp
  have a3 : (vs.any fun | .Starred .. => true | _ => false) = false := by
    have e : (fun x : Expr => match x with | .Starred .. => true | _ => false) = starB := by funext x; cases x <;> rfl
    rw [e]; exact h3
  have a4 : ((swNames env.scope ts).length != ts.length || (swNames env.scope ts).eraseDups.length != (swNames env.scope ts).length) = false := by
    rw [h4', h4]; simp
  unfold swappedStores
  show (if (!(ts.length == 2 || ts.length == 3) || vs.length != ts.length || env.blockKind != ScopeKind.function) = true then _ else _) = _
  rw [a1]
  show (if (vs.any fun | .Starred .. => true | _ => false) = true then _ else _) = _
  rw [a3]
  show (if ((swNames env.scope ts).length != ts.length || (swNames env.scope ts).eraseDups.length != (swNames env.scope ts).length) = true then _ else _) = _
  rw [a4]
  show (if vs.all (foldedForSure 8) = true then _ else _) = _
  rw [h5]
  show (if vs.all (constantsAlone 8) = true then _ else _) = _
  rw [h6]
  rfl
theorem sw_none {ts vs : List Expr} {k k2 : Nat} {p p2 : Pos} {env : PySem.Env} (h : ((!(ts.length == 2 || ts.length == 3) || vs.length != ts.length) || ((swNames env.scope ts).length != ts.length || (swNames env.scope ts).eraseDups.length != (swNames env.scope ts).length) || vs.all (foldedForSure 8)) = true) :
    swappedStores [.Tuple ts k p] (.Tuple vs k2 p2) env = pure none := by
  unfold swappedStores
  show (if (!(ts.length == 2 || ts.length == 3) || vs.length != ts.length || env.blockKind != ScopeKind.function) = true then _ else _) = _
  split
  · rfl
  · rename_i a1
    show (if (vs.any fun | .Starred .. => true | _ => false) = true then _ else _) = _
    split
    · rfl
    · show (if ((swNames env.scope ts).length != ts.length || (swNames env.scope ts).eraseDups.length != (swNames env.scope ts).length) = true then _ else _) = _
      split
      · rfl
      · rename_i a4
        show (if vs.all (foldedForSure 8) = true then _ else _) = _
        split
        · rfl
        · rename_i a5
          exfalso
          simp only [Bool.or_eq_true, not_or] at h a1 a4
          rcases h with (h | h) | h
          · exact absurd h (by simpa using a1.1)
          · exact absurd h (by simpa using a4)
          · exact a5 h
end Msd
/-! Sound20: a, b = x, y (continued). -/
namespace Msd
open PySem PySem.Spec PyProof.Rows L2 Mlg
section
variable {fnm : Nat → Option Str} {T : Errs} {call : CallT} {k np : Nat} {N : List Str}
theorem RelPs.laid {K : Frag} {H0 H : Hp} {ρ : Env} {σ : St} {F : Hp} {p : Addr} {u : HO} (hp : H p = none) : ∀ {vs : List V} {rs : List R}, RelPs K H0 ρ σ F H vs rs → RelPs K H0 ρ σ F (upd H p u) vs rs
  | _, _, .nil => .nil
  | _, _, .cons (r := r) h t d => by
    refine .cons ?_ (t.laid hp) d
    cases r with
    | val _ => exact h
    | loc _ => exact h
    | tmp o =>
      obtain ⟨q, e, a, b, c, g⟩ := h
      refine ⟨q, e, a, b.move (.refl _) fun w hw => ?_, c, g⟩
      rw [upd_ne (fun z => by rw [z, hp] at hw; cases hw)]
      exact hw
theorem RelPs.length {K : Frag} {H0 H : Hp} {ρ : Env} {σ : St} {F : Hp} : ∀ {vs : List V} {rs : List R}, RelPs K H0 ρ σ F H vs rs → vs.length = rs.length
  | _, _, .nil => rfl
  | _, _, .cons _ t _ => by simp [t.length]
theorem puts_len : ∀ {is : List Nat} {rs : List R} {ρ ρ1 : Env}, puts ρ is rs = some ρ1 → rs.length = is.length
  | [], [], _, _, _ => rfl
  | [], _ :: _, _, _, e => by cases e
  | _ :: _, [], _, _, e => by cases e
  | i :: is, d :: ds, ρ, ρ1, e => by
    have e : (put ρ i d).bind (fun ρ' => puts ρ' is ds) = some ρ1 := e
    cases e1 : put ρ i d with
    | none => rw [e1] at e; cases e
    | some ρ2 => rw [e1] at e; simp [puts_len e]
/-- the reading of it: the values, then what holds behind the stores -/
theorem par_read {K : Frag} {W : WX} {fx : Nat → Bool} {is : List Nat} {es : Mlg.Es} {σ : St} {H : Hp} {D : Ends} {Q : List V → Hp → Prop} (hfx : ∀ i ∈ is, fx i = false) (q : LS T K W fx (Mlg.exec call np (.par is es)) D σ H)
    (hQ : ∀ (vs : List V) (H1 : Hp), vs.length = is.length → D.nx (setAll σ is vs) H1 → (∀ p u, H1 p = none → D.nx (setAll σ is vs) (upd H1 p u)) → Q vs H1) : LX T K W (relA K) (Mlg.evals call es) σ H Q := by
  obtain ⟨ρ, F, S, q⟩ := q
  refine ⟨ρ, F, S, OutS.bind (Rl := relA K σ) q fun rs ρ1 vs F1 H1 st S1 rl h => ?_⟩
  try dsimp only at h
  cases ef : fixLocs ρ1 rs with
  | none => rw [ef] at h; exact h.elim
  | some p1 =>
    obtain ⟨rs', ρ2⟩ := p1
    rw [ef] at h
    replace h : OutS T K W fx ρ F σ H ((Res.of (puts ρ2 is rs')).bind fun ρ' => .ok (ρ', none)) D := h
    cases ep : puts ρ2 is rs' with
    | none => rw [ep] at h; exact h.elim
    | some ρ3 =>
      rw [ep] at h
      obtain ⟨F2, S2, st2, rp, _, _, _, _⟩ := fixLocs_ok S1 st rl ef
      have hl : vs.length = is.length := by rw [rp.length, puts_len ep]
      refine hQ vs H1 hl ?_ fun p u hp => ?_
      · obtain ⟨S3, st3⟩ := putsR_ok (is := is) S2 st2 rp ep
        exact h _ F2 H1 st3 S3 (setAll_fx hfx)
      · obtain ⟨S3, st3⟩ := putsR_ok (is := is) (S2.laid (u := u) hp) (st2.trans (Step.laid hp)) (rp.laid hp) ep
        exact h _ F2 _ st3 S3 (setAll_fx hfx)
theorem star_no {x : Expr} (h : plainX x = true) : starB x = false := by cases x <;> first | rfl | cases h
theorem isLoc_name {sc : Scope} {l : Nat} {x : Str} {p : Pos} (h : isLoc sc l (.Name x p) = true) : sc.names.lookup x = some .local ∧ p.line = l := by
  obtain ⟨h1, h2⟩ := and2 h
  exact ⟨by simpa using h1, by simpa using h2⟩
theorem swN_cons {sc : Scope} {l : Nat} {x : Str} {p : Pos} {r : List Expr} (h : isLoc sc l (.Name x p) = true) : (Expr.Name x p :: r).filterMap (fun | .Name id pos => if sc.names.lookup id == some .local && pos.line == l then some id else none | _ => none) = x :: r.filterMap (fun | .Name id pos => if sc.names.lookup id == some .local && pos.line == l then some id else none | _ => none) := by
  have h : (sc.names.lookup x == some .local && p.line == l) = true := h
  rw [List.filterMap_cons]
  simp only [h, if_true]
theorem go_name {sc : Scope} {fx : Nat → Bool} {i : Nat} {is : List Nat} {t : Expr} {ts : List Expr} (h : tgB.go N sc fx (i :: is) (t :: ts) = true) : ∃ x p, t = .Name x p ∧ N[i]? = some x ∧ tgB.go N sc fx is ts = true := by
  cases t <;> first | (cases h; done) | skip
  rename_i x p
  obtain ⟨g1, go2⟩ := and2 h
  exact ⟨x, p, rfl, of_decide_eq_true (and2 (and2 (and2 g1).1).1).1, go2⟩
theorem s_par (is : List Nat) {es : Mlg.Es} : PrS fnm T call k np N (.par is es) := by
  intro X W sc fx x C tk h
  unfold mS at h
  try dsimp only at h
  split at h
  · rename_i ts j p vs j2 p2 pos
    obtain ⟨ht, hor, he⟩ := and3 h
    obtain ⟨hns, he⟩ := and2 he
    obtain ⟨PA1, pl⟩ := (allS es).2 hns X W sc vs C.toCok tk he
    have hst : vs.any starB = false := by
      rw [List.any_eq_false]
      intro x hx
      rw [star_no (pl x hx)]
      exact Bool.false_ne_true
    have go : tgB.go N sc fx is ts = true := ht
    have hlen := go_len go
    have hfx := go_fx go
    have hN := C.hN
    have hsc := C.hsc
    have hbk : X.env.blockKind = .function := by unfold PySem.Env.blockKind; rw [hsc, C.kind]; rfl
    rcases (Bool.or_eq_true _ _).mp hor with hp | hp
    · obtain ⟨h1, hf, hcn⟩ := and3 hp
      obtain ⟨h1, hl, hdd⟩ := and3 h1
      obtain ⟨h1, hnd, hvl⟩ := and3 h1
      have hvl : vs.length = is.length := of_decide_eq_true hvl
      have hnd : is.Nodup := of_decide_eq_true hnd
      have hdd : (swNames sc ts).eraseDups.length = is.length := of_decide_eq_true hdd
      have hf : vs.all (foldedForSure 8) = false := by simpa using hf
      have hcn : vs.all (constantsAlone 8) = false := by simpa using hcn
      rcases (Bool.or_eq_true _ _).mp h1 with hL | hL
      · have hL : is.length = 2 := by simpa using hL
        match is, hL with
        | [i, j], _ =>
        match ts, hlen with
        | [t1, t2], _ =>
        obtain ⟨x, px, rfl, gx, go⟩ := go_name go
        obtain ⟨y, py, rfl, gy, go⟩ := go_name go
        have hl : (isLoc sc px.line (.Name x px) && (isLoc sc px.line (.Name y py) && true)) = true := hl
        obtain ⟨l1, l2⟩ := and2 hl
        have l2 := (and2 l2).1
        have esw : swNames sc [.Name x px, .Name y py] = [x, y] := by
          show List.filterMap _ [Expr.Name x px, .Name y py] = _
          exact (swN_cons (l := px.line) l1).trans (congrArg _ ((swN_cons (l := px.line) l2).trans rfl))
        match vs, hvl with
        | [a, b], _ =>
        have hij : i ≠ j := by simpa using hnd
        have hw := sw_some (ts := [.Name x px, .Name y py]) (vs := [a, b]) (k := j2) (k2 := j2) (p := p) (p2 := p2) (env := X.env) hbk rfl rfl hst (by rw [hsc, esw]; rfl) (by rw [hsc, hdd, esw]; rfl) hf hcn
        rw [hsc, esw] at hw
        refine PS.imp (ps_par C.calm (by rw [hN]; exact C.nd) (by rw [hN]; exact gx) (by rw [hN]; exact gy) hij (by rw [hsc]; exact (isLoc_name l1).1) (by rw [hsc]; exact (isLoc_name l2).1) PA1 hw) fun D σ H q => ?_
        refine par_read hfx q fun vs H1 hl hD _ => ?_
        match vs, hl with
        | [v, w], _ => exact ⟨v, w, rfl, hD⟩
      · have hL : is.length = 3 := by simpa using hL
        match is, hL with
        | [i, j, l], _ =>
        match ts, hlen with
        | [t1, t2, t3], _ =>
        obtain ⟨x, px, rfl, gx, go⟩ := go_name go
        obtain ⟨y, py, rfl, gy, go⟩ := go_name go
        obtain ⟨z, pz, rfl, gz, go⟩ := go_name go
        have hl : (isLoc sc px.line (.Name x px) && (isLoc sc px.line (.Name y py) && (isLoc sc px.line (.Name z pz) && true))) = true := hl
        obtain ⟨l1, l2⟩ := and2 hl
        obtain ⟨l2, l3⟩ := and2 l2
        have l3 := (and2 l3).1
        have esw : swNames sc [.Name x px, .Name y py, .Name z pz] = [x, y, z] := by
          show List.filterMap _ [Expr.Name x px, .Name y py, .Name z pz] = _
          exact (swN_cons (l := px.line) l1).trans (congrArg _ ((swN_cons (l := px.line) l2).trans (congrArg _ ((swN_cons (l := px.line) l3).trans rfl))))
        match vs, hvl with
        | [a, b, c], _ =>
        have hij : i ≠ j ∧ i ≠ l ∧ j ≠ l := by
          simp at hnd
          exact ⟨hnd.1.1, hnd.1.2, hnd.2⟩
        have hw := sw_some (ts := [.Name x px, .Name y py, .Name z pz]) (vs := [a, b, c]) (k := j2) (k2 := j2) (p := p) (p2 := p2) (env := X.env) hbk rfl rfl hst (by rw [hsc, esw]; rfl) (by rw [hsc, hdd, esw]; rfl) hf hcn
        rw [hsc, esw] at hw
        refine PS.imp (ps_par3 C.calm (by rw [hN]; exact C.nd) (by rw [hN]; exact gx) (by rw [hN]; exact gy) (by rw [hN]; exact gz) hij.1 hij.2.1 hij.2.2 (by rw [hsc]; exact (isLoc_name l1).1) (by rw [hsc]; exact (isLoc_name l2).1) (by rw [hsc]; exact (isLoc_name l3).1) PA1 hw) fun D σ H q => ?_
        refine par_read hfx q fun vs H1 hl hD _ => ?_
        match vs, hl with
        | [v, w, u], _ => exact ⟨v, w, u, rfl, hD⟩
    · obtain ⟨h8, hp⟩ := and2 hp
      have h8 : is.length ≤ 8 := of_decide_eq_true h8
      have hw := sw_none (ts := ts) (vs := vs) (k := j) (k2 := j2) (p := p) (p2 := p2) (env := X.env) (by rw [hsc]; exact hp)
      refine PS.imp (ps_asg (pe_tup PA1) (pg_tg (tg := .tup is) C.hN C.nd (fun x hx => by rw [C.hsc]; exact locB_ok hx) C.calm (fun x _ => .inl (C.fn x)) ht) rfl hw) fun D σ H q => ?_
      refine par_read hfx q fun vs H1 hl hD hD2 => ?_
      refine ⟨by rw [hl]; exact Nat.le_trans h8 (by decide), fun p hp => ?_⟩
      exact ⟨p, vs, rfl, SqT.of upd_same, hl, setAll_gNames (K := X.K) hl (hD2 p _ hp)⟩
  · cases h
end
end Msd
/-! SoundT: several except clauses, some of them with a name. -/
namespace Msd
open PySem.Spec PySem L2 PyProof.Rows
abbrev Cl := Value × Option Nat × (Addr → Value → Option Addr → TS)
/-- the ends of a clause: its name goes -/
def endA (D : Ends) : Option Nat → Ends
  | none => D
  | some i => { nx := fun τ M => D.nx (τ.set i none) M, rt := D.rt, bk := fun τ M => D.bk (τ.set i none) M, ct := fun τ M => D.ct (τ.set i none) M }
def begA (a : Addr) (σ : L2.St) : Option Nat → L2.St
  | none => σ
  | some i => σ.set i (some (.ref a))
def wMA (K : PySem.W.Frag) (Wo : WX) (D : Ends) : List Cl → WX
  | [] => Wo
  | (c, n, ts) :: r => fun cls d σ H => ∃ b, PySem.W.exmOne K cls c = some b ∧ (b = true → ∀ a, H a = none → ts a cls d (endA D n) (begA a σ n) H) ∧ (b = false → wMA K Wo D r cls d σ H)
def NmOk (X : Cx) : Option Nat → Option Str → Prop
  | none, none => True
  | some i, some n => X.N[i]? = some n ∧ X.env.kindOf n = some .local
  | _, _ => False
inductive HdA (X : Cx) : List ExceptHandler → List Cl → Prop
  | nil : HdA X [] []
  | cons {x : Str} {c : Value} {n : Option Nat} {nm : Option Str} {ts : Addr → Value → Option Addr → TS} {b₀ : Stmt} {su : List Stmt} {q q' : Pos} {hds : List ExceptHandler} {l : List Cl} (hc : Names X x c) (hn : NmOk X n nm)
      (hsu : ∀ (a : Addr) (oe : Obj) (cls : Value) (d : Option Addr) (pn : List (Addr × Obj)), Zc cls d oe → (∃ vs, oe.data = .fields vs) → PSs (X.suite a ((a, oe) :: pn)) (b₀ :: su) (ts a cls d)) (r : HdA X hds l) :
      HdA X (.ExceptHandler (some (.Name x q)) nm (b₀ :: su) q' :: hds) ((c, n, ts) :: l)
section
variable {X : Cx} {body : List Stmt} {h₀ : ExceptHandler} {hds : List ExceptHandler} {l : List Cl} {pos : Pos} {tb : WX → TS} {Wo : WX}
theorem ps_tryA (hs : X.stack = X.env :: X.outer) (hf : X.env.frame = some X.env.locals) (hN : X.N.Nodup) (tk : Takes X Wo)
    (hb : ∀ (V : WX) (pn : List (Addr × Obj)) (xe : Value → Shared → Prop), Takes (X.tr pn xe) V → PassesOwn (model X.prog X.w) X.A X.env xe → PSs (X.tr pn xe) body (tb V))
    (hh : HdA X (h₀ :: hds) l) : PS X (.Try body (h₀ :: hds) [] [] pos) (fun D σ H => tb (wMA X.K Wo D l) D σ H) := by
  refine ⟨fun pp s σ H D J0 h0 => ?_⟩
  have ok := J0.ok
  have hfr : X.A.frames = some (X.env :: X.outer) := by rw [ok.frames]; exact congrArg some hs
  refine wpAny_Try_except ?_
  refine wpAny_mono ((hb (wMA X.K Wo D l) (X.pn ++ pp) (fun e z1 => wpAny (model X.prog X.w) X.A (noteFrame e X.env) (fun _ z2 => wpAny (model X.prog X.w) X.A (setFlight e none) (fun _ z3 =>
    wpAny (model X.prog X.w) X.A (handleBy e X.env (h₀ :: hds)) (SP X pp D) X.xe z3) X.xe z2) X.xe z1) (fun u s' xx => ?_) PassesOwn.looking).run [] s σ H D (J0.toTry _) h0) (fun f s1 hz => ?_) (fun _ _ z => z)
  · obtain ⟨a, B, sI, pins', σ', H', cls, d, rfl, J', nb, up, sky, na, os, ag, w⟩ := xx
    have J : Inv X pp σ' H' sI := J'.ofTry ok
    have sky2 : Sky B (X.env :: X.outer) a (Zc cls d) X.env.locals s'.heap := by have z := sky; rw [hs] at z; exact z
    show wpAny (model X.prog X.w) X.A (noteFrame (Value.ref a) X.env) _ _ _
    refine Sky.land Zc.steady hfr hf sky2 fun h3 fl3 up3 => ?_
    have J3 : Inv X pp σ' H' { s' with heap := h3 } := J.landed nb fl3.1 (up.trans up3) os ag
    obtain ⟨o3, v3, e3, z3, d3⟩ := fl3.there
    have nfr : a ∉ frs (X.env :: X.outer) := fun hm => by
      obtain ⟨_, o', e', hnf⟩ := fl3.2.2.1.mem hm
      rw [e3] at e'
      cases e'
      exact hnf _ d3
    have nL : a ≠ X.env.locals := fun z => nfr (List.mem_filterMap.mpr ⟨X.env, .head _, by rw [hf, z]⟩)
    have nF : a ∉ X.fs := fun hm2 => by
      obtain ⟨e1, m1, q1⟩ := List.mem_filterMap.mp hm2
      exact nfr (List.mem_filterMap.mpr ⟨e1, .tail _ m1, q1⟩)
    have S3 := J3.suite e3 d3 na nL nF
    have go : ∀ {hs' : List ExceptHandler} {l' : List Cl}, HdA X hs' l' → wMA X.K Wo D l' cls d σ' H' → wpAny (model X.prog X.w) X.A (handleBy (.ref a) X.env hs') (SP X pp D) X.xe { s' with heap := h3 } := by
      intro hs' l' hk
      induction hk with
      | nil =>
        intro w
        refine wpAny_handleBy_nil ?_
        obtain ⟨_, _, _, _, _, T, _, _, he2, _, hd2, h12, _⟩ := id fl3
        unfold PySem.passOn
        refine wpAny_bind (wpAny_field he2 hd2 h12 ?_)
        rw [if_neg (show ¬ ((Value.ref T == .none) = true) by simp)]
        have fin : wpAny (model X.prog X.w) X.A (setFlight (.ref a) X.env.frame) (fun _ y => wpAny (model X.prog X.w) X.A (throw (.ref a) : Sem Flow) (SP X pp D) X.xe y) X.xe { s' with heap := h3 } := by
          rw [hf]
          refine HandSPX.setFlight_upZ fl3 fun h4 hh4 up4 => wpAny_throw (tk _ _ ⟨a, B, sI, pp, σ', H', cls, d, rfl, J, nb, (up.trans up3).trans up4, .inr (.inr ?_), na, os, ag, w⟩)
          rw [hs]
          exact hh4
        first | exact wpAny_bind fin | exact wpAny_bind (wpAny_pure (wpAny_bind fin))
      | @cons x c n nm ts b₀ su q1 q2 hds2 l2 hc hn hsu r ih =>
        intro w
        obtain ⟨b, hb1, hyes, hno2⟩ := w
        refine wpAny_handleBy_cons (codeAny_handlers_test ?_) (by intro z; cases z)
        have LT : PySem.W.Looks (model X.prog X.w) h3 (typeOf (.ref a)) cls := fun _ _ _ _ k q => wpAny_typeOf_ref (k _ _ e3) (by rw [z3.1]; exact q)
        have LM := PySem.W.exm_one (M := model X.prog X.w) J3.kIn LT hb1
        have test : ∀ {Q E : Value → Shared → Prop}, Q c { s' with heap := h3 } → wpAny (model X.prog X.w) (X.A.mark (some (.ref a))) (eval (.Name x q1) X.env) Q E { s' with heap := h3 } := fun {Q E} q => by
          obtain ⟨g1, g2, g3 | ⟨g3, g4, g5⟩⟩ := hc
          · exact ld_glob (X := X.suite a ((a, o3) :: (X.pn ++ pp))) S3 g1 g3 q g2
          · exact ld_blt (X := X.suite a ((a, o3) :: (X.pn ++ pp))) S3 g1 g3 g4 q g5 g2
        refine test (LM.here ?_)
        cases b with
        | false =>
          show wpAny _ X.A (handleBy (Value.ref a) X.env hds2) _ _ _
          exact ih (hno2 rfl)
        | true =>
          have hy := hyes rfl a na
          cases n with
          | none =>
            cases nm with
            | some _ => exact hn.elim
            | none =>
              refine codeAny_handlers_suite (HandSPX.lands_againZ fl3 fun h4 fl4 up4 => ?_)
              have J4 : Inv X pp σ' H' { s' with heap := h4 } := J.landed nb fl4.1 ((up.trans up3).trans up4) os ag
              obtain ⟨o4, v4, e4, z4, d4⟩ := fl4.there
              refine wpAny_mono ((hsu a o4 cls d (X.pn ++ pp) z4 ⟨_, d4⟩).run [] _ _ H' _ (J4.suite e4 d4 na nL nF) hy) (fun f y hz => ?_) (fun _ _ z => z.elim)
              cases f with
              | ret u =>
                obtain ⟨v6, σ6, H6, S6, r6, q6⟩ := hz
                exact ⟨v6, σ6, H6, S6.unsuite ok, r6, q6⟩
              | _ =>
                obtain ⟨σ6, H6, S6, q6⟩ := hz
                exact ⟨σ6, H6, S6.unsuite ok, q6⟩
          | some i =>
            cases nm with
            | none => exact hn.elim
            | some n =>
              obtain ⟨hi, hln⟩ := hn
              refine codeAny_handlers_suite_as (HandSPX.lands_againZ fl3 fun h4 fl4 up4 => ?_)
              have J4 : Inv X pp σ' H' { s' with heap := h4 } := J.landed nb fl4.1 ((up.trans up3).trans up4) os ag
              obtain ⟨o4, v4, e4, z4, d4⟩ := fl4.there
              refine store_ok (X := X.suite a ((a, o4) :: (X.pn ++ pp))) (v := .ref a) (J4.suite e4 d4 na nL nF) hN hi (.inl hln) rfl (fun s5 S5 => ?_) (.inr hln)
              refine wpAny_mono ((hsu a o4 cls d (X.pn ++ pp) z4 ⟨_, d4⟩).run [] s5 _ H' _ S5 hy) (fun f y hz => ?_) (fun _ _ z => z.elim)
              have endA : ∀ {σ6 : L2.St} {H6 : Hp} {Q : Shared → Prop}, Inv (X.suite a ((a, o4) :: (X.pn ++ pp))) [] σ6 H6 y → (∀ s7, Inv X pp (σ6.set i none) H6 s7 → Q s7) → wpAny (model X.prog X.w) X.A (do bindName X.env n .none; unbindBehindTheSuite X.env n q2) (fun _ s7 => Q s7) X.xe y :=
                fun S6 hq => gone_ok (S6.unsuite ok) hN hi hln hq
              cases f with
              | ret u =>
                obtain ⟨v6, σ6, H6, S6, r6, q6⟩ := hz
                exact endA S6 fun s7 J7 => ⟨v6, _, H6, J7, r6, q6⟩
              | _ =>
                obtain ⟨σ6, H6, S6, q6⟩ := hz
                exact endA S6 fun s7 J7 => ⟨_, H6, J7, q6⟩
    exact go hh w
  · cases f with
    | next =>
      obtain ⟨σ1, H1, J1, q⟩ := hz
      exact wpAny_execs_nil ⟨σ1, H1, J1.ofTry ok, q⟩
    | ret u =>
      obtain ⟨v, σ1, H1, J1, r, q⟩ := hz
      exact ⟨v, σ1, H1, J1.ofTry ok, r, q⟩
    | _ =>
      obtain ⟨σ1, H1, J1, q⟩ := hz
      exact ⟨σ1, H1, J1.ofTry ok, q⟩
end
end Msd
/-! Sound21: raise, try. -/
namespace Msd
open PySem PySem.Spec PyProof.Rows L2 Mlg
section
variable {fnm : Nat → Option Str} {T : Errs} {call : CallT} {k np : Nat} {N : List Str}
theorem s_stuck : PrS fnm T call k np N .stuck := by
  intro X W sc fx x C tk h
  exact ⟨fun pins s σ H D I q => by obtain ⟨ρ, F, S, q⟩ := q; exact q.elim⟩
/-- X() of an own class -/
theorem pmk_own0 {X : Cx} {C : Addr} {bmB : List Value} {B newId initId : String} {x : Str} {p pos : Pos} (F : ExcBaseFacts B newId initId bmB) (q : PySem.W.excIn X.K C bmB newId = true) (gC : X.mg x = some (.ref C)) (kC : PySem.W.keepIn X.K (.ref C) = true) (r : Raises X (.ref C)) (hg : Gl X x)
    (hdb : (x == ("__debug__" : Str)) = false) : PMk X (.Call (.Name x p) [] [] pos) (fun _ H Q => Q (.ref C) none H) := by
  intro pins s σ H Q I h
  refine wpAny_Call_Name_kw (ld_glob I hg gC ?_ hdb)
  refine PySem.W.callWith_K0 I.kIn kC ?_
  show wpAny _ _ (PySem.call (.ref C) []) _ _ _
  obtain ⟨bm, N, nm, qn, bs, hdct, sn, sub, ab, col, dd, k0, k1, k2, k3, k5, mN, hC, hN, hni, T⟩ := exc_obj I.kIn q
  refine wpAny_call_exc_subT F T hC hN hni (fun h' e hm => ?_) (Nat.zero_le _)
  exact mk_of I hm r h (I.hok.gone hm.new)
theorem gloB_ok {X : Cx} {sc : Scope} {x : Str} (e : X.env.scope = sc) (h : gloB sc x = true) : Gl X x := by
  have : sc.names.lookup x = some .globalImplicit := of_decide_eq_true h
  show X.env.scope.names.lookup x = _
  rw [e]; exact this
theorem s_rais (c : Nat) (e : Eo) : PrS fnm T call k np N (.rais c e) := by
  intro X W sc fx x C tk h
  unfold mS at h
  try dsimp only at h
  split at h
  · rename_i y py pc pr
    obtain ⟨h1, h3, h4⟩ := and3 h
    obtain ⟨h1, h2⟩ := and2 h1
    have hT : T.fld c = none := by
      rw [C.G.fl]
      have h4 : ¬ c = 7 ∧ ¬ c = 13 := by simpa using h4
      unfold fldOf
      rw [if_neg h4.1, if_neg h4.2]
    have hnm : T.nm c = some y := of_decide_eq_true h1
    have E := C.G.ex c y hnm
    refine PS.imp (ps_raise C.calm tk (pmk_own0 PySem.F.excBase_ValueError (C.G.ex0 c y hnm hT) E.gC E.kC (raises_own E.sb E.ty) (gloB_ok C.hsc h2) (nameB_ok h3).1)) fun D σ H q => ?_
    obtain ⟨ρ, F, S, q⟩ := q
    refine q σ F H _ _ .refl S .refl ⟨rfl, ⟨_, hnm⟩, ?_⟩
    rw [hT]
    exact ⟨rfl, rfl⟩
  · rename_i e y py v pc pr
    obtain ⟨h1, hp, hv⟩ := and3 h
    obtain ⟨h1, h3, h4⟩ := and3 h1
    obtain ⟨h1, h2⟩ := and2 h1
    obtain ⟨f, hT⟩ : ∃ f, T.fld c = some f := by
      rw [C.G.fl]
      have h4 : c = 7 ∨ c = 13 := by simpa using h4
      unfold fldOf
      rcases h4 with z | z
      · exact ⟨_, if_pos z⟩
      · rw [if_neg (by omega), if_pos z]; exact ⟨_, rfl⟩
    have hnm : T.nm c = some y := of_decide_eq_true h1
    have E := C.G.ex c y hnm
    refine PS.imp (ps_raise C.calm tk (pmk_fld (C.G.fd c y f hnm hT) (C.room.mono (by omega)) (gloB_ok C.hsc h2) E.gC (nameB_ok h3).1 ((allE e).1 X W sc v C.toCok tk hv) (starEach_plain hp))) fun D σ H q => ?_
    obtain ⟨ρ, F, S, q⟩ := q
    refine ⟨ρ, F, S, OutS.bind q fun r ρ1 v F1 H1 st S1 rl h => fld_cont (C := T.at_ c) (f := f) (v := v) (H1 := H1) (Q := fun cls d H' => W cls d σ H') fun dx hx => ?_⟩
    try dsimp only at h
    cases ef : fix ρ1 r with
    | none => rw [ef] at h; exact h.elim
    | some p =>
      obtain ⟨d, ρ2⟩ := p
      rw [ef] at h
      try dsimp only at h
      obtain ⟨F2, st2, S2, hr⟩ := fix_step st S1 rl ef
      refine h σ F2 _ _ _ (st2.trans (Step.laid hx)) (S2.laid hx) .refl ⟨rfl, ⟨_, hnm⟩, ?_⟩
      rw [hT]
      exact ⟨dx, v, rfl, upd_same, hr⟩
  · cases h
/-! ### except suites -/
/-- what is known of the error that a suite has a name for -/
def xinf (T : Errs) (K : Frag) (F H : Hp) (σ : St) (f : Mlg.D) (a : Addr) (cls : Value) (d : Option Addr) : Option (Nat × Nat) → Prop
  | none => True
  | some (e, c) => σ[e]? = some (some (.ref a)) ∧ ExcR T K F H c f cls d
/-- what a suite leaves -/
def tU (T : Errs) (K : Frag) (fx : Nat → Bool) (u : U) (en : Option (Nat × Nat)) (a : Addr) (cls : Value) (d : Option Addr) : TS := fun D σ H => ∃ ρ F ρ' f, Sim K ρ F σ H ∧ suite ρ f u = some ρ' ∧ xinf T K F H σ f a cls d en ∧ ∀ σ' F' H', Step ρ σ F H ρ' σ' F' H' → Sim K ρ' F' σ' H' → Fx fx σ σ' → D.nx σ' H'
theorem pe_cst {X : Cx} {d : D} {c : Const} {j : Nat} {p : Pos} (h : cstB d c = true) : ∃ v, PE X (.Constant c j p) (tC v) ∧ ∀ F, Rep X.K F v d := by
  cases d <;> first | (cases h; done) | skip
  · cases c <;> first | (cases h; done) | skip
    exact ⟨_, pe_non, fun _ => .non⟩
  · cases c <;> first | (cases h; done) | skip
    rename_i a b
    have : a = b := eq_of_beq h
    subst this
    exact ⟨_, pe_bl, fun _ => .bl a⟩
  · cases c <;> first | (cases h; done) | skip
    rename_i a b
    have : a = b := of_decide_eq_true h
    subst this
    exact ⟨_, pe_int, fun _ => .int a⟩
  · cases c <;> first | (cases h; done) | skip
    rename_i a b
    have : a = b := of_decide_eq_true h
    subst this
    exact ⟨_, pe_str, fun _ => .str a⟩
/-- e.f -/
theorem pe_en {X : Cx} {sc : Scope} {en : Option (Nat × Nat)} {e : Nat} {n f : Str} {p p' : Pos} {a : Addr} {oe : Obj} {cls : Value} {d : Option Addr} {pn : List (Addr × Obj)} (C : Sok fnm T call k N X sc) (hz : Zc cls d oe) (hf : ∃ vs, oe.data = .fields vs) (h : enB N sc en e n f = true) :
    (∃ c y, en = some (e, c) ∧ T.nm c = some y) → ∃ t, PE (X.suite a ((a, oe) :: pn)) (.Attribute (.Name n p) f p') t ∧ ∀ {F H : Hp} {σ : St} {g : Mlg.D} {Q : VK}, xinf T X.K F H σ g a cls d en → (∀ v, Rep X.K F v g → Q v H) → t σ H Q := by
  rintro ⟨c, y, rfl, hnm⟩
  obtain ⟨h1, hn, hc⟩ := and3 h
  obtain ⟨h1, h2, hv⟩ := and3 h1
  have hc : fldOf c = some f := of_decide_eq_true hc
  have hT : T.fld c = some f := (C.G.fl c).trans hc
  have FC := C.G.fd c y f hnm hT
  obtain ⟨n1, n2, _⟩ := nameB_ok hn
  refine ⟨_, pe_xf (C := T.at_ c) FC.xc FC.no hz hf (pe_var (i := e) (by show X.N[e]? = _; rw [C.hN]; exact of_decide_eq_true h2) (by show Vis X.env.scope n; rw [C.hsc]; exact visB_ok hv) n1 n2), ?_⟩
  intro F H σ g Q hx q
  obtain ⟨x1, rfl, _, x2⟩ := hx
  rw [hT] at x2
  obtain ⟨dd, v, rfl, x3, x4⟩ := x2
  exact ⟨_, x1, rfl, rfl, dd, _, v, rfl, x3, by simp [List.lookup], q v x4⟩
theorem u_ok {X : Cx} {sc : Scope} {fx : Nat → Bool} {u : U} {b : List Stmt} {en : Option (Nat × Nat)} {a : Addr} {oe : Obj} {cls : Value} {d : Option Addr} {pn : List (Addr × Obj)} (C : Sok fnm T call k N X sc) (hz : Zc cls d oe) (hf : ∃ vs, oe.data = .fields vs) (hen : ∀ e c, en = some (e, c) → ∃ y, T.nm c = some y) (h : mU N sc fx en u b = true) : PSs (X.suite a ((a, oe) :: pn)) b (tU T X.K fx u en a cls d) := by
  have hN : (X.suite a ((a, oe) :: pn)).N = N := C.hN
  have nd := C.nd
  have hsc : (X.suite a ((a, oe) :: pn)).env.scope = sc := C.hsc
  have fn : ∀ x, (X.suite a ((a, oe) :: pn)).fn x = true := C.fn
  have pen := fun {e : Nat} {n f : Str} {p p' : Pos} (z : enB N sc en e n f = true) => pe_en (p := p) (p' := p') (a := a) (oe := oe) (pn := pn) C hz hf z (by
    cases en with
    | none => cases z
    | some q =>
      obtain ⟨e', c⟩ := q
      obtain ⟨z1, _, _⟩ := and3 z
      obtain ⟨z1, _, _⟩ := and3 z1
      have z1 : e' = e := eq_of_beq z1
      subst z1
      obtain ⟨y, hy⟩ := hen _ _ rfl
      exact ⟨c, y, rfl, hy⟩)
  generalize hY : X.suite a ((a, oe) :: pn) = Y at *
  have hK : Y.K = X.K := by rw [← hY]
  rw [← hK]
  rw [← hK] at pen
  unfold mU at h
  split at h
  · rename_i i d y py c j p pos
    obtain ⟨h1, hfx, hc⟩ := and3 h
    obtain ⟨h1, hl, hn⟩ := and3 h1
    have hfx : fx i = false := by simpa using hfx
    obtain ⟨v, pv, rv⟩ := pe_cst (X := Y) (j := j) (p := p) hc
    refine PSs.imp (pss_cons (ps_set (i := i) (by rw [hN]; exact nd) (by rw [hN]; exact of_decide_eq_true h1) (by rw [hsc]; exact locB_ok hl) pv rfl (.inl (fn y))) pss_nil) fun D σ H q => ?_
    obtain ⟨ρ, F, ρ', f, S, e, xi, q⟩ := q
    obtain ⟨S2, st2⟩ := put_ok S (rv F) e
    exact q _ F H st2 S2 (Fx.set hfx)
  · rename_i i n y py y' py' c j p p2 pos
    obtain ⟨h1, hfx, hc⟩ := and3 h
    obtain ⟨h1, hl, hn⟩ := and3 h1
    obtain ⟨hy, hc⟩ := and2 hc
    have hc0 := hc
    have hfx : fx i = false := by simpa using hfx
    have hy : y' = y := of_decide_eq_true hy
    subst hy
    obtain ⟨v, pv, rv⟩ := pe_cst (X := Y) (j := j) (p := p) hc0
    obtain ⟨n1, n2, _⟩ := nameB_ok hn
    have hNi : Y.N[i]? = some y' := by rw [hN]; exact of_decide_eq_true h1
    have hloc : Loc Y.env.scope y' := by rw [hsc]; exact locB_ok hl
    have hvis : Vis Y.env.scope y' := hloc.elim .inl fun z => .inr (.inl z)
    refine PSs.imp (pss_cons (ps_set (i := i) (by rw [hN]; exact nd) hNi hloc (pe_op (op_bin .add) (pe_var (i := i) hNi hvis n1 n2) pv) rfl (.inl (fn y'))) pss_nil) fun D σ H q => ?_
    obtain ⟨ρ, F, ρ', f, S, e, xi, q⟩ := q
    unfold suite at e
    dsimp only at e
    split at e
    · rename_i kk hi
      obtain ⟨w, g1, g2⟩ := S.slot i _ hi
      cases g2
      refine ⟨_, g1, ?_⟩
      refine bin_ok (o := .add) (T := ⟨fun _ => 0, fun _ => none, fun _ => none⟩) (W := fun _ _ _ _ => True) (r := .val (.int (kk + n))) S (.inl (.int kk)) (.inl (rv F)) rfl fun v F1 H1 st S1 rl => ?_
      obtain ⟨S2, st2⟩ := put_ok S1 rl e
      exact q _ F1 H1 (st.trans st2) S2 (Fx.set hfx)
    · cases e
  · rename_i i d y py m p c j pc q pos
    obtain ⟨h1, hli, hc⟩ := and3 h
    obtain ⟨h1, hv, hn⟩ := and3 h1
    obtain ⟨hm, hNi⟩ := and2 h1
    obtain ⟨v, pv, rv⟩ := pe_cst (X := Y) (j := j) (p := pc) hc
    obtain ⟨n1, n2, _⟩ := nameB_ok hn
    have e : m = ("append" : Str) := of_decide_eq_true hm
    subst e
    have po : PE Y (.Name y py) (tVar i) := pe_var (i := i) (by rw [hN]; exact of_decide_eq_true hNi) (by rw [hsc]; exact visB_ok hv) n1 n2
    have pa : PA Y [.Constant c j pc] (tCons (tC v) tNil) := pa_cons pv pa_nil rfl
    refine PSs.imp (pss_cons (ps_expr (pe_bm PySem.F.plainAttrs_list PySem.F.slot_list_append PySem.F.type_list_append mt_append po pa (by rfl) (few_one rfl) hli rfl (by rfl)) rfl) pss_nil) fun D σ H q => ?_
    obtain ⟨ρ, F, ρ', f, S, e, xi, q⟩ := q
    unfold suite at e
    dsimp only at e
    split at e
    · rename_i xs hi
      split at e
      · rename_i cs
        cases e
        obtain ⟨p', k1, kF, vs, k2, k3⟩ := S.slot i _ hi
        obtain ⟨S2, st2⟩ := S.change (u := .lst (vs ++ [v])) (o' := .lst (xs ++ [d])) hi k1 ⟨_, upd_same, k3.append (.cons (rv F) .nil)⟩
        refine ⟨_, k1, .inl ⟨rfl, vs, SqL.of k2⟩, p', vs, v, rfl, rfl, k2, ?_, q σ F _ st2 S2 .refl⟩
        rw [k3.length]
        exact Nat.lt_of_lt_of_le (of_decide_eq_true cs) lim_le
      · cases e
    · cases e
  · rename_i i w e y py c j pc n pn' f pf j2 p2 pos
    obtain ⟨h1, hfx, hc⟩ := and3 h
    obtain ⟨h1, hl, hn⟩ := and3 h1
    obtain ⟨hc, he⟩ := and2 hc
    have hfx : fx i = false := by simpa using hfx
    obtain ⟨v, pv, rv⟩ := pe_cst (X := Y) (j := j) (p := pc) hc
    obtain ⟨t, pt, kt⟩ := pen (p := pn') (p' := pf) he
    refine PSs.imp (pss_cons (ps_set (i := i) (by rw [hN]; exact nd) (by rw [hN]; exact of_decide_eq_true h1) (by rw [hsc]; exact locB_ok hl) (pe_tup (pa_cons pv (pa_cons pt pa_nil rfl) rfl)) rfl (.inl (fn y))) pss_nil) fun D σ H q => ?_
    obtain ⟨ρ, F, ρ', g, S, e, xi, q⟩ := q
    refine kt xi fun v2 r2 => ⟨by show 2 ≤ sizeLine; decide, fun p hp => ?_⟩
    have rr : Reps Y.K F [v, v2] [w, g] := .cons (rv F) (.cons r2 .nil)
    obtain ⟨S2, st2⟩ := put_ok (S.laidF (u := .tup [v, v2]) hp) (.tup upd_same (rr.mono (same_new (S.new hp).1))) e
    exact q _ _ _ ((Step.laidF (S.new hp).1 hp).trans st2) S2 (Fx.set hfx)
  · rename_i i e y py m p n pn' f pf q pos
    obtain ⟨h1, hli, hc⟩ := and3 h
    obtain ⟨h1, hv, hn⟩ := and3 h1
    obtain ⟨hm, hNi⟩ := and2 h1
    obtain ⟨t, pt, kt⟩ := pen (p := pn') (p' := pf) hc
    obtain ⟨n1, n2, _⟩ := nameB_ok hn
    have e : m = ("append" : Str) := of_decide_eq_true hm
    subst e
    have po : PE Y (.Name y py) (tVar i) := pe_var (i := i) (by rw [hN]; exact of_decide_eq_true hNi) (by rw [hsc]; exact visB_ok hv) n1 n2
    have pa : PA Y [.Attribute (.Name n pn') f pf] (tCons t tNil) := pa_cons pt pa_nil rfl
    refine PSs.imp (pss_cons (ps_expr (pe_bm PySem.F.plainAttrs_list PySem.F.slot_list_append PySem.F.type_list_append mt_append po pa (by rfl) (few_one rfl) hli rfl (by rfl)) rfl) pss_nil) fun D σ H q => ?_
    obtain ⟨ρ, F, ρ', g, S, e, xi, q⟩ := q
    unfold suite at e
    dsimp only at e
    split at e
    · rename_i xs hi
      split at e
      · rename_i cs
        cases e
        obtain ⟨p', k1, kF, vs, k2, k3⟩ := S.slot i _ hi
        refine ⟨_, k1, .inl ⟨rfl, vs, SqL.of k2⟩, kt xi fun v rv => ?_⟩
        obtain ⟨S2, st2⟩ := S.change (u := .lst (vs ++ [v])) (o' := .lst (xs ++ [g])) hi k1 ⟨_, upd_same, k3.append (.cons rv .nil)⟩
        refine ⟨p', vs, v, rfl, rfl, k2, ?_, q σ F _ st2 S2 .refl⟩
        rw [k3.length]
        exact Nat.lt_of_lt_of_le (of_decide_eq_true cs) lim_le
      · cases e
    · cases e
  · cases h
/-! ### try -/
def enO (c : Nat) : Option Nat → Option (Nat × Nat)
  | none => none
  | some e => some (e, c)
def hsL (T : Errs) (K : Frag) (fx : Nat → Bool) (hs : List (Nat × Option Nat × U)) : List Cl := hs.map fun h => (.ref (T.at_ h.1), h.2.1, fun a cls d => tU T K fx h.2.2 (enO h.1 h.2.1) a cls d)
theorem hs_ok {X : Cx} {sc : Scope} {fx : Nat → Bool} (C : Sok fnm T call k N X sc) : ∀ {hs : List (Nat × Option Nat × U)} {hds : List ExceptHandler}, mHs T.nm N sc fx hs hds = true → HdA X hds (hsL T X.K fx hs) := by
  intro hs
  induction hs with
  | nil =>
    intro hds h
    cases hds with
    | nil => exact .nil
    | cons _ _ => unfold mHs at h; cases h
  | cons a hs ih =>
    intro hds h
    unfold mHs at h
    split at h
    · rename_i heq; cases heq
    · rename_i c u hs' y py b0 su pos hds heq
      cases heq
      obtain ⟨h1, hu, hr⟩ := and3 h
      obtain ⟨h1, h2, h3⟩ := and3 h1
      have hnm : T.nm c = some y := of_decide_eq_true h1
      have E := C.G.ex c y hnm
      refine .cons (c := .ref (T.at_ c)) ⟨gloB_ok C.hsc h2, (nameB_ok h3).1, .inl E.gC⟩ (show NmOk X none none from trivial) (fun a oe cls d pn z1 z2 => ?_) (ih hr)
      exact u_ok C z1 z2 (fun _ _ z => by cases z) hu
    · rename_i c e u hs' y py n b0 su pos hds heq
      cases heq
      obtain ⟨h1, hu, hr⟩ := and3 h
      obtain ⟨h1, hx⟩ := and2 h1
      obtain ⟨h1, h2, h3⟩ := and3 h1
      obtain ⟨x1, x2, x3⟩ := and3 hx
      have hnm : T.nm c = some y := of_decide_eq_true h1
      have E := C.G.ex c y hnm
      have hk : X.env.kindOf n = some .local := by
        show X.env.scope.names.lookup n = _
        rw [C.hsc]; exact of_decide_eq_true x2
      refine .cons (c := .ref (T.at_ c)) ⟨gloB_ok C.hsc h2, (nameB_ok h3).1, .inl E.gC⟩ (show NmOk X (some e) (some n) from ⟨by rw [C.hN]; exact of_decide_eq_true x1, hk⟩) (fun a oe cls d pn z1 z2 => ?_) (ih hr)
      exact u_ok C z1 z2 (fun _ _ z => by cases z; exact ⟨y, hnm⟩) hu
    · cases h
/-- the clauses -/
theorem caught_ok {K : Frag} {W : WX} {fx : Nat → Bool} {D : Ends} {ρ ρ1 : Env} {F F1 H H1 : Hp} {σ σ1 : St} {c : Nat} {f : Mlg.D} {cls : Value} {d : Option Addr} (em : ∀ c c' x x', T.nm c = some x → T.nm c' = some x' → PySem.W.exmOne K (.ref (T.at_ c)) (.ref (T.at_ c')) = some (decide (c = c')))
    (st : Step ρ σ F H ρ1 σ1 F1 H1) (S : Sim K ρ1 F1 σ1 H1) (fxs : Fx fx σ σ1) (ex : ExcR T K F1 H1 c f cls d) {sc : Scope} : ∀ {hs : List (Nat × Option Nat × U)} {hds : List ExceptHandler}, mHs T.nm N sc fx hs hds = true → OutS T K W fx ρ F σ H (caught ρ1 c f hs) D → wMA K W D (hsL T K fx hs) cls d σ1 H1 := by
  intro hs
  induction hs with
  | nil => exact fun _ q => q σ1 F1 H1 cls d st S fxs ex
  | cons a hs ih =>
    intro hds h q
    unfold mHs at h
    split at h
    · rename_i heq; cases heq
    · rename_i c' u hs' y py b0 su pos hds heq
      cases heq
      obtain ⟨h1, hu, hr⟩ := and3 h
      obtain ⟨h1, h2, h3⟩ := and3 h1
      have hnm : T.nm c' = some y := of_decide_eq_true h1
      obtain ⟨ec, ⟨x, hx⟩, _⟩ := id ex
      subst ec
      refine ⟨_, em c c' x y hx hnm, fun b a ha => ?_, fun b => ?_⟩
      · have b : c = c' := of_decide_eq_true b
        have q : OutS T K W fx ρ F σ H (if c = c' then (Res.of (suite ρ1 f u)).bind fun ρ' => .ok (ρ', none) else caught ρ1 c f hs) D := q
        rw [if_pos b] at q
        cases e : suite ρ1 f u with
        | none => rw [e] at q; exact q.elim
        | some ρ2 =>
          rw [e] at q
          exact ⟨ρ1, F1, ρ2, f, S, e, trivial, fun σ' F' H' st' S' fx' => q σ' F' H' (st.trans st') S' (fxs.trans fx')⟩
      · have b : ¬ c = c' := of_decide_eq_false b
        have q : OutS T K W fx ρ F σ H (if c = c' then (Res.of (suite ρ1 f u)).bind fun ρ' => .ok (ρ', none) else caught ρ1 c f hs) D := q
        rw [if_neg b] at q
        exact ih hr q
    · rename_i c' e u hs' y py n b0 su pos hds heq
      cases heq
      obtain ⟨h1, hu, hr⟩ := and3 h
      obtain ⟨h1, hx⟩ := and2 h1
      obtain ⟨h1, h2, h3⟩ := and3 h1
      obtain ⟨_, _, x3⟩ := and3 hx
      have hfx : fx e = false := by simpa using x3
      have hnm : T.nm c' = some y := of_decide_eq_true h1
      obtain ⟨ec, ⟨x, hx⟩, _⟩ := id ex
      subst ec
      refine ⟨_, em c c' x y hx hnm, fun b a ha => ?_, fun b => ?_⟩
      · have b : c = c' := of_decide_eq_true b
        subst b
        have q : OutS T K W fx ρ F σ H (if c = c then (if e < ρ1.length then (Res.of (suite (ρ1.set e .un) f u)).bind fun ρ' => .ok (ρ'.set e .un, none) else .no) else caught ρ1 c f hs) D := q
        rw [if_pos rfl] at q
        by_cases hl : e < ρ1.length
        · rw [if_pos hl] at q
          cases es : suite (ρ1.set e .un) f u with
          | none => rw [es] at q; exact q.elim
          | some ρ2 =>
            rw [es] at q
            have hs1 : e < σ1.length := by rw [← S.len]; exact hl
            refine ⟨ρ1.set e .un, F1, ρ2, f, S.putUn hl, es, ⟨List.getElem?_set_self hs1, ex⟩, fun σ' F' H' st' S' fx' => ?_⟩
            have hl2 : e < ρ2.length := by rw [S'.len, fx'.1]; show e < (σ1.set e _).length; simpa using hs1
            exact q (σ'.set e none) F' H' ((st.trans (Step.setSlot hl rfl)).trans (st'.trans (Step.setSlot hl2 rfl))) (S'.putUn hl2) ((fxs.trans (Fx.set hfx)).trans (fx'.trans (Fx.set hfx)))
        · rw [if_neg hl] at q; exact q.elim
      · have b : ¬ c = c' := of_decide_eq_false b
        have q : OutS T K W fx ρ F σ H (if c = c' then (if e < ρ1.length then (Res.of (suite (ρ1.set e .un) f u)).bind fun ρ' => .ok (ρ'.set e .un, none) else .no) else caught ρ1 c f hs) D := q
        rw [if_neg b] at q
        exact ih hr q
    · cases h
theorem s_tri {b : Mlg.Ss} (hs : List (Nat × Option Nat × U)) (ib : PrSs fnm T call k np N b) : PrS fnm T call k np N (.tri b hs) := by
  intro X W sc fx x C tk h
  unfold mS at h
  try dsimp only at h
  split at h
  · rename_i body h0 hds pos
    obtain ⟨hh, hb⟩ := and2 h
    refine PS.imp (ps_tryA C.stk C.frm (by rw [C.hN]; exact C.nd) tk (tb := fun W => LS T X.K W fx (Mlg.execs call np b)) (fun W' pn xe tk' po' => ?_) (hs_ok C hh)) fun D σ H q => ?_
    · exact ib (X.tr pn xe) W' sc fx body { C with po := po' } tk' hb
    · obtain ⟨ρ, F, S, q⟩ := q
      refine ⟨ρ, F, S, ?_⟩
      unfold Mlg.exec at q
      cases e : Mlg.execs call np b ρ with
      | no => rw [e] at q; exact q
      | ok p =>
        rw [e] at q
        obtain ⟨ρ', o⟩ := p
        cases o <;> exact q
      | exc c f ρ' =>
        rw [e] at q
        exact fun σ' F' H' cls d st S' fxs ex => caught_ok C.G.em st S' fxs ex hh q
  · cases h
end
end Msd
/-! Sound22: xs[a], xs[b] = xs[c], xs[d]; all statements. -/
namespace Msd
open PySem PySem.Spec PyProof.Rows L2 Mlg
section
variable {fnm : Nat → Option Str} {T : Errs} {call : CallT} {k np : Nat} {N : List Str}
theorem s_swp (i : Nat) (a b c d : Mlg.E) : PrS fnm T call k np N (.swp i a b c d) := by
  intro X W sc fx x C tk h
  unfold mS at h
  try dsimp only at h
  split at h
  · rename_i y py za pa y' py' zb pb j p u v j2 p2 pos
    obtain ⟨h1, hpl, hm⟩ := and3 h
    obtain ⟨h1, hn, hy⟩ := and3 h1
    obtain ⟨hNi, hv⟩ := and2 h1
    obtain ⟨hy, hpa, hpb⟩ := and3 hy
    obtain ⟨hpu, hpv⟩ := and2 hpl
    obtain ⟨ha, hb, hcd⟩ := and3 hm
    obtain ⟨hc, hd⟩ := and2 hcd
    have hy : y' = y := of_decide_eq_true hy
    subst hy
    obtain ⟨n1, n2, _⟩ := nameB_ok hn
    have po : ∀ {q : Pos}, PE X (.Name y' q) (tVar i) := fun {q} => pe_var (i := i) (by rw [C.hN]; exact of_decide_eq_true hNi) (by rw [C.hsc]; exact visB_ok hv) n1 n2
    have pt := pe_tup (x1 := j2) (pos := p2) (pa_cons ((allE (.ix (.var i) c)).1 X W sc u C.toCok tk hc) (pa_cons ((allE (.ix (.var i) d)).1 X W sc v C.toCok tk hd) pa_nil (starEach_plain hpv)) (starEach_plain hpu))
    have g1 := pg_sub (pos := pa) (po (q := py)) ((allE a).1 X W sc za C.toCok tk ha) (set_any (by have := C.room.un; omega)) (by intro v; cases za <;> first | rfl | cases hpa)
    have g2 := pg_sub (pos := pb) (po (q := py')) ((allE b).1 X W sc zb C.toCok tk hb) (set_any (by have := C.room.un; omega)) (by intro v; cases zb <;> first | rfl | cases hpb)
    have hw : swappedStores [.Tuple [.Subscript (.Name y' py) za pa, .Subscript (.Name y' py') zb pb] j p] (.Tuple [u, v] j2 p2) X.env = pure none := sw_none (by rfl)
    refine PS.imp (ps_asg pt (pg_tup (n := 2) (k := j) (pos := p) C.calm (pgs_cons g1 (pgs_cons g2 pgs_nil))) rfl hw) fun D σ H q => ?_
    obtain ⟨ρ, F, S, q⟩ := q
    unfold Mlg.exec at q
    split at q
    · refine ⟨ρ, F, S, OutS.bind q fun r1 ρ1 w1 F1 H1 s1 S1 rl1 h1 => ⟨ρ1, F1, S1, OutS.bind1 (Rl := relE X.K σ) s1 h1 fun r2 ρ2 w2 F2 H2 s2 S2 rl2 h2 => ?_⟩⟩
      have s12 := s1.trans s2
      cases r1 with
      | tmp _ => exact h2.elim
      | loc _ => exact h2.elim
      | val d1 =>
      cases r2 with
      | tmp _ => exact h2.elim
      | loc _ => exact h2.elim
      | val d2 =>
      try dsimp only at h2
      split at h2
      · rename_i hob
        refine ⟨by show 2 ≤ sizeLine; decide, fun pp hp => ?_⟩
        have S3 := S2.laid (u := .tup [w1, w2]) hp
        have s3 := s12.trans (Step.laid (u := .tup [w1, w2]) hp)
        obtain ⟨q0, e0⟩ := hasObj_at S3 hob
        refine ⟨pp, [w1, w2], rfl, SqT.of upd_same, rfl, w1, [w2], rfl, _, e0, ρ2, F2, S3, OutS.bind1 (Rl := relE X.K σ) s3 h2 fun r4 ρ4 k4 F4 H4 s4 S4 rl4 h4 => ?_⟩
        cases r4 with
        | tmp _ => exact h4.elim
        | loc _ => exact h4.elim
        | val j1 =>
        try dsimp only at h4
        cases es : storeD ρ4 i j1 d1 with
        | none => rw [es] at h4; exact h4.elim
        | some ρ5 =>
        rw [es] at h4
        have s34 := s3.trans s4
        have rl1' : Rep X.K F4 w1 d1 := Rep.mono (s2.ext.trans s4.ext) rl1
        obtain ⟨H5, c5, S5, st5⟩ := store_ok' S4 e0 rl4 rl1' es
        have s5 := s34.trans st5
        refine c5 _ ⟨w2, [], rfl, _, e0, ρ5, F4, S5, OutS.bind1 (Rl := relE X.K σ) s5 h4 fun r6 ρ6 k6 F6 H6 s6 S6 rl6 h6 => ?_⟩
        cases r6 with
        | tmp _ => exact h6.elim
        | loc _ => exact h6.elim
        | val j2 =>
        try dsimp only at h6
        cases es2 : storeD ρ6 i j2 d2 with
        | none => rw [es2] at h6; exact h6.elim
        | some ρ7 =>
        rw [es2] at h6
        have rl2' : Rep X.K F6 w2 d2 := Rep.mono (s4.ext.trans s6.ext) rl2
        obtain ⟨H7, c7, S7, st7⟩ := store_ok' S6 e0 rl6 rl2' es2
        exact c7 _ ⟨rfl, h6 σ F6 H7 ((s5.trans s6).trans st7) S7 .refl⟩
      · exact h2.elim
    · exact q.elim
  · cases h
theorem s_sfld (i : Nat) (f : Str) {e : Mlg.E} : PrS fnm T call k np N (.sfld i f e) := by
  intro X W sc fx x C tk h
  unfold mS at h
  try dsimp only at h
  split at h
  · rename_i y py g pg v pos
    obtain ⟨h1, h2, hv⟩ := and3 h
    obtain ⟨h0, h1⟩ := and2 h1
    obtain ⟨hN, hvs, hn⟩ := and3 h1
    obtain ⟨hg, hf, hcb⟩ := and3 h2
    obtain ⟨n1, n2, _⟩ := nameB_ok hn
    have hg : g = f := of_decide_eq_true hg
    subst hg
    have hf : g ∈ fldNames := by simpa using hf
    have DK := C.G.dk (of_decide_eq_true h0)
    have po : PE X (.Name y py) (tVar i) := pe_var (i := i) (by rw [C.hN]; exact of_decide_eq_true hN) (by rw [C.hsc]; exact visB_ok hvs) n1 n2
    refine PS.imp (ps_fld po ((allE e).1 X W sc v C.toCok tk hv) (swaps_no (by simpa using hcb))) fun D σ H q => ?_
    obtain ⟨ρ, F, S, q⟩ := q
    refine ⟨ρ, F, S, OutS.bind q fun r ρ1 v F1 H1 st S1 rl h => ?_⟩
    try dsimp only at h
    cases ef : fix ρ1 r with
    | none => rw [ef] at h; exact h.elim
    | some p =>
      obtain ⟨d, ρ2⟩ := p
      rw [ef] at h
      try dsimp only at h
      obtain ⟨F2, st2, S2, hr⟩ := fix_step st S1 rl ef
      cases es : setFld ρ2 i g d with
      | none => rw [es] at h; exact h.elim
      | some ρ3 =>
        rw [es] at h
        unfold setFld at es
        split at es
        · rename_i fs hi
          split at es
          · rename_i hc
            cases es
            obtain ⟨_, hl⟩ := and2 hc
            have hl : fs.length < 900 := of_decide_eq_true hl
            obtain ⟨p, g1, g2, dx, gs, g3, a, rr, z⟩ := S2.slot i _ hi
            have hgl : gs.length = fs.length := by have := congrArg List.length a; simpa using this
            obtain ⟨S3, st3⟩ := S2.change (u := .ins (deckC X.K) dx (L2.putF g v gs)) (o' := .ins (putFd g d fs)) hi g1 ⟨dx, _, upd_same, put_names a, put_reps hr a rr, fun n hn => (put_mem hn).elim (fun e => e ▸ hf) (z n)⟩
            exact ⟨_, g1, p, _, dx, gs, rfl, g3, DK.cls, DK.no g hf, by omega, h σ F2 _ (st2.trans st3) S3 .refl⟩
          · cases es
        · cases es
  · cases h
mutual
theorem stS : ∀ s : Mlg.S, PrS fnm T call k np N s
  | .asg i e => s_asg i
  | .par is es => s_par is
  | .unp is e => s_unp is
  | .sub i ix e => s_sub i
  | .swp i a b c d => s_swp i a b c d
  | .aug i o e => s_aug i o
  | .exp e => s_exp
  | .ret e => s_ret
  | .cond c a b => s_cond (stSs a) (stSs b)
  | .loop tg it b => s_loop (stSs b)
  | .whil c b => s_whil (stSs b)
  | .rais c e => s_rais c e
  | .tri b hs => s_tri hs (stSs b)
  | .sfld i f e => s_sfld i f
  | .pass => s_pass
  | .stuck => s_stuck
theorem stSs : ∀ s : Mlg.Ss, PrSs fnm T call k np N s
  | .nil => ss_nil
  | .cons s r => ss_cons (stS s) (stSs r)
end
end
end Msd
/-! Sound23: defs. -/
namespace Msd
open PySem PySem.Spec PyProof.Rows L2 Mlg
def fxOf (d : Def) : Nat → Bool := fun i => decide (i < d.np) && !d.reb.contains i
def scopeB (N : List Str) (np : Nat) (sc : Scope) : Bool :=
  decide (sc.kind = .function) && decide (sc.isCoroutine = false) && decide (sc.isGenerator = false) && decide N.Nodup && decide (np ≤ N.length) && (N.take np).all (locB sc) && sc.names.all (fun y => decide (y.2 ≠ .free))
theorem scopeB_ok {N : List Str} {np : Nat} {sc : Scope} (h : scopeB N np sc = true) : FnScope N (N.take np) sc ∧ np ≤ N.length := by
  obtain ⟨h1, hp, hf⟩ := and3 h
  obtain ⟨h1, hnd, hle⟩ := and3 h1
  obtain ⟨hk, hco, hg⟩ := and3 h1
  have hle : np ≤ N.length := of_decide_eq_true hle
  refine ⟨⟨of_decide_eq_true hk, of_decide_eq_true hco, of_decide_eq_true hg, of_decide_eq_true hnd, ?_, fun x hx => ?_, fun y hy => ?_⟩, hle⟩
  · rw [List.length_take, Nat.min_eq_left hle]
  · exact locB_ok (List.all_eq_true.mp hp x hx)
  · exact of_decide_eq_true (List.all_eq_true.mp hf y hy)
section
variable {K : Frag} {F H F' H' : Hp}
theorem un_get {as : Env} {m i : Nat} {s : Slot} {o : O} (h : (as ++ List.replicate m Slot.un)[i]? = some s) (ho : isOwn s = some o) : as[i]? = some s := by
  rw [List.getElem?_append] at h
  split at h
  · exact h
  · rw [List.getElem?_replicate] at h
    split at h
    · cases h; cases ho
    · cases h
theorem st_get {vs : List V} {m i : Nat} {v : V} (hi : i < vs.length) : (vs.map some ++ List.replicate m none)[i]? = (vs.map some)[i]? := by
  rw [List.getElem?_append_left (by simpa using hi)]
/-- a def's names at its start -/
theorem Sim.begin {as : Env} {vs : List V} {m : Nat} (S : Sim K as F (vs.map some) H) : Sim K (as ++ List.replicate m .un) F (vs.map some ++ List.replicate m none) H := by
  have hl : as.length = vs.length := by have := S.len; simpa using this
  have old : ∀ {i : Nat} {v : V}, i < vs.length → (vs.map some ++ List.replicate m (none : Option V))[i]? = (vs.map some)[i]? := fun {i v} hi => List.getElem?_append_left (by simpa using hi)
  refine ⟨S.fh, by simp [hl], fun i s h => ?_, fun i j si sj oi oj p h1 h2 o1 o2 e1 e2 => ?_⟩
  · by_cases hi : i < as.length
    · rw [List.getElem?_append_left hi] at h
      have hs := S.slot i s h
      have e : (vs.map some ++ List.replicate m (none : Option V))[i]? = (vs.map some)[i]? := List.getElem?_append_left (by simpa [hl] using hi)
      cases s <;> first | trivial | (simp only [SlotR] at hs ⊢; rw [e]; exact hs)
    · rw [List.getElem?_append_right (by omega), List.getElem?_replicate] at h
      split at h
      · cases h; trivial
      · cases h
  · have a1 := un_get h1 o1
    have a2 := un_get h2 o2
    have l1 := lt_of_get a1
    have l2 := lt_of_get a2
    rw [List.getElem?_append_left (by simpa [hl] using l1)] at e1
    rw [List.getElem?_append_left (by simpa [hl] using l2)] at e2
    exact S.sep i j si sj oi oj p a1 a2 o1 o2 e1 e2
theorem own_begin {as : Env} {vs : List V} {m : Nat} {p : Addr} (hl : as.length = vs.length) : Own (as ++ List.replicate m .un) (vs.map some ++ List.replicate m none) p ↔ Own as (vs.map some) p := by
  constructor
  · rintro ⟨i, s, o, h1, h2, h3⟩
    have a := un_get h1 h2
    refine ⟨i, s, o, a, h2, ?_⟩
    rw [List.getElem?_append_left (by have := lt_of_get a; simpa [hl] using this)] at h3
    exact h3
  · rintro ⟨i, s, o, h1, h2, h3⟩
    have l := lt_of_get h1
    exact ⟨i, s, o, by rw [List.getElem?_append_left l]; exact h1, h2, by rw [List.getElem?_append_left (by simpa [hl] using l)]; exact h3⟩
theorem ownU_begin {as : Env} {vs : List V} {m : Nat} {p : Addr} (hl : as.length = vs.length) : OwnU (as ++ List.replicate m .un) (vs.map some ++ List.replicate m none) p ↔ OwnU as (vs.map some) p := by
  constructor
  · rintro ⟨i, o, h1, h3⟩
    have a := un_get h1 (o := o) rfl
    refine ⟨i, o, a, ?_⟩
    rw [List.getElem?_append_left (by have := lt_of_get a; simpa [hl] using this)] at h3
    exact h3
  · rintro ⟨i, o, h1, h3⟩
    have l := lt_of_get h1
    exact ⟨i, o, by rw [List.getElem?_append_left l]; exact h1, by rw [List.getElem?_append_left (by simpa [hl] using l)]; exact h3⟩
theorem mask_get {reb : List Nat} : ∀ {l : List Slot} {k i : Nat} {s : Slot}, (mask reb k l)[i]? = some s → (reb.contains (k + i) = true ∧ s = .un ∧ i < l.length) ∨ (reb.contains (k + i) = false ∧ l[i]? = some s)
  | [], _, _, _, h => by simp [mask] at h
  | t :: l, k, 0, s, h => by
    simp only [mask, List.getElem?_cons_zero, Option.some.injEq] at h
    by_cases c : reb.contains k = true
    · rw [if_pos c] at h; exact .inl ⟨c, h.symm, by simp⟩
    · rw [if_neg c] at h; exact .inr ⟨by simpa using c, by simp [h]⟩
  | t :: l, k, i + 1, s, h => by
    simp only [mask, List.getElem?_cons_succ] at h
    rcases mask_get h with ⟨a, b, c⟩ | ⟨a, b⟩
    · exact .inl ⟨by rw [show k + (i + 1) = k + 1 + i by omega]; exact a, b, by simpa using c⟩
    · exact .inr ⟨by rw [show k + (i + 1) = k + 1 + i by omega]; exact a, by simpa using b⟩
theorem mask_len {reb : List Nat} : ∀ {l : List Slot} {k : Nat}, (mask reb k l).length = l.length
  | [], _ => rfl
  | _ :: l, k => by simp [mask, mask_len (l := l)]
/-- the parameters behind it -/
theorem finish {d : Def} {as ρ' : Env} {vs : List V} {m : Nat} {σ' : St} (S0 : Sim K as F (vs.map some) H) (hnp : as.length = d.np) (st : Step (as ++ List.replicate m .un) (vs.map some ++ List.replicate m none) F H ρ' σ' F' H') (S : Sim K ρ' F' σ' H') (fx : Fx (fxOf d) (vs.map some ++ List.replicate m none) σ') :
    Step as (vs.map some) F H (mask d.reb 0 (ρ'.take d.np)) (vs.map some) F' H' ∧ Sim K (mask d.reb 0 (ρ'.take d.np)) F' (vs.map some) H' ∧ ∀ p, Own (mask d.reb 0 (ρ'.take d.np)) (vs.map some) p → Own ρ' σ' p := by
  have hl : as.length = vs.length := by have := S0.len; simpa using this
  have hσ : σ'.length = ρ'.length := S.len.symm
  -- one of them
  have one : ∀ {i : Nat} {s : Slot}, (mask d.reb 0 (ρ'.take d.np))[i]? = some s → s = .un ∨ (ρ'[i]? = some s ∧ σ'[i]? = (vs.map some)[i]?) := by
    intro i s h
    rcases mask_get h with ⟨_, b, _⟩ | ⟨a, b⟩
    · exact .inl b
    · have li : i < d.np := by have := lt_of_get b; simp at this; omega
      rw [List.getElem?_take_of_lt li] at b
      refine .inr ⟨b, ?_⟩
      have f := fx.2 i (by simp only [fxOf, Bool.and_eq_true, decide_eq_true_eq, Bool.not_eq_true']; exact ⟨li, by simpa using a⟩)
      rw [f, List.getElem?_append_left (by simp; omega)]
  have ow : ∀ p, Own (mask d.reb 0 (ρ'.take d.np)) (vs.map some) p → Own ρ' σ' p := by
    rintro p ⟨i, s, o, h1, h2, h3⟩
    rcases one h1 with rfl | ⟨a, b⟩
    · cases h2
    · exact ⟨i, s, o, a, h2, by rw [b]; exact h3⟩
  have owU : ∀ p, OwnU (mask d.reb 0 (ρ'.take d.np)) (vs.map some) p → OwnU ρ' σ' p := by
    rintro p ⟨i, o, h1, h3⟩
    rcases one h1 with z | ⟨a, b⟩
    · cases z
    · exact ⟨i, o, a, by rw [b]; exact h3⟩
  refine ⟨⟨st.ext, fun a o h n => st.keep a o h fun q => n ((ownU_begin hl).mp q), st.dom, fun p q => (st.own p (ow p q)).elim (fun z => .inl ((own_begin hl).mp z)) .inr, fun p q => (st.ownU p (owU p q)).elim (fun z => .inl ((ownU_begin hl).mp z)) .inr, fun p h1 h2 h3 h4 => st.frz p h1 h2 (fun q => h3 ((ownU_begin hl).mp q)) h4⟩, ⟨S.fh, ?_, fun i s h => ?_, fun i j si sj oi oj p h1 h2 o1 o2 e1 e2 => ?_⟩, ow⟩
  · rw [mask_len, List.length_take, S.len, fx.1]; simp; omega
  · rcases one h with rfl | ⟨a, b⟩
    · trivial
    · have hs := S.slot i s a
      cases s <;> first | trivial | (simp only [SlotR] at hs ⊢; rw [← b]; exact hs)
  · rcases one h1 with rfl | ⟨a1, b1⟩
    · cases o1
    rcases one h2 with rfl | ⟨a2, b2⟩
    · cases o2
    exact S.sep i j si sj oi oj p a1 a2 o1 o2 (by rw [b1]; exact e1) (by rw [b2]; exact e2)
end
/-- a def of the table against its text -/
def defB (fnm ern : Nat → Option Str) (d : Def) (N : List Str) (st : Stmt) : Bool :=
  scopeB N d.np (defScope st) && decide (N.length = d.np + d.ns) && mSs fnm ern N (defScope st) (fxOf d) d.body (defBody st)
section
variable {fnm : Nat → Option Str} {T : Errs} {tab : Nat → Option Def} {P : Program} {w : World} {K : Frag} {mg : Str → Option Value} {base : Heap}
theorem def_ok {n f : Nat} {d : Def} {N : List Str} {x qual : Str} {st : Stmt} {a : Addr} {fd : FuncData} (G : Glob fnm T (callF tab n) n P w K mg base) (Fu : L2.FunD K x qual (defArgs st) (defBody st) (defScope st) [] [] a fd) (hd : tab f = some d) (hB : defB fnm T.nm d N st = true) :
    FnOk P w K mg base (L2.CX P w) (2 * (n + 1) + 2) a fd (N.take d.np) (spF T K (callF tab (n + 1)) f) := by
  obtain ⟨hs, hlen, hm⟩ := and3 hB
  obtain ⟨FS, hle⟩ := scopeB_ok hs
  have hlen : N.length = d.np + d.ns := of_decide_eq_true hlen
  have hps : (N.take d.np).length = d.np := by rw [List.length_take]; omega
  -- what a call asks
  have ask : ∀ {as : Env} {F : Hp} {vs : List V} {H : Hp} {E : XK} {Q : VK}, OutF T K E as F (vs.map some) H (callF tab (n + 1) f as) Q → (as.length = d.np ∧ lendOk d.reb 0 as = true) ∧ OutF T K E as F (vs.map some) H (match execs (callF tab n) d.np d.body (as ++ List.replicate d.ns .un) with
        | .ok (ρ, none) => .ok (.val .none, mask d.reb 0 (ρ.take d.np))
        | .ok (ρ, some r) => .ok (r, mask d.reb 0 (ρ.take d.np))
        | .exc c f ρ => .exc c f (mask d.reb 0 (ρ.take d.np))
        | .no => .no) Q := by
    intro as F vs H E Q h
    unfold callF at h
    rw [hd] at h
    dsimp only at h
    split at h
    · rename_i c; exact ⟨c, h⟩
    · exact h.elim
  refine FunD.ok Fu FS (fun vs H Q E q => ?_) fun cdv A outer s H vs Q E hr q => ?_
  · obtain ⟨as, F, S, q⟩ := q
    have := (ask q).1.1
    have := S.len
    simp at this
    omega
  · obtain ⟨as, F, S, q⟩ := q
    obtain ⟨⟨hnp, _⟩, q⟩ := ask q
    have hl : as.length = vs.length := by have := S.len; simpa using this
    let X := cxOf (L2.CX P w) P w K mg base N qual (defScope st) a cdv A outer s H E
    have C : Sok fnm T (callF tab n) n N X (defScope st) := { hN := rfl, nd := FS.nd, hsc := rfl, calm := rfl, room := hr, G := G, kind := FS.kind, fn := fun _ => rfl, stk := rfl, frm := rfl, po := passes_of rfl }
    have tk : Takes X (fun cls d _ H => E cls d H) := takes_of (E := E) rfl rfl rfl rfl
    refine ⟨_, stSs (np := d.np) d.body X _ _ (fxOf d) _ C tk hm, ?_⟩
    have hst : L2.start N vs = vs.map some ++ List.replicate d.ns none := by
      unfold L2.start
      rw [show N.length - vs.length = d.ns by omega]
    rw [hst]
    refine ⟨as ++ List.replicate d.ns Slot.un, F, S.begin, ?_⟩
    show OutS T K _ _ _ _ _ _ (execs (callF tab n) d.np d.body (as ++ List.replicate d.ns .un)) _
    cases e : execs (callF tab n) d.np d.body (as ++ List.replicate d.ns .un) with
    | no => rw [e] at q; exact q
    | exc c f ρ' =>
      rw [e] at q
      intro σ' F' H' cls dd st' S' fx' ex
      obtain ⟨s2, S2, _⟩ := finish S hnp st' S' fx'
      exact q F' H' cls dd s2 S2 ex
    | ok p =>
      rw [e] at q
      obtain ⟨ρ', o⟩ := p
      cases o with
      | none =>
        intro σ' F' H' st' S' fx'
        obtain ⟨s2, S2, _⟩ := finish S hnp st' S' fx'
        exact q .non F' H' s2 S2 .non
      | some r =>
        intro v σ' F' H' st' S' fx' rl
        obtain ⟨s2, S2, ow⟩ := finish S hnp st' S' fx'
        refine q v F' H' s2 S2 ?_
        cases r with
        | val _ => exact rl
        | loc _ => exact rl.elim
        | tmp o =>
          obtain ⟨p, a1, a2, a3, a4, a5⟩ := rl
          exact ⟨p, a1, a2, a3, fun z => a4 (ow p z), a5.elim .inl fun z => .inr ((own_begin hl).mp z)⟩
/-- the defs of a text -/
structure Txt (fnm : Nat → Option Str) (T : Errs) (tab : Nat → Option Def) (K : Frag) (mg : Str → Option Value) : Prop extends GlobS fnm T K mg where
  def_ : ∀ f x, f < 100000 → fnm f = some x → ∃ (d : Def) (N : List Str) (st : Stmt) (qual : Str) (a : Addr) (fd : FuncData), tab f = some d ∧ mg x = some (.ref a) ∧ L2.FunD K x qual (defArgs st) (defBody st) (defScope st) [] [] a fd ∧ Binds K fd (N.take d.np) [] ∧ defB fnm T.nm d N st = true
  mtd : ∀ f m, f < 100000 → fnm (200000 + f) = some m → ∃ (d : Def) (N : List Str) (st : Stmt) (qual : Str) (a : Addr) (fd : FuncData), tab f = some d ∧ Meth K (deckC K) m a ∧ L2.FunD K m qual (defArgs st) (defBody st) (defScope st) [] [] a fd ∧ Binds K fd (N.take d.np) [] ∧ defB fnm T.nm d N st = true
  mkd : ∀ f, f < 100000 → fnm (400000 + f) = some ("__init__" : Str) → ∃ (d : Def) (N : List Str) (st : Stmt) (qual : Str) (a : Addr) (fd : FuncData), tab f = some d ∧ Mk K (deckC K) a ∧ L2.FunD K "__init__" qual (defArgs st) (defBody st) (defScope st) [] [] a fd ∧ Binds K fd (N.take d.np) [] ∧ defB fnm T.nm d N st = true
theorem fn_zero {k f : Nat} {a : Addr} {fd : FuncData} {ps : List Str} : FnOk P w K mg base (L2.CX P w) k a fd ps (spF T K (callF tab 0) f) :=
  ⟨fun vs H Q E q => by obtain ⟨as, F, S, q⟩ := q; exact q.elim, fun A outer s H args us vs Q E _ _ _ _ q => by obtain ⟨as, F, S, q⟩ := q; exact q.elim⟩
theorem Txt.glob (X : Txt fnm T tab K mg) : ∀ n, Glob fnm T (callF tab n) n P w K mg base
  | 0 => ⟨X.toGlobS, fun f x hf0 hf => by
    obtain ⟨d, N, st, qual, a, fd, h1, h2, h3, h4, h5⟩ := X.def_ f x hf0 hf
    exact ⟨a, fd, _, h2, h3.kp, h4, fn_zero⟩, fun f m hf0 hf => by
    obtain ⟨d, N, st, qual, a, fd, h1, h2, h3, h4, h5⟩ := X.mtd f m hf0 hf
    exact ⟨a, fd, _, h2, h4, fn_zero⟩, fun f hf0 hf => by
    obtain ⟨d, N, st, qual, a, fd, h1, h2, h3, h4, h5⟩ := X.mkd f hf0 hf
    exact ⟨a, fd, _, h2, h4, fn_zero⟩⟩
  | n + 1 => ⟨X.toGlobS, fun f x hf0 hf => by
    obtain ⟨d, N, st, qual, a, fd, h1, h2, h3, h4, h5⟩ := X.def_ f x hf0 hf
    exact ⟨a, fd, _, h2, h3.kp, h4, def_ok (X.glob n) h3 h1 h5⟩, fun f m hf0 hf => by
    obtain ⟨d, N, st, qual, a, fd, h1, h2, h3, h4, h5⟩ := X.mtd f m hf0 hf
    exact ⟨a, fd, _, h2, h4, def_ok (X.glob n) h3 h1 h5⟩, fun f hf0 hf => by
    obtain ⟨d, N, st, qual, a, fd, h1, h2, h3, h4, h5⟩ := X.mkd f hf0 hf
    exact ⟨a, fd, _, h2, h4, def_ok (X.glob n) h3 h1 h5⟩⟩
end
end Msd
/-! Sound24: a text and its head's facts. -/
namespace Msd
open PySem PySem.Spec PyProof.Rows L2 Mlg
/-- a def of the text: its number, name, term, names, statement -/
structure Rc where
  id : Nat
  nm : Str
  d : Def
  N : List Str
  st : Stmt
  /-- a method of the class Deck -/
  cl : Bool := false
  qual : Str := nm
def tabOf (recs : List Rc) : Nat → Option Def := fun f => (recs.find? fun r => r.id == f).map (·.d)
def isIni (r : Rc) : Bool := decide (r.nm = ("__init__" : Str))
def fnmOf (recs : List Rc) (gs : List Nat) (dk : Bool) : Nat → Option Str := fun f =>
  if f < 100000 then (recs.find? fun r => r.id == f && !r.cl).map (·.nm)
  else if f < 200000 then (if gs.contains (f - 100000) then some (gnm (f - 100000)) else none)
  else if f < 300000 then (recs.find? fun r => r.id == f - 200000 && (r.cl && !isIni r)).map (·.nm)
  else if f < 400000 then (if dk = true then some "Deck" else none)
  else if f < 500000 then (recs.find? fun r => r.id == f - 400000 && (r.cl && isIni r)).map (·.nm)
  else if 600000 ≤ f ∧ f < 600014 then some (enm (f - 600000)) else none
def ernOf (cs : List Nat) : Nat → Option Str := fun c => if cs.contains c then some (enm c) else none
def errOf (K : Frag) (cs : List Nat) : Errs := ⟨fun c => He.ga K (enm c), fldOf, ernOf cs⟩
def Rc.dd (r : Rc) : He.DefD := ⟨if r.cl = true then ("Deck", some r.nm) else (r.nm, none), r.nm, r.qual, defArgs r.st, defBody r.st, defScope r.st, [], []⟩
def gloFa (g : Nat) : He.Fa := match glov g with
  | .int i => .int (gnm g) i
  | .str x => .str (gnm g) x
  | _ => .free (gnm g)
def kxB (K : Frag) (c : Nat) : Bool :=
  ((PySem.W.clsIn K (He.ga K (enm c))).isSome && decide (PySem.W.findIn K (.ref (He.ga K (enm c))) "__getattribute__" = some (some (.builtin "BaseException.__getattribute__"))) && decide (PySem.W.findIn K (.ref (He.ga K (enm c))) "__getattr__" = some none)) &&
  (decide (PySem.W.subIn K (.ref (He.ga K (enm c))) (.type "BaseException") = some true) && PySem.W.hasDictIn K (He.ga K (enm c)) && decide (PySem.W.findIn K (.ref (He.ga K (enm c))) "__class__" = some (some (.builtin "object.__class__")))) &&
  (decide (PySem.W.specialIn K (.builtin "object.__class__") "__get__" = some (some (.builtin "getset_descriptor.__get__"))) && decide (PySem.W.takesIn K (.builtin "object.__class__") = some true) && decide (PySem.W.mroIn K (He.ga K (enm c)) (.type "object") = some true)) &&
  ((List.range 14).all fun c' => decide (PySem.W.kitOne K (.ref (He.ga K (enm c))) (.ref (He.ga K (enm c'))) = some (decide (c' = 0) || decide (c' = c)))) &&
  (decide (PySem.W.kitOne K (.ref (He.ga K (enm c))) (.type "ValueError") = some true) && (match fldOf c with
    | none => true
    | some f => xfB K (He.ga K (enm c)) && decide (PySem.W.findIn K (.ref (He.ga K (enm c))) f = some none)))
theorem kxB_ok {K : Frag} {c : Nat} (h : kxB K c = true) : KxP K c := by
  obtain ⟨h, h5, h6⟩ := and3' h
  obtain ⟨h, h4⟩ := and2 h
  obtain ⟨h1, h2, h3⟩ := and3 h
  obtain ⟨a1, a2, a3⟩ := and3 h1
  obtain ⟨b1, b2, b3⟩ := and3 h2
  obtain ⟨c1, c2, c3⟩ := and3 h3
  refine ⟨⟨a1, of_decide_eq_true a2, of_decide_eq_true a3, of_decide_eq_true b1, b2, of_decide_eq_true b3, of_decide_eq_true c1, of_decide_eq_true c2, of_decide_eq_true c3⟩, fun c' hc' => of_decide_eq_true (List.all_eq_true.mp h4 c' (List.mem_range.mpr hc')), of_decide_eq_true h5, fun f hf => ?_⟩
  rw [hf] at h6
  obtain ⟨d1, d2⟩ := and2 h6
  exact ⟨xfB_ok d1, of_decide_eq_true d2⟩
/-- an error class with a field: its number, the field, the names of its __init__, that def -/
structure Ic where
  c : Nat
  f : Str
  s : Str
  y : Str
  qual : Str
  st : Stmt
def inner (x : Stmt) : Stmt := match x with
  | .ClassDef _ _ _ (b :: _) _ _ _ _ _ _ _ => b
  | _ => .Pass ⟨0, 0, 0, 0⟩
def part (x : Stmt) (j : Nat) : Stmt := match x with
  | .ClassDef _ _ _ b _ _ _ _ _ _ _ => b.getD j (.Pass ⟨0, 0, 0, 0⟩)
  | _ => .Pass ⟨0, 0, 0, 0⟩
def Ic.dd (i : Ic) : He.DefD := ⟨(enm i.c, some "__init__"), "__init__", i.qual, defArgs i.st, defBody i.st, defScope i.st, [], []⟩
def iniB (i : Ic) : Bool := scopeB [i.s, i.y] 2 (defScope i.st) && nameB i.s && nameB i.y && match defBody i.st with
  | [.Assign [.Attribute (.Name s' _) f' _] (.Name y' _) _] => decide (s' = i.s) && decide (f' = i.f) && decide (y' = i.y)
  | _ => false
def BindI (i : Ic) : Prop := ∀ (kV doc pm : Value) (an : Option Addr) (cdv ct : Value) (us : List Value), us.length = [i.s, i.y].length → bindArgs (PySem.W.fnOf "__init__" i.qual (defArgs i.st) (defBody i.st) (defScope i.st) .none kV doc pm an cdv ct) ⟨us, []⟩ = pure ([i.s, i.y].zip us)
inductive AllI : List Ic → Prop
  | nil : AllI []
  | cons {i : Ic} {is : List Ic} : BindI i → iniB i = true → AllI is → AllI (i :: is)
theorem AllI.mem {i : Ic} : ∀ {is : List Ic}, AllI is → i ∈ is → BindI i ∧ iniB i = true
  | _, .nil, h => by simp at h
  | _, .cons b e t, h => by
    rcases List.mem_cons.mp h with rfl | h
    · exact ⟨b, e⟩
    · exact t.mem h
/-- the class's own object -/
def oexB (K : Frag) (C : Addr) : Bool := match K.lookup C with
  | some ⟨.type t, _, .cls cd, sl⟩ => (match cd.mro, sl.toList with
    | .ref C2 :: bm, [_, _, _, _, some (.builtin n), _] => decide (t = "type") && decide (C2 = C) && decide (n = "ValueError.__new__") && (!cd.hasDel && cd.hasDict && PySem.HandSPX.refsVE bm)
    | _, _ => false)
  | _ => false
def xcB (K : Frag) (C : Addr) : Bool := oexB K C && decide (PySem.W.findIn K (.ref C) "__setattr__" = some (some (.builtin "object.__setattr__"))) && decide (PySem.W.subIn K (.ref C) (.type "BaseException") = some true) && (decide (PySem.W.typeIn K (.ref C) = some (.type "type")) && PySem.W.keepIn K (.ref C) && xfB K C)
theorem oexB_ok {K : Frag} {C : Addr} (h : oexB K C = true) : ∃ nm q N bs bm sn sub ab col dd k0 k1 k2 k3 k5, K.lookup C = some (excClassObj nm q C N bs bm true sn sub ab col dd k0 k1 k2 k3 k5 "ValueError.__new__") ∧ PySem.HandSPX.refsVE bm = true := by
  unfold oexB at h
  split at h
  · rename_i t dd cd sl ho
    split at h
    · rename_i C2 bm k0 k1 k2 k3 n k5 hm hs
      obtain ⟨h1, h2, h3⟩ := and3 h
      obtain ⟨h1, hC⟩ := and2 h1
      obtain ⟨h3, h4, h5⟩ := and3 h3
      have h1 : t = "type" := of_decide_eq_true h1
      have hC : C2 = C := of_decide_eq_true hC
      have h2 : n = "ValueError.__new__" := of_decide_eq_true h2
      subst h1 hC h2
      obtain ⟨nm, bs, mro, ns, qn, hd, sn, sub, ab, col, del⟩ := cd
      obtain ⟨l⟩ := sl
      have h3 : del = false := by simpa using h3
      have h4 : hd = true := h4
      have hm : mro = .ref C2 :: bm := hm
      have hs : l = [k0, k1, k2, k3, some (.builtin "ValueError.__new__"), k5] := hs
      subst h3 h4 hm hs
      exact ⟨nm, qn, ns, bs, bm, sn, sub, ab, col, dd, k0, k1, k2, k3, k5, ho, h5⟩
    · cases h
  · cases h
theorem xcB_ok {K : Frag} {C : Addr} (h : xcB K C = true) : OexC K C ∧ XfC K C := by
  obtain ⟨h1, h2, h3⟩ := and3 h
  obtain ⟨h1, h4⟩ := and2 h1
  obtain ⟨h3, h5, h6⟩ := and3 h3
  exact ⟨⟨oexB_ok h1, of_decide_eq_true h4, of_decide_eq_true h2, of_decide_eq_true h3, h5⟩, xfB_ok h6⟩
/-- what such an __init__ keeps -/
theorem ini_ok {K : Frag} {C fI : Addr} {fd : FuncData} {i : Ic} {P : Program} {w : World} {mg : Str → Option Value} {base : Heap} (Fu : L2.FunD K "__init__" i.qual (defArgs i.st) (defBody i.st) (defScope i.st) [] [] fI fd) (h : iniB i = true) (ox : OexC K C) (no : PySem.W.findIn K (.ref C) i.f = some none) :
    FnOk P w K mg base (L2.CX P w) 1 fI fd [i.s, i.y] (spI C i.f) := by
  obtain ⟨c, f, ss, y, qual, st⟩ := i
  unfold iniB at h
  dsimp only at h Fu no ⊢
  obtain ⟨h1, hn, hb⟩ := and3 h
  obtain ⟨hs, hn0⟩ := and2 h1
  obtain ⟨FS, _⟩ := scopeB_ok hs
  obtain ⟨n1, n2, _⟩ := nameB_ok hn0
  obtain ⟨m1, m2, _⟩ := nameB_ok hn
  have hv : ∀ x ∈ [ss, y], Vis (defScope st) x := fun x hx => (FS.par x hx).elim .inl fun z => .inr (.inl z)
  split at hb
  · rename_i s' p1 f' p2 y' p3 p4 eb
    obtain ⟨b1, b2, b3⟩ := and3 hb
    have e1 : s' = ss := of_decide_eq_true b1
    have e2 : f' = f := of_decide_eq_true b2
    have e3 : y' = y := of_decide_eq_true b3
    clear b1 b2 b3 hb h
    subst e1 e2 e3
    rw [eb] at Fu
    refine FunD.ok (k := 0) Fu FS (fun vs H Q E q => ?_) fun cdv A outer s H vs Q E hr q => ?_
    · obtain ⟨a, v, rfl, _⟩ := q; rfl
    · obtain ⟨a, v, rfl, ha, q⟩ := q
      refine ⟨_, pss_cons (ps_ost (pe_var (i := 0) rfl (hv s' (by simp)) n1 n2) (pe_var (i := 1) rfl (hv y' (by simp)) m1 m2)) pss_nil, ?_⟩
      exact ⟨v, rfl, .ref a, rfl, a, C, rfl, ox, no, .inl ⟨ha, fun dx hx ne => q dx hx ne⟩⟩
  · cases hb
/-! ### the class Deck -/
/-- its getter and its __len__: the name of self, the def -/
structure Dk where
  gs : Str
  gq : Str
  gst : Stmt
  ls : Str
  lq : Str
  lst : Stmt
def prpA (K : Frag) : Addr := match PySem.W.findIn K (.ref (deckC K)) "pack" with
  | some (some (.ref p)) => p
  | _ => 0
def gA (K : Frag) : Addr := match PySem.W.recIn K (prpA K) "property" with
  | some (.ref g :: _) => g
  | _ => 0
def prpB (K : Frag) : Bool := decide (PySem.W.findIn K (.ref (deckC K)) "pack" = some (some (.ref (prpA K)))) && decide (PySem.W.specialIn K (.ref (prpA K)) "__get__" = some (some (.builtin "property.__get__"))) && (decide (PySem.W.takesIn K (.ref (prpA K)) = some true) && (match PySem.W.recIn K (prpA K) "property" with
  | some (.ref g :: _) => decide (g = gA K)
  | _ => false))
def fnAt (K : Frag) (a : Addr) : He.FnW := match K.lookup a with
  | some ⟨_, _, .func z, _⟩ => some (z.name, z.qualname, z.params, z.body, z.scope, z.globals, z.closure, z.builtins)
  | _ => none
def okAt (K : Frag) (a : Addr) (q : Str) : Bool := PySem.W.keepIn K (.ref a) && (match K.lookup a with
  | some ⟨_, _, .func z, _⟩ => PySem.W.codeIn K z.code q && He.dflB K z.defaults []
  | _ => false)
def Dk.val (d : Dk) : He.FnW := some ("pack", d.gq, defArgs d.gst, .stmts (defBody d.gst), defScope d.gst, mainGlobals, [], builtinsNs)
def Dk.ldd (d : Dk) : He.DefD := ⟨("Deck", some "__len__"), "__len__", d.lq, defArgs d.lst, defBody d.lst, defScope d.lst, [], []⟩
theorem prpB_ok {K : Frag} (h : prpB K = true) : PropOf K (deckC K) "pack" (prpA K) (gA K) := by
  obtain ⟨h1, h2, h3⟩ := and3 h
  obtain ⟨h3, h4⟩ := and2 h3
  refine ⟨of_decide_eq_true h1, of_decide_eq_true h2, of_decide_eq_true h3, ?_⟩
  split at h4
  · rename_i g r e
    have z : g = gA K := of_decide_eq_true h4
    rw [← z]
    exact ⟨r, e⟩
  · cases h4
theorem funD_at {K : Frag} {a : Addr} {x q : Str} {ar : Arguments} {b : List Stmt} {sc : Scope} (e : fnAt K a = some (x, q, ar, .stmts b, sc, mainGlobals, [], builtinsNs)) (c : okAt K a q = true) : ∃ fd, L2.FunD K x q ar b sc [] [] a fd := by
  obtain ⟨kp, c⟩ := and2 c
  unfold fnAt at e
  split at e
  · rename_i oc od z sl hl
    rw [hl] at c
    obtain ⟨c1, c2⟩ := and2 c
    obtain ⟨n1, n2, n3, n4, n5, n6, n7, n8, n9, n10, n11, n12, n13, n14, n15⟩ := z
    simp only [Option.some.injEq, Prod.mk.injEq] at e
    obtain ⟨h1, h2, h3, h4, h5, h6, h7, h8⟩ := e
    subst h1 h2 h3 h4 h5 h6 h7 h8
    exact ⟨_, ⟨oc, od, n8, n9, n10, n11, n12, n13, n14, sl, rfl, hl, c1, He.dflB_ok c2, .inl rfl⟩, kp⟩
  · cases e
def gtB (d : Dk) : Bool := scopeB [d.gs] 1 (defScope d.gst) && nameB d.gs && match defBody d.gst with
  | [.Return (some (.Attribute (.Name y _) f _)) _] => decide (y = d.gs) && decide (f = ("now" : Str))
  | _ => false
def lnB (d : Dk) : Bool := scopeB [d.ls] 1 (defScope d.lst) && nameB d.ls && match defBody d.lst with
  | [.Return (some (.Call (.Name l _) [.Attribute (.Name y _) f _] [] _)) _] => decide (y = d.ls) && decide (f = ("past" : Str)) && bltB (defScope d.lst) "len" l
  | _ => false
def Bind1 (x q s : Str) (st : Stmt) : Prop := ∀ (kV doc pm : Value) (an : Option Addr) (cdv ct : Value) (us : List Value), us.length = [s].length → bindArgs (PySem.W.fnOf x q (defArgs st) (defBody st) (defScope st) .none kV doc pm an cdv ct) ⟨us, []⟩ = pure ([s].zip us)
inductive AllD : List Dk → Prop
  | nil : AllD []
  | cons {d : Dk} {ds : List Dk} : Bind1 "pack" d.gq d.gs d.gst → gtB d = true → Bind1 "__len__" d.lq d.ls d.lst → lnB d = true → AllD ds → AllD (d :: ds)
theorem getter_ok {K : Frag} {fI : Addr} {fd : FuncData} {d : Dk} {P : Program} {w : World} {mg : Str → Option Value} {base : Heap} (Fu : L2.FunD K "pack" d.gq (defArgs d.gst) (defBody d.gst) (defScope d.gst) [] [] fI fd) (h : gtB d = true) (cl : Cls K (deckC K)) (no : NoAttr K (deckC K) "now") :
    FnOk P w K mg base (L2.CX P w) 1 fI fd [d.gs] (getSp (deckC K) "now") := by
  obtain ⟨ss, q, st, ls, lq, lst⟩ := d
  unfold gtB at h
  dsimp only at h Fu ⊢
  obtain ⟨hs, hn, hb⟩ := and3 h
  obtain ⟨FS, _⟩ := scopeB_ok hs
  obtain ⟨n1, n2, _⟩ := nameB_ok hn
  have hv : Vis (defScope st) ss := (FS.par ss (by simp)).elim .inl fun z => .inr (.inl z)
  split at hb
  · rename_i y p1 f p2 p3 eb
    obtain ⟨b1, b2⟩ := and2 hb
    have e1 : y = ss := of_decide_eq_true b1
    have e2 : f = ("now" : Str) := of_decide_eq_true b2
    clear b1 b2 hb h
    subst e1 e2
    rw [eb] at Fu
    refine FunD.ok (k := 0) Fu FS (fun vs H Q E q => ?_) fun cdv A outer s H vs Q E hr q => ?_
    · obtain ⟨a, dx, fs, v, rfl, _⟩ := q; rfl
    · obtain ⟨a, dx, fs, v, rfl, ha, l, q⟩ := q
      exact ⟨_, pss_one (ps_ret (pe_fld (pe_var (i := 0) rfl hv n1 n2) rfl)), .ref a, rfl, a, _, dx, fs, v, rfl, ha, cl, no, l, q⟩
  · cases hb
theorem len_ok {K : Frag} {fI : Addr} {fd : FuncData} {d : Dk} {P : Program} {w : World} {mg : Str → Option Value} {base : Heap} (Fu : L2.FunD K "__len__" d.lq (defArgs d.lst) (defBody d.lst) (defScope d.lst) [] [] fI fd) (h : lnB d = true) (cl : Cls K (deckC K)) (no : NoAttr K (deckC K) "past") (hl : mg "len" = none) :
    FnOk P w K mg base (L2.CX P w) 1 fI fd [d.ls] (lenSp (deckC K)) := by
  obtain ⟨gs, gq, gst, ss, q, st⟩ := d
  unfold lnB at h
  dsimp only at h Fu ⊢
  obtain ⟨hs, hn, hb⟩ := and3 h
  obtain ⟨FS, _⟩ := scopeB_ok hs
  obtain ⟨n1, n2, _⟩ := nameB_ok hn
  have hv : Vis (defScope st) ss := (FS.par ss (by simp)).elim .inl fun z => .inr (.inl z)
  split at hb
  · rename_i l0 p0 y p1 f p2 p3 p4 eb
    obtain ⟨b1, b2, b3⟩ := and3 hb
    have e1 : y = ss := of_decide_eq_true b1
    have e2 : f = ("past" : Str) := of_decide_eq_true b2
    obtain ⟨e3, hg⟩ := bltB_ok b3
    clear b1 b2 b3 hb h
    subst e1 e2 e3
    rw [eb] at Fu
    refine FunD.ok (k := 0) Fu FS (fun vs H Q E q => ?_) fun cdv A outer s H vs Q E hr q => ?_
    · obtain ⟨a, dx, t, fs, xs, rfl, _⟩ := q; rfl
    · obtain ⟨a, dx, t, fs, xs, rfl, ha, l, ht, q⟩ := q
      refine ⟨_, pss_one (ps_ret (pe_callB call_len hg hl (by decide +kernel) (pa_cons (pe_fld (pe_var (i := 0) rfl hv n1 n2) rfl) pa_nil rfl) (by decide) (by decide) rfl rfl)), ?_⟩
      exact ⟨.ref a, rfl, a, _, dx, fs, _, rfl, ha, cl, no, l, _, xs.length, rfl, .inr ⟨xs, SqT.of ht, rfl⟩, q⟩
  · cases hb
def exD (dks : List Dk) (K : Frag) : Bool := dks.all fun d => prpB K && okAt K (gA K) d.gq
def exI (is : List Ic) (K : Frag) : Bool := (is.all fun i => xcB K (He.ga K (enm i.c))) && (List.range 14).all fun c => kxB K c && (decide (fldOf c = none) || is.any fun i => decide (i.c = c) && decide (fldOf c = some i.f))
/-- the head's Hook, with the error classes that have a field, and the class Deck -/
def obsX (n : Nat) (fa : List He.Fa) (fn : List He.DefD) (is : List Ic) (dks : List Dk) (g : Addr → Option Obj) : Bool × He.AlD × List He.FnW :=
  (exI is (He.frG g (He.asD g n)) && exD dks (He.frG g (He.asD g n)), He.obsDG n fa fn g, dks.map fun _ => fnAt (He.frG g (He.asD g n)) (gA (He.frG g (He.asD g n))))
def hookX (n : Nat) (fa : List He.Fa) (fn : List He.DefD) (is : List Ic) (dks : List Dk) : PySem.W.Hook where
  α := Bool × He.AlD × List He.FnW
  obs := fun s => obsX n fa fn is dks s.heap.get?
  val := fun _ => (true, He.valD fn, dks.map Dk.val)
  says := fun _ h => ∃ K : PySem.W.Frag, K.In h ∧ (exI is K && exD dks K) = true ∧ He.SaysD fa fn K ∧ (dks.map fun _ => fnAt K (gA K)) = dks.map Dk.val
  of := fun _ s e => ⟨He.frG s.heap.get? (He.asD s.heap.get? n), He.frG_in, congrArg (fun z : Bool × He.AlD × List He.FnW => z.1) e, show He.obsDG n fa fn s.heap.get? = He.valD fn from congrArg (fun z : Bool × He.AlD × List He.FnW => z.2.1) e, congrArg (fun z : Bool × He.AlD × List He.FnW => z.2.2) e⟩
  keeps := fun _ _ _ ⟨K, hK, x, c⟩ k => ⟨K, PySem.W.Frag.In.keeps hK k, x, c⟩
theorem obsX_eq {n : Nat} {fa : List He.Fa} {fn : List He.DefD} {is : List Ic} {dks : List Dk} {g : Addr → Option Obj} {s : Shared} (h : ∀ a, g a = s.heap.get? a) : obsX n fa fn is dks g = (hookX n fa fn is dks).obs s := by
  obtain rfl : g = s.heap.get? := funext h
  rfl
/-- every class with a field is among them -/
def icsB (cs : List Nat) (is : List Ic) : Bool := cs.all fun c => decide (fldOf c = none) || is.any fun i => decide (i.c = c) && decide (fldOf c = some i.f)
def exFa (c : Nat) : He.Fa := if fldOf c = none then .exc (enm c) else .keep (enm c)
def icFa (i : Ic) : List He.Fa := [.meth (enm i.c) "__init__", .noat (enm i.c) i.f]
def recFa (r : Rc) : He.Fa := if r.cl = true then (if isIni r = true then .mkr "Deck" else .meth "Deck" r.nm) else .glo r.nm
def dkFa : List He.Fa := [.glo "Deck", .cls "Deck", .noat "Deck" "now", .noat "Deck" "past", .noat "Deck" "future", .meth "Deck" "__len__"]
def faOf (recs : List Rc) (gs cs : List Nat) (is : List Ic) (dks : List Dk) : List He.Fa :=
  (List.range 14).map (fun c => .glo (enm c)) ++ (List.range 14).map exFa ++ (dks.flatMap fun _ => dkFa) ++ recs.map recFa ++ builtins.map (fun x => .free x) ++ gs.map gloFa ++ cs.map (fun c => .glo (enm c)) ++ cs.map exFa ++ (cs.flatMap fun c => cs.map fun c' => .exm (enm c) (enm c') (decide (c = c'))) ++ is.flatMap icFa
def fnOf (recs : List Rc) (is : List Ic) (dks : List Dk) : List He.DefD := recs.map Rc.dd ++ is.map Ic.dd ++ dks.map Dk.ldd
/-- how arguments bind -/
def BindP (r : Rc) : Prop := ∀ (kV doc pm : Value) (an : Option Addr) (cdv ct : Value) (us : List Value), us.length = (r.N.take r.d.np).length → bindArgs (PySem.W.fnOf r.nm r.qual (defArgs r.st) (defBody r.st) (defScope r.st) .none kV doc pm an cdv ct) ⟨us, []⟩ = pure ((r.N.take r.d.np).zip us)
inductive AllB : List Rc → Prop
  | nil : AllB []
  | cons {r : Rc} {rs : List Rc} : BindP r → AllB rs → AllB (r :: rs)
inductive AllM (fnm ern : Nat → Option Str) : List Rc → Prop
  | nil : AllM fnm ern []
  | cons {r : Rc} {rs : List Rc} : defB fnm ern r.d r.N r.st = true → AllM fnm ern rs → AllM fnm ern (r :: rs)
theorem AllM.mem {fnm ern : Nat → Option Str} {r : Rc} : ∀ {rs : List Rc}, AllM fnm ern rs → r ∈ rs → defB fnm ern r.d r.N r.st = true
  | _, .nil, h => by simp at h
  | _, .cons b t, h => by
    rcases List.mem_cons.mp h with rfl | h
    · exact b
    · exact t.mem h
theorem AllB.mem {r : Rc} : ∀ {rs : List Rc}, AllB rs → r ∈ rs → BindP r
  | _, .nil, h => by simp at h
  | _, .cons b t, h => by
    rcases List.mem_cons.mp h with rfl | h
    · exact b
    · exact t.mem h
section
variable {K : Frag} {h : Heap} {mg : Str → Option Value} {recs : List Rc} {gs cs : List Nat} {is : List Ic} {dks : List Dk}
theorem says_fact (c : He.SaysD (faOf recs gs cs is dks) (fnOf recs is dks) K) {f : He.Fa} (hf : f ∈ faOf recs gs cs is dks) : f.ok K = true := by
  obtain ⟨i, hi⟩ := List.getElem?_of_mem hf
  exact c.fact i hi
theorem says_dd (c : He.SaysD (faOf recs gs cs is dks) (fnOf recs is dks) K) {d : He.DefD} (hd : d ∈ fnOf recs is dks) : ∃ fd, FunD K d.name d.qual d.params d.body d.scope (d.dvs K) (d.kws K) (He.fAd K d.at_) fd := by
  obtain ⟨i, hi⟩ := List.getElem?_of_mem hd
  exact c.def_ i hi
theorem says_def (c : He.SaysD (faOf recs gs cs is dks) (fnOf recs is dks) K) {r : Rc} (hr : r ∈ recs) (hc : r.cl = false) : ∃ fd, FunD K r.nm r.qual (defArgs r.st) (defBody r.st) (defScope r.st) [] [] (He.ga K r.nm) fd := by
  obtain ⟨fd, F⟩ := says_dd c (d := r.dd) (List.mem_append_left _ (List.mem_append_left _ (List.mem_map_of_mem hr)))
  have e : He.fAd K r.dd.at_ = He.ga K r.nm := by unfold Rc.dd; dsimp only; rw [hc]; rfl
  rw [e] at F
  exact ⟨fd, F⟩
theorem says_mtd (c : He.SaysD (faOf recs gs cs is dks) (fnOf recs is dks) K) {r : Rc} (hr : r ∈ recs) (hc : r.cl = true) : ∃ fd, FunD K r.nm r.qual (defArgs r.st) (defBody r.st) (defScope r.st) [] [] (He.ma K (deckC K) r.nm) fd := by
  obtain ⟨fd, F⟩ := says_dd c (d := r.dd) (List.mem_append_left _ (List.mem_append_left _ (List.mem_map_of_mem hr)))
  have e : He.fAd K r.dd.at_ = He.ma K (deckC K) r.nm := by unfold Rc.dd; dsimp only; rw [hc]; rfl
  rw [e] at F
  exact ⟨fd, F⟩
theorem says_ini (c : He.SaysD (faOf recs gs cs is dks) (fnOf recs is dks) K) {r : Ic} (hr : r ∈ is) : ∃ fd, FunD K "__init__" r.qual (defArgs r.st) (defBody r.st) (defScope r.st) [] [] (He.ma K (He.ga K (enm r.c)) "__init__") fd :=
  says_dd c (d := r.dd) (List.mem_append_left _ (List.mem_append_right _ (List.mem_map_of_mem hr)))
theorem says_len (c : He.SaysD (faOf recs gs cs is dks) (fnOf recs is dks) K) {d : Dk} (hd : d ∈ dks) : ∃ fd, FunD K "__len__" d.lq (defArgs d.lst) (defBody d.lst) (defScope d.lst) [] [] (He.ma K (deckC K) "__len__") fd :=
  says_dd c (d := d.ldd) (List.mem_append_right _ (List.mem_map_of_mem hd))
/-- one of the records -/
theorem find_rec {p : Rc → Bool} {r : Rc} (h : recs.find? p = some r) : r ∈ recs ∧ p r = true := ⟨List.mem_of_find?_eq_some h, List.find?_some h⟩
/-- the numbers are the records' own -/
def idsB (recs : List Rc) : Bool := recs.all fun r => decide ((recs.filter fun q => q.id == r.id).length = 1)
theorem ids_ok (h : idsB recs = true) {r : Rc} (hr : r ∈ recs) : recs.find? (fun q => q.id == r.id) = some r := by
  have h2 : (recs.filter fun q => q.id == r.id).length = 1 := of_decide_eq_true (List.all_eq_true.mp h r hr)
  obtain ⟨z, hz⟩ := List.length_eq_one_iff.mp h2
  have m1 : r ∈ recs.filter fun q => q.id == r.id := List.mem_filter.mpr ⟨hr, by simp⟩
  rw [hz] at m1
  rw [← List.head?_filter, hz, List.mem_singleton.mp m1]
  rfl
theorem mem_rec {r : Rc} (hr : r ∈ recs) : recFa r ∈ faOf recs gs cs is dks := by unfold faOf; simp only [List.mem_append, List.mem_map]; exact .inl (.inl (.inl (.inl (.inl (.inl (.inr ⟨r, hr, rfl⟩))))))
theorem mem_dk {f : He.Fa} {d : Dk} (hd : d ∈ dks) (hf : f ∈ dkFa) : f ∈ faOf recs gs cs is dks := by unfold faOf; simp only [List.mem_append, List.mem_flatMap]; exact .inl (.inl (.inl (.inl (.inl (.inl (.inl (.inr ⟨d, hd, hf⟩)))))))
theorem AllD.mem {d : Dk} : ∀ {ds : List Dk}, AllD ds → d ∈ ds → Bind1 "pack" d.gq d.gs d.gst ∧ gtB d = true ∧ Bind1 "__len__" d.lq d.ls d.lst ∧ lnB d = true
  | _, .nil, h => by simp at h
  | _, .cons a b e f t, h => by
    rcases List.mem_cons.mp h with rfl | h
    · exact ⟨a, b, e, f⟩
    · exact t.mem h
theorem ern_some {c : Nat} {x : Str} (e : ernOf cs c = some x) : c ∈ cs ∧ x = enm c := by
  unfold ernOf at e
  split at e
  · rename_i hc
    cases e
    exact ⟨by simpa using hc, rfl⟩
  · cases e
theorem txt_of (X : K.In h) (G : h.Ns mainGlobals mg) (c : He.SaysD (faOf recs gs cs is dks) (fnOf recs is dks) K) (hxd : (exI is K && exD dks K) = true) (hgt : (dks.map fun _ => fnAt K (gA K)) = dks.map Dk.val) (hI : AllI is) (hic : icsB cs is = true) (hD : AllD dks) (hids : idsB recs = true) (hb : AllB recs) (hd : AllM (fnmOf recs gs (!dks.isEmpty)) (ernOf cs) recs) : Txt (fnmOf recs gs (!dks.isEmpty)) (errOf K cs) (tabOf recs) K mg := by
  obtain ⟨hx, hxd⟩ := and2 hxd
  obtain ⟨hx, hkx⟩ := and2 hx
  have mem : ∀ {f : He.Fa}, f ∈ faOf recs gs cs is dks → f.ok K = true := fun hf => says_fact c hf
  have gl : ∀ c ∈ cs, mg (enm c) = some (.ref (He.ga K (enm c))) := fun c hc => He.glo_ok X G (mem (by unfold faOf; simp only [List.mem_append, List.mem_map]; exact .inl (.inl (.inl (.inr ⟨c, hc, rfl⟩)))))
  have exc : ∀ c ∈ cs, (exFa c).ok K = true := fun c hc => mem (by unfold faOf; simp only [List.mem_append, List.mem_map]; exact .inl (.inl (.inr ⟨c, hc, rfl⟩)))
  have fld : ∀ c ∈ cs, ∀ f, fldOf c = some f → ∃ i ∈ is, i.c = c ∧ i.f = f := fun c hc f hf => by
    have h := List.all_eq_true.mp hic c hc
    rw [hf] at h
    obtain ⟨i, hi, h⟩ := List.any_eq_true.mp (by simpa using h : (is.any fun i => decide (i.c = c) && decide (some f = some i.f)) = true)
    obtain ⟨h1, h2⟩ := and2 h
    have h2 : some f = some i.f := of_decide_eq_true h2
    exact ⟨i, hi, of_decide_eq_true h1, (Option.some.inj h2).symm⟩
  have xc : ∀ c ∈ cs, ∀ f, fldOf c = some f → OexC K (He.ga K (enm c)) ∧ XfC K (He.ga K (enm c)) := fun c hc f hf => by
    obtain ⟨i, hi, rfl, _⟩ := fld c hc f hf
    exact xcB_ok (List.all_eq_true.mp hx i hi)
  have fld2 : ∀ c, c < 14 → ∀ f, fldOf c = some f → ∃ i ∈ is, i.c = c ∧ i.f = f := fun c hc f hf => by
    have h := (and2 (List.all_eq_true.mp hkx c (List.mem_range.mpr hc))).2
    rw [hf] at h
    obtain ⟨i, hi, h⟩ := List.any_eq_true.mp (by simpa using h : (is.any fun i => decide (i.c = c) && decide (some f = some i.f)) = true)
    obtain ⟨h1, h2⟩ := and2 h
    have h2 : some f = some i.f := of_decide_eq_true h2
    exact ⟨i, hi, of_decide_eq_true h1, (Option.some.inj h2).symm⟩
  have gl14 : ∀ c, c < 14 → mg (enm c) = some (.ref (He.ga K (enm c))) := fun c hc => He.glo_ok X G (mem (by unfold faOf; simp only [List.mem_append, List.mem_map]; exact .inl (.inl (.inl (.inl (.inl (.inl (.inl (.inl (.inl ⟨c, List.mem_range.mpr hc, rfl⟩))))))))))
  have exc14 : ∀ c, c < 14 → (exFa c).ok K = true := fun c hc => mem (by unfold faOf; simp only [List.mem_append, List.mem_map]; exact .inl (.inl (.inl (.inl (.inl (.inl (.inl (.inl (.inr ⟨c, List.mem_range.mpr hc, rfl⟩)))))))))
  have fdOf : ∀ i ∈ is, fldOf i.c = some i.f → FldC K (He.ga K (enm i.c)) i.f := fun i hi hf => by
    obtain ⟨ox, xf⟩ := xcB_ok (List.all_eq_true.mp hx i hi)
    have fa : ∀ q ∈ icFa i, q.ok K = true := fun q hq => mem (by unfold faOf; simp only [List.mem_append, List.mem_flatMap]; exact .inr ⟨i, hi, hq⟩)
    have mt := He.meth_ok (fa _ (by unfold icFa; exact .head _))
    have no : PySem.W.findIn K (.ref (He.ga K (enm i.c))) i.f = some none := He.eqO_ok (fa (.noat (enm i.c) i.f) (by unfold icFa; exact .tail _ (.head _)))
    obtain ⟨fd, F⟩ := says_ini c hi
    obtain ⟨b1, b2⟩ := hI.mem hi
    exact ⟨ox, xf, no, _, fd, [i.s, i.y], mt.at_, eq_of_beq mt.fn, F.bindsN b1, fun P w mg base => ini_ok F b2 ox no⟩
  refine { kx := fun c x hc e => ?_, bl := fun x hx => ?_, ex := fun c x e => ?_, ex0 := fun c x e hT => ?_, fl := fun c => rfl, fd := fun cc x f e hf => ?_, em := fun c c' x x' e e' => ?_, dk := fun hk => ?_, gl := fun g d hg0 hg hs => ?_, def_ := fun f x hf0 hf => ?_, mtd := fun f m hf0 hf => ?_, mkd := fun f hf0 hf => ?_ }
  · exact He.free_ok X G (mem (by unfold faOf; simp only [List.mem_append, List.mem_map]; exact .inl (.inl (.inl (.inl (.inl (.inr ⟨x, hx, rfl⟩)))))))
  · obtain ⟨hc, rfl⟩ := ern_some e
    cases hf : fldOf c with
    | none =>
      have q := exc c hc
      unfold exFa at q
      rw [if_pos hf] at q
      obtain ⟨e1, e2, e3, e4⟩ := He.exc_ok q
      exact ⟨gl c hc, e2, e3, e4⟩
    | some f =>
      have q := (xc c hc f hf).1
      exact ⟨gl c hc, q.kC, q.exC, q.tyC⟩
  · obtain ⟨hc, rfl⟩ := ern_some e
    have q := exc c hc
    unfold exFa at q
    rw [if_pos (show fldOf c = none from hT)] at q
    exact (He.exc_ok q).1
  · obtain ⟨hc, rfl⟩ := ern_some e
    obtain ⟨i, hi, rfl, rfl⟩ := fld cc hc f hf
    obtain ⟨ox, xf⟩ := xc i.c hc _ hf
    have fa : ∀ q ∈ icFa i, q.ok K = true := fun q hq => mem (by unfold faOf; simp only [List.mem_append, List.mem_flatMap]; exact .inr ⟨i, hi, hq⟩)
    have mt := He.meth_ok (fa _ (by unfold icFa; exact .head _))
    have no : PySem.W.findIn K (.ref (He.ga K (enm i.c))) i.f = some none := He.eqO_ok (fa (.noat (enm i.c) i.f) (by unfold icFa; exact .tail _ (.head _)))
    obtain ⟨fd, F⟩ := says_ini c hi
    obtain ⟨b1, b2⟩ := hI.mem hi
    exact ⟨ox, xf, no, _, fd, [i.s, i.y], mt.at_, eq_of_beq mt.fn, F.bindsN b1, fun P w mg base => ini_ok F b2 ox no⟩
  · obtain ⟨hc, rfl⟩ := ern_some e
    obtain ⟨hc', rfl⟩ := ern_some e'
    exact He.exm_ok (mem (by unfold faOf; simp only [List.mem_append, List.mem_map, List.mem_flatMap]; exact .inl (.inr ⟨c, hc, c', hc', rfl⟩)))
  · have e : x = enm c := by
      unfold fnmOf at e
      rw [if_neg (by omega), if_neg (by omega), if_neg (by omega), if_neg (by omega), if_neg (by omega), if_pos (by omega), show 600000 + c - 600000 = c by omega] at e
      exact (Option.some.inj e).symm
    subst e
    refine ⟨rfl, gl14 c hc, ?_, fun hf => ?_, fun f hf => ?_, kxB_ok (and2 (List.all_eq_true.mp hkx c (List.mem_range.mpr hc))).1⟩
    · cases hf : fldOf c with
      | none =>
        have q := exc14 c hc
        unfold exFa at q
        rw [if_pos hf] at q
        exact (He.exc_ok q).2.1
      | some f =>
        obtain ⟨i, hi, rfl, _⟩ := fld2 c hc f hf
        exact (xcB_ok (List.all_eq_true.mp hx i hi)).1.kC
    · have q := exc14 c hc
      unfold exFa at q
      rw [if_pos hf] at q
      exact (He.exc_ok q).1
    · obtain ⟨i, hi, rfl, rfl⟩ := fld2 c hc f hf
      exact fdOf i hi hf
  · unfold fnmOf at hk
    rw [if_neg (by decide), if_neg (by decide), if_neg (by decide), if_pos (by decide)] at hk
    split at hk
    · rename_i hne
      obtain ⟨d, hd0⟩ : ∃ d, d ∈ dks := by
        cases dks with
        | nil => cases hne
        | cons d _ => exact ⟨d, .head _⟩
      have fa : ∀ q ∈ dkFa, q.ok K = true := fun q hq => mem (mem_dk hd0 hq)
      obtain ⟨x1, x2⟩ := and2 (List.all_eq_true.mp hxd d hd0)
      have cl : Cls K (deckC K) := He.cls_ok (fa (.cls "Deck") (by unfold dkFa; simp))
      have no : ∀ f ∈ fldNames, NoAttr K (deckC K) f := fun f hf => by
        unfold fldNames at hf
        simp only [List.mem_cons, List.not_mem_nil, or_false] at hf
        rcases hf with rfl | rfl | rfl
        · exact He.eqO_ok (fa (.noat "Deck" "now") (by unfold dkFa; simp))
        · exact He.eqO_ok (fa (.noat "Deck" "past") (by unfold dkFa; simp))
        · exact He.eqO_ok (fa (.noat "Deck" "future") (by unfold dkFa; simp))
      obtain ⟨b1, b2, b3, b4⟩ := hD.mem hd0
      have hval : fnAt K (gA K) = d.val := by
        obtain ⟨i, hi⟩ := List.getElem?_of_mem hd0
        have z := congrArg (fun l : List He.FnW => l[i]?) hgt
        simp only [List.getElem?_map, hi, Option.map_some] at z
        exact Option.some.inj z
      obtain ⟨fd, F⟩ := funD_at hval x2
      obtain ⟨fd2, F2⟩ := says_len c hd0
      have hl : mg "len" = none := He.free_ok X G (mem (by unfold faOf; simp only [List.mem_append, List.mem_map]; exact .inl (.inl (.inl (.inl (.inl (.inr ⟨"len", by decide, rfl⟩)))))))
      exact ⟨He.glo_ok X G (fa (.glo "Deck") (by unfold dkFa; simp)), cl, no, ⟨_, _, fd, [d.gs], prpB_ok x1, F.bindsN b1, fun P w mg base => getter_ok F b2 cl (no _ (by decide))⟩, ⟨_, fd2, [d.ls], He.meth_ok (fa (.meth "Deck" "__len__") (by unfold dkFa; simp)), F2.bindsN b3, fun P w base => len_ok F2 b4 cl (no _ (by decide)) hl⟩⟩
    · cases hk
  · unfold fnmOf at hg
    rw [if_neg (by omega), if_pos (by omega), show 100000 + g - 100000 = g by omega] at hg
    split at hg
    · rename_i hgs
      have hgs : g ∈ gs := by simpa using hgs
      have f := mem (f := gloFa g) (by unfold faOf; simp only [List.mem_append, List.mem_map]; exact .inl (.inl (.inl (.inl (.inr ⟨g, hgs, rfl⟩)))))
      have e := sameB_ok hs
      subst e
      unfold gloFa at f
      split at f
      · rename_i i ei
        obtain ⟨t, ht⟩ := He.int_ok X G f
        exact ⟨_, .int i, ht, ⟨t, rfl⟩, fun F => by rw [ei]; exact .int i⟩
      · rename_i y ey
        obtain ⟨t, ht⟩ := He.str_ok X G f
        exact ⟨_, .str y, ht, ⟨t, rfl⟩, fun F => by rw [ey]; exact .str y⟩
      · rename_i h1 h2
        exfalso
        revert hs h1 h2
        cases glov g <;> intro hs h1 h2 <;> first | cases hs | exact h1 _ rfl | exact h2 _ rfl
    · cases hg
  · unfold fnmOf at hf
    rw [if_pos hf0] at hf
    obtain ⟨r, hr, rfl⟩ := Option.map_eq_some_iff.mp hf
    obtain ⟨hmem, hp⟩ := find_rec hr
    obtain ⟨h1, h2⟩ := and2 hp
    have h1 : r.id = f := eq_of_beq h1
    have h2 : r.cl = false := by simpa using h2
    subst h1
    obtain ⟨fd, F⟩ := says_def c hmem h2
    have g := mem (mem_rec (gs := gs) (cs := cs) (is := is) (dks := dks) hmem)
    unfold recFa at g
    rw [if_neg (by rw [h2]; decide)] at g
    exact ⟨r.d, r.N, r.st, r.qual, _, fd, by unfold tabOf; rw [ids_ok hids hmem]; rfl, He.glo_ok X G g, F, F.bindsN (hb.mem hmem), hd.mem hmem⟩
  · unfold fnmOf at hf
    rw [if_neg (by omega), if_neg (by omega), if_pos (by omega), show 200000 + f - 200000 = f by omega] at hf
    obtain ⟨r, hr, rfl⟩ := Option.map_eq_some_iff.mp hf
    obtain ⟨hmem, hp⟩ := find_rec hr
    obtain ⟨h1, h2⟩ := and2 hp
    obtain ⟨h2, h3⟩ := and2 h2
    have h1 : r.id = f := eq_of_beq h1
    subst h1
    obtain ⟨fd, F⟩ := says_mtd c hmem h2
    have g := mem (mem_rec (gs := gs) (cs := cs) (is := is) (dks := dks) hmem)
    unfold recFa at g
    rw [if_pos h2, if_neg (by simpa using h3)] at g
    exact ⟨r.d, r.N, r.st, r.qual, _, fd, by unfold tabOf; rw [ids_ok hids hmem]; rfl, He.meth_ok g, F, F.bindsN (hb.mem hmem), hd.mem hmem⟩
  · unfold fnmOf at hf
    rw [if_neg (by omega), if_neg (by omega), if_neg (by omega), if_neg (by omega), if_pos (by omega), show 400000 + f - 400000 = f by omega] at hf
    obtain ⟨r, hr, he⟩ := Option.map_eq_some_iff.mp hf
    obtain ⟨hmem, hp⟩ := find_rec hr
    obtain ⟨h1, h2⟩ := and2 hp
    obtain ⟨h2, h3⟩ := and2 h2
    have h1 : r.id = f := eq_of_beq h1
    subst h1
    obtain ⟨fd, F⟩ := says_mtd c hmem h2
    have g := mem (mem_rec (gs := gs) (cs := cs) (is := is) (dks := dks) hmem)
    unfold recFa at g
    rw [if_pos h2, if_pos h3] at g
    have F' := F
    rw [he] at F'
    exact ⟨r.d, r.N, r.st, r.qual, _, fd, by unfold tabOf; rw [ids_ok hids hmem]; rfl, He.mkr_ok g, F', F.bindsN (hb.mem hmem), hd.mem hmem⟩
theorem reps_ints {F : Hp} : ∀ ns : List Int, Reps K F (ns.map V.int) (ns.map PyData.int)
  | [] => .nil
  | n :: r => .cons (.int n) (reps_ints r)
theorem law_end {P : Program} {w : World} {r : Rc} {x : Str} {fa : Addr} {n : Nat} (hid : recs.find? (fun q => q.id == r.id) = some r) (hcl : r.cl = false) (hN : r.N.take r.d.np = [x])
    (plain : ∀ xs : List Int, xs.length ≤ 63 → ∃ s, callF (tabOf recs) (n + 1) r.id [.ro (xs.map .int)] = .ok (.val (.bool true), s))
    (X : K.In h) (G : h.Ns mainGlobals mg) (c : He.SaysD (faOf recs gs cs is dks) (fnOf recs is dks) K) (hxd : (exI is K && exD dks K) = true) (hgt : (dks.map fun _ => fnAt K (gA K)) = dks.map Dk.val) (hI : AllI is) (hic : icsB cs is = true) (hD : AllD dks) (hids : idsB recs = true) (hb : AllB recs) (hd : AllM (fnmOf recs gs (!dks.isEmpty)) (ernOf cs) recs) (hmg : mg r.nm = some (.ref fa)) :
    ∃ (fd : FuncData) (sp : Sp), (∀ (s : Shared) (u : Value), BindsTo s fd ⟨[u], []⟩ [(x, u)]) ∧ (∀ (H : Hp) (a : Addr) (ns : List Int), ns.length ≤ 63 → Only H → SqL K H a (ns.map V.int) → sp [.ref a] H (fun v _ => v = .bl true) fun _ _ _ => False) ∧
      ∀ base : Heap, K.In base → base.Ns mainGlobals mg → FnOk P w K mg base (L2.CX P w) (2 * (n + 1) + 2) fa fd [x] sp := by
  have hmem := List.mem_of_find?_eq_some hid
  obtain ⟨fd, F⟩ := says_def c hmem hcl
  have T := txt_of X G c hxd hgt hI hic hD hids hb hd
  have g0 := says_fact c (mem_rec (gs := gs) (cs := cs) (is := is) (dks := dks) hmem)
  unfold recFa at g0
  rw [if_neg (by rw [hcl]; decide)] at g0
  have e := hmg.symm.trans (He.glo_ok X G g0)
  have e : fa = He.ga K r.nm := by injection e with e; injection e
  subst e
  refine ⟨fd, spF (errOf K cs) K (callF (tabOf recs) (n + 1)) r.id, fun s u => ?_, fun H a ns hl _ hS => ?_, fun base _ _ => ?_⟩
  · have b := F.bindsA (hb.mem hmem) s [u] (by rw [hN]; rfl)
    rw [hN] at b
    exact b
  · obtain ⟨sl, es⟩ := plain ns hl
    refine ⟨[.ro (ns.map .int)], H, ⟨.refl _, rfl, fun i s hs => ?_, fun i j si sj oi oj p h1 h2 o1 o2 _ _ => ?_⟩, ?_⟩
    · cases i with
      | zero => cases hs; exact ⟨a, _, rfl, hS, reps_ints ns⟩
      | succ i => simp at hs
    · cases i with
      | zero => cases h1; cases o1
      | succ i => simp at h1
    · rw [es]
      exact fun v F' H' _ _ rl => by cases rl; rfl
  · have q := def_ok (P := P) (w := w) (base := base) (n := n) (f := r.id) (T.glob n) F (by unfold tabOf; rw [hid]; rfl) (hd.mem hmem)
    rw [hN] at q
    exact q
end
/-- as walk_ofE, what may be let out told over the world -/
theorem walk_ofW {l : PySem.W.OpenLaw} {n k : Nat} {q : Program} {loose : List Str} {XP : (Str → Option Value) → Heap → Prop} {YP : World → Heap → Prop} {d : DefRec} {x : Str}
    (hn : l.most = some n) (hn2 : n ≤ sizeLine) (hdf : d.params.defaults = []) (hr : Room k callerA)
    (F : ∀ (w : World) (mg : Str → Option Value) (fa : Addr) (h : Heap), YP w h → h.Ns mainGlobals mg → mg d.name = some (.ref fa) →
      ∃ (K : PySem.W.Frag) (fd : FuncData) (sp : Sp), K.In h ∧ (∀ (s : Shared) (u : Value), BindsTo s fd ⟨[u], []⟩ [(x, u)]) ∧
        (∀ (H : Hp) (a : Addr) (ns : List Int), ns.length ≤ n → Only H → SqL K H a (ns.map V.int) → sp [.ref a] H (fun v _ => v = .bl true) fun _ _ _ => False) ∧
        ∀ base : Heap, K.In base → base.Ns mainGlobals mg → FnOk l.prog w K mg base (L2.CX l.prog w) k fa fd [x] sp) :
    PySem.W.WalkO q loose XP YP l.row.toRowW d [] (fun f vs => PySem.call f vs) := by
  refine Att.attach_call hn hdf fun w s₀ s₁ mg mb fa o pm cd doc a vs ns G Y ho hd hcd hmg hobj hints hlen hg => ?_
  obtain ⟨K, fd, sp, KX, hb, hsp, hF⟩ := F w mg fa _ Y G.T.g hmg
  exact law_call KX G.T.g G.T.b G.T.builtins G.T.nolimit hg hobj hints (Nat.le_trans hlen hn2) hr hF hb (fun H hO hS => hsp H a ns hlen hO hS) fun H e s' z => by
    obtain ⟨_, _, _, _, _, _, _, _, _, _, _, _, z⟩ := z
    exact z
end Msd
/-! Pl0: what a run of the small language gives, by its first step. -/
namespace Mlg
open PySem (PyData Str)

/-- what is wanted behind a run: as instances, so that simp lets them be -/
class Post (α : Type) where
  p : α → Prop
class Xst where
  e : Nat → D → Env → Prop
/-- a run ends well, or in an error -/
def wqP {α : Type} (m : Res α) (Q : Post α) (E : Xst) : Prop := match m with
  | .ok a => Q.p a
  | .exc c f ρ => E.e c f ρ
  | .no => False
structure Wq {α : Type} (m : Res α) [Q : Post α] [E : Xst] : Prop where
  get : wqP m Q E
theorem wq_mk {α : Type} {m : Res α} {Q : Post α} {E : Xst} (h : wqP m Q E) : @Wq α m Q E := @Wq.mk α m Q E h
theorem Wq.g {α : Type} {m : Res α} {Q : Post α} {E : Xst} (h : @Wq α m Q E) : wqP m Q E := @Wq.get α m Q E h
abbrev Wp {α : Type} (m : Res α) (Q : α → Prop) (E : Nat → D → Env → Prop) : Prop := @Wq α m ⟨Q⟩ ⟨E⟩
section
variable {α β : Type} {Q : Post α} {E : Xst}
@[simp ↓] theorem post_p (f : α → Prop) (a : α) : (Post.mk f).p a = f a := rfl
@[simp ↓] theorem xst_e (f : Nat → D → Env → Prop) (c : Nat) (d : D) (ρ : Env) : (Xst.mk f).e c d ρ = f c d ρ := rfl
@[simp ↓] theorem wp_ok (a : α) : @Wq α (.ok a) Q E = Q.p a := propext ⟨fun h => h.g, fun h => wq_mk h⟩
@[simp ↓] theorem wp_exc (c f ρ) : @Wq α (.exc c f ρ) Q E = E.e c f ρ := propext ⟨fun h => h.g, fun h => wq_mk h⟩
@[simp ↓] theorem wp_no : @Wq α .no Q E = False := propext ⟨fun h => h.g, fun h => h.elim⟩
@[simp ↓] theorem wp_bind {Q : Post β} (m : Res α) (k : α → Res β) : @Wq β (m.bind k) Q E = @Wq α m ⟨fun a => @Wq β (k a) Q E⟩ E := by
  cases m with
  | ok a => exact (wp_ok (Q := ⟨fun a => @Wq β (k a) Q E⟩) a).symm
  | exc c f ρ => exact (wp_exc c f ρ).trans (wp_exc c f ρ).symm
  | no => exact wp_no.trans wp_no.symm
@[simp] theorem rbind_ok (a : α) (k : α → Res β) : (Res.ok a).bind k = k a := rfl
@[simp] theorem rbind_exc (c f ρ) (k : α → Res β) : (Res.exc c f ρ : Res α).bind k = .exc c f ρ := rfl
@[simp] theorem rbind_no (k : α → Res β) : (Res.no : Res α).bind k = .no := rfl
end
section
variable {α β : Type} {Q : α → Prop} {E : Nat → D → Env → Prop}
theorem Wp.mono {m : Res α} {Q Q' : α → Prop} {E E' : Nat → D → Env → Prop} (h : Wp m Q E) (hq : ∀ a, Q a → Q' a) (he : ∀ c f ρ, E c f ρ → E' c f ρ) : Wp m Q' E' := by
  cases m with
  | ok a => exact wq_mk (hq a h.g)
  | exc c f ρ => exact wq_mk (he c f ρ h.g)
  | no => exact wq_mk h.g
/-- without errors -/
theorem Wp.okk {m : Res α} (h : Wp m Q fun _ _ _ => False) : ∃ a, m = .ok a ∧ Q a := by
  cases m with
  | ok a => exact ⟨a, rfl, h.g⟩
  | exc c f ρ => exact h.g.elim
  | no => exact h.g.elim
theorem Wp.eq {m : Res α} {a : α} (h : Wp m (fun p => p = a) (fun _ _ _ => False)) : m = .ok a := by
  obtain ⟨p, e, rfl⟩ := h.okk
  exact e
theorem Wp.ex {m : Res α} {c : Nat} {f : D} {ρ : Env} (h : Wp m (fun _ => False) (fun c' f' ρ' => c' = c ∧ f' = f ∧ ρ' = ρ)) : m = .exc c f ρ := by
  cases m with
  | ok a => exact h.g.elim
  | exc c f ρ => obtain ⟨rfl, rfl, rfl⟩ := h.g; rfl
  | no => exact h.g.elim
theorem Wp.wk {m : Res α} {Q Q' : α → Prop} (h : Wp m Q fun _ _ _ => False) (hq : ∀ a, Q a → Q' a) : Wp m Q' E := h.mono hq fun _ _ _ z => z.elim
end
/-! ### loops -/
theorem wp_loopF {body : D → Env → Res (Env × Option R)} {xs : List D} {ρ : Env} {Q : Env × Option R → Prop} {E : Nat → D → Env → Prop} (I : Nat → Env → Prop)
    (h0 : I 0 ρ) (hs : ∀ i d ρ, xs[i]? = some d → I i ρ → Wp (body d ρ) (fun p => match p.2 with | none => I (i + 1) p.1 | some r => Q (p.1, some r)) E)
    (he : ∀ ρ, I xs.length ρ → Q (ρ, none)) : Wp (loopF body xs ρ) Q E := by
  induction xs generalizing ρ I with
  | nil => exact wq_mk (he ρ h0)
  | cons d ds ih =>
    have h1 := hs 0 d ρ rfl h0
    unfold loopF
    cases e : body d ρ with
    | no => rw [e] at h1; exact wq_mk h1.g
    | exc c f ρ' => rw [e] at h1; exact wq_mk h1.g
    | ok p =>
      rw [e] at h1
      obtain ⟨ρ', o⟩ := p
      cases o with
      | some r => exact wq_mk h1.g
      | none => exact ih (fun i => I (i + 1)) h1.g (fun i d ρ hd => hs (i + 1) d ρ (by simpa using hd)) he
/-- .. over a range -/
theorem range_get {lo hi : Int} {i : Nat} {d : D} (h : (rangeL lo hi)[i]? = some d) : d = .int (lo + i) ∧ lo + i < hi := by
  unfold rangeL at h
  rw [List.getElem?_map] at h
  obtain ⟨j, h1, h2⟩ := Option.map_eq_some_iff.mp h
  obtain ⟨a, b⟩ := List.getElem?_eq_some_iff.mp h1
  rw [List.getElem_range] at b
  rw [List.length_range] at a
  subst b
  exact ⟨h2.symm, by omega⟩
@[simp] theorem range_len (lo hi : Int) : (rangeL lo hi).length = (hi - lo).toNat := by simp [rangeL]
theorem wp_loopR {body : D → Env → Res (Env × Option R)} {lo hi : Int} {ρ : Env} {Q : Env × Option R → Prop} {E : Nat → D → Env → Prop} (I : Int → Env → Prop)
    (h0 : I lo ρ) (hs : ∀ i ρ, lo ≤ i → i < hi → I i ρ → Wp (body (.int i) ρ) (fun p => match p.2 with | none => I (i + 1) p.1 | some r => Q (p.1, some r)) E)
    (he : ∀ ρ, I (max lo hi) ρ → Q (ρ, none)) : Wp (loopF body (rangeL lo hi) ρ) Q E := by
  refine wp_loopF (fun i => I (lo + i)) (by simpa using h0) (fun i d ρ hd hI => ?_) fun ρ h => he ρ ?_
  · obtain ⟨rfl, hi⟩ := range_get hd
    have := hs (lo + i) ρ (by omega) hi hI
    rw [show lo + ((i + 1 : Nat) : Int) = lo + i + 1 by omega]
    exact this
  · rw [range_len] at h
    rwa [show lo + ((hi - lo).toNat : Int) = max lo hi by omega] at h
/-- a comprehension that changes nothing -/
theorem loopC_same {turn : D → Env → Res (Option D × Env)} {ρ : Env} {f : D → Option D} : ∀ {xs acc : List D}, (∀ d ∈ xs, turn d ρ = .ok (f d, ρ)) → acc.length + xs.length ≤ lim → loopC turn xs acc ρ = .ok (acc ++ xs.filterMap f, ρ)
  | [], acc, _, _ => by simp [loopC]
  | d :: ds, acc, h, hl => by
    unfold loopC
    rw [h d List.mem_cons_self]
    have hd := fun x hx => h x (List.mem_cons_of_mem _ hx)
    rw [List.length_cons] at hl
    cases e : f d with
    | none =>
      dsimp only
      rw [loopC_same hd (by omega), List.filterMap_cons, e]
    | some x =>
      dsimp only
      have hs : small acc = true := by unfold small; simp; omega
      rw [if_pos hs, loopC_same hd (by rw [List.length_append]; simp; omega), List.filterMap_cons, e]
      simp
theorem loopC_map {turn : D → Env → Res (Option D × Env)} {ρ : Env} {f : D → D} {xs acc : List D} (h : ∀ d ∈ xs, turn d ρ = .ok (some (f d), ρ)) (hl : acc.length + xs.length ≤ lim) : loopC turn xs acc ρ = .ok (acc ++ xs.map f, ρ) := by
  rw [loopC_same (f := fun d => some (f d)) h hl, List.filterMap_eq_map']
/-- .. with a state -/
theorem wp_loopC {turn : D → Env → Res (Option D × Env)} {xs acc : List D} {ρ : Env} {Q : List D × Env → Prop} {E : Nat → D → Env → Prop} (I : Nat → List D → Env → Prop)
    (h0 : I 0 acc ρ) (hs : ∀ i d acc ρ, xs[i]? = some d → I i acc ρ → Wp (turn d ρ) (fun p => match p.1 with | none => I (i + 1) acc p.2 | some x => I (i + 1) (acc ++ [x]) p.2) fun _ _ _ => False)
    (hl : acc.length + xs.length ≤ lim) (he : ∀ acc ρ, I xs.length acc ρ → Q (acc, ρ)) : Wp (loopC turn xs acc ρ) Q E := by
  induction xs generalizing ρ acc I with
  | nil => exact wq_mk (he acc ρ h0)
  | cons d ds ih =>
    have h1 := hs 0 d acc ρ rfl h0
    unfold loopC
    rw [List.length_cons] at hl
    cases e : turn d ρ with
    | no => rw [e] at h1; exact wq_mk h1.g
    | exc c f ρ' => rw [e] at h1; exact h1.g.elim
    | ok p =>
      rw [e] at h1
      obtain ⟨o, ρ'⟩ := p
      cases o with
      | some x =>
        dsimp only
        rw [if_pos (by unfold small; simp; omega)]
        exact ih (fun i => I (i + 1)) h1.g (fun i d acc ρ hd => hs (i + 1) d acc ρ (by simpa using hd)) (by rw [List.length_append]; simp; omega) he
      | none => exact ih (fun i => I (i + 1)) h1.g (fun i d acc ρ hd => hs (i + 1) d acc ρ (by simpa using hd)) (by omega) he
theorem wp_loopW {c : Env → Res (Bool × Env)} {b : Env → Res (Env × Option R)} {ρ : Env} {Q : Env × Option R → Prop} {E : Nat → D → Env → Prop} (I : Nat → Env → Prop) (n : Nat) (hn : n < 1000000) (h0 : I n ρ)
    (hs : ∀ m ρ, m ≤ n → I m ρ → Wp (c ρ) (fun p => if p.1 = true then 0 < m ∧ Wp (b p.2) (fun q => match q.2 with | none => I (m - 1) q.1 | some r => Q (q.1, some r)) E else Q (p.2, none)) E) : Wp (loopW c b 1000000 ρ) Q E := by
  have key : ∀ (m : Nat) (fuel : Nat) (ρ : Env), m ≤ n → m < fuel → I m ρ → Wp (loopW c b fuel ρ) Q E := by
    intro m
    induction m with
    | zero =>
      intro fuel ρ hm hf hI
      have h1 := hs 0 ρ hm hI
      obtain ⟨f, rfl⟩ : ∃ f, fuel = f + 1 := ⟨fuel - 1, by omega⟩
      unfold loopW
      cases e : c ρ with
      | no => rw [e] at h1; exact wq_mk h1.g
      | exc c f ρ' => rw [e] at h1; exact wq_mk h1.g
      | ok p =>
        rw [e] at h1
        obtain ⟨t, ρ1⟩ := p
        cases t with
        | true => exact absurd h1.g.1 (Nat.lt_irrefl _)
        | false => exact wq_mk h1.g
    | succ m ih =>
      intro fuel ρ hm hf hI
      have h1 := hs (m + 1) ρ hm hI
      obtain ⟨f, rfl⟩ : ∃ f, fuel = f + 1 := ⟨fuel - 1, by omega⟩
      unfold loopW
      cases e : c ρ with
      | no => rw [e] at h1; exact wq_mk h1.g
      | exc c f ρ' => rw [e] at h1; exact wq_mk h1.g
      | ok p =>
        rw [e] at h1
        obtain ⟨t, ρ1⟩ := p
        cases t with
        | false => exact wq_mk h1.g
        | true =>
          have h2 := h1.g.2
          dsimp only at h2 ⊢
          cases e2 : b ρ1 with
          | no => rw [e2] at h2; exact wq_mk h2.g
          | exc c f ρ' => rw [e2] at h2; exact wq_mk h2.g
          | ok q =>
            rw [e2] at h2
            obtain ⟨ρ2, o⟩ := q
            cases o with
            | some r => exact wq_mk h2.g
            | none => exact ih f ρ2 (by omega) (by omega) h2.g
  exact key n 1000000 ρ (Nat.le_refl _) hn h0
end Mlg
/-! Pl1: each form of the small language, as a row for simp. -/
namespace Mlg
open PySem (PyData Str)
section
variable {α β : Type} {Q : α → Prop} {E : Nat → D → Env → Prop}
@[simp] theorem rbind_assoc {γ : Type} (m : Res α) (k : α → Res β) (k' : β → Res γ) : (m.bind k).bind k' = m.bind fun a => (k a).bind k' := by cases m <;> rfl
end
theorem asB_eq (r : Res (R × Env)) : asB r = r.bind fun p => match p.1 with | .val (.bool b) => .ok (b, p.2) | _ => .no := by
  rcases r with ⟨⟨r, ρ⟩⟩ | _ | _
  · cases r with
    | val d => cases d <;> rfl
    | tmp _ => rfl
    | loc _ => rfl
  · rfl
  · rfl
section
variable (call : CallT) (ρ : Env)
theorem eval_var (i) : eval call (.var i) ρ = (Res.of (getV ρ i)).bind fun r => .ok (r, ρ) := by rw [eval] <;> rfl
@[simp ↓] theorem w_eval_var (i) {Q : Post _} {E : Xst} : @Wq _ (eval call (.var i) ρ) Q E = @Wq _ ((Res.of (getV ρ i)).bind fun r => .ok (r, ρ)) Q E := by rw [eval_var]
theorem eval_cst (d) : eval call (.cst d) ρ = .ok (.val d, ρ) := by rw [eval] <;> rfl
@[simp ↓] theorem w_eval_cst (d) {Q : Post _} {E : Xst} : @Wq _ (eval call (.cst d) ρ) Q E = @Wq _ (.ok (.val d, ρ)) Q E := by rw [eval_cst]
theorem eval_glo (x d) : eval call (.glo x d) ρ = .ok (.val d, ρ) := by rw [eval] <;> rfl
@[simp ↓] theorem w_eval_glo (x d) {Q : Post _} {E : Xst} : @Wq _ (eval call (.glo x d) ρ) Q E = @Wq _ (.ok (.val d, ρ)) Q E := by rw [eval_glo]
theorem eval_bin (o a b) : eval call (.bin o a b) ρ = (eval call a ρ).bind fun p => (eval call b p.2).bind fun q =>
      match lookS q.2 p.1, lookS q.2 q.1 with
      | some x, some y => (Res.of (bin o x y)).bind fun r => .ok (r, q.2)
      | _, _ => .no := by rw [eval] <;> rfl
@[simp ↓] theorem w_eval_bin (o a b) {Q : Post _} {E : Xst} : @Wq _ (eval call (.bin o a b) ρ) Q E = @Wq _ ((eval call a ρ).bind fun p => (eval call b p.2).bind fun q =>
      match lookS q.2 p.1, lookS q.2 q.1 with
      | some x, some y => (Res.of (bin o x y)).bind fun r => .ok (r, q.2)
      | _, _ => .no) Q E := by rw [eval_bin]
theorem eval_neg (a) : eval call (.neg a) ρ = (eval call a ρ).bind fun p => match p.1 with
      | .val (.int i) => .ok (.val (.int (-i)), p.2)
      | _ => .no := by rw [eval] <;> rfl
@[simp ↓] theorem w_eval_neg (a) {Q : Post _} {E : Xst} : @Wq _ (eval call (.neg a) ρ) Q E = @Wq _ ((eval call a ρ).bind fun p => match p.1 with
      | .val (.int i) => .ok (.val (.int (-i)), p.2)
      | _ => .no) Q E := by rw [eval_neg]
theorem eval_cmp (o a b) : eval call (.cmp o a b) ρ = (eval call a ρ).bind fun p => (eval call b p.2).bind fun q =>
      match look q.2 p.1, look q.2 q.1 with
      | some x, some y => (Res.of (cmp o x y)).bind fun r => .ok (.val (.bool r), q.2)
      | _, _ => .no := by rw [eval] <;> rfl
@[simp ↓] theorem w_eval_cmp (o a b) {Q : Post _} {E : Xst} : @Wq _ (eval call (.cmp o a b) ρ) Q E = @Wq _ ((eval call a ρ).bind fun p => (eval call b p.2).bind fun q =>
      match look q.2 p.1, look q.2 q.1 with
      | some x, some y => (Res.of (cmp o x y)).bind fun r => .ok (.val (.bool r), q.2)
      | _, _ => .no) Q E := by rw [eval_cmp]
theorem eval_chn (o o2 a b c) : eval call (.chn o o2 a b c) ρ = (eval call a ρ).bind fun p => (eval call b p.2).bind fun q =>
      match look q.2 p.1, q.1 with
      | some x, .val y => (Res.of (cmp o x y)).bind fun r =>
          if r = true then (eval call c q.2).bind fun s => match look s.2 s.1 with
            | some z => (Res.of (cmp o2 y z)).bind fun r2 => .ok (.val (.bool r2), s.2)
            | none => .no
          else .ok (.val (.bool false), q.2)
      | _, _ => .no := by rw [eval] <;> rfl
@[simp ↓] theorem w_eval_chn (o o2 a b c) {Q : Post _} {E : Xst} : @Wq _ (eval call (.chn o o2 a b c) ρ) Q E = @Wq _ ((eval call a ρ).bind fun p => (eval call b p.2).bind fun q =>
      match look q.2 p.1, q.1 with
      | some x, .val y => (Res.of (cmp o x y)).bind fun r =>
          if r = true then (eval call c q.2).bind fun s => match look s.2 s.1 with
            | some z => (Res.of (cmp o2 y z)).bind fun r2 => .ok (.val (.bool r2), s.2)
            | none => .no
          else .ok (.val (.bool false), q.2)
      | _, _ => .no) Q E := by rw [eval_chn]
theorem eval_isN (a) : eval call (.isN a) ρ = (eval call a ρ).bind fun p => .ok (.val (.bool (isNone p.1)), p.2) := by rw [eval] <;> rfl
@[simp ↓] theorem w_eval_isN (a) {Q : Post _} {E : Xst} : @Wq _ (eval call (.isN a) ρ) Q E = @Wq _ ((eval call a ρ).bind fun p => .ok (.val (.bool (isNone p.1)), p.2)) Q E := by rw [eval_isN]
theorem eval_ntN (a) : eval call (.ntN a) ρ = (eval call a ρ).bind fun p => .ok (.val (.bool (!isNone p.1)), p.2) := by rw [eval] <;> rfl
@[simp ↓] theorem w_eval_ntN (a) {Q : Post _} {E : Xst} : @Wq _ (eval call (.ntN a) ρ) Q E = @Wq _ ((eval call a ρ).bind fun p => .ok (.val (.bool (!isNone p.1)), p.2)) Q E := by rw [eval_ntN]
def bOf (p : R × Env) : Res (Bool × Env) := match p.1 with | .val (.bool b) => .ok (b, p.2) | _ => .no
@[simp] theorem bOf_bool (b : Bool) (ρ : Env) : bOf (.val (.bool b), ρ) = .ok (b, ρ) := rfl
theorem asB_of (r : Res (R × Env)) : asB r = r.bind bOf := asB_eq r
theorem eval_and (a b) : eval call (.and a b) ρ = (eval call a ρ).bind fun p => (bOf p).bind fun p => if p.1 = true then eval call b p.2 else .ok (.val (.bool false), p.2) := by rw [eval, asB_of, rbind_assoc]
@[simp ↓] theorem w_eval_and (a b) {Q : Post _} {E : Xst} : @Wq _ (eval call (.and a b) ρ) Q E = @Wq _ ((eval call a ρ).bind fun p => (bOf p).bind fun p => if p.1 = true then eval call b p.2 else .ok (.val (.bool false), p.2)) Q E := by rw [eval_and]
theorem eval_or (a b) : eval call (.or a b) ρ = (eval call a ρ).bind fun p => (bOf p).bind fun p => if p.1 = true then .ok (.val (.bool true), p.2) else eval call b p.2 := by rw [eval, asB_of, rbind_assoc]
@[simp ↓] theorem w_eval_or (a b) {Q : Post _} {E : Xst} : @Wq _ (eval call (.or a b) ρ) Q E = @Wq _ ((eval call a ρ).bind fun p => (bOf p).bind fun p => if p.1 = true then .ok (.val (.bool true), p.2) else eval call b p.2) Q E := by rw [eval_or]
theorem eval_not (a) : eval call (.not a) ρ = (eval call a ρ).bind fun p => (bOf p).bind fun p => .ok (.val (.bool (!p.1)), p.2) := by rw [eval, asB_of, rbind_assoc]
@[simp ↓] theorem w_eval_not (a) {Q : Post _} {E : Xst} : @Wq _ (eval call (.not a) ρ) Q E = @Wq _ ((eval call a ρ).bind fun p => (bOf p).bind fun p => .ok (.val (.bool (!p.1)), p.2)) Q E := by rw [eval_not]
theorem eval_ite (c a b) : eval call (.ite c a b) ρ = (eval call c ρ).bind fun p => (bOf p).bind fun p => if p.1 = true then eval call a p.2 else eval call b p.2 := by rw [eval, asB_of, rbind_assoc]
@[simp ↓] theorem w_eval_ite (c a b) {Q : Post _} {E : Xst} : @Wq _ (eval call (.ite c a b) ρ) Q E = @Wq _ ((eval call c ρ).bind fun p => (bOf p).bind fun p => if p.1 = true then eval call a p.2 else eval call b p.2) Q E := by rw [eval_ite]
theorem eval_isB (neg b a) : eval call (.isB neg b a) ρ = (eval call a ρ).bind fun p => match p.1 with
      | .val (.bool x) => .ok (.val (.bool ((x == b) != neg)), p.2)
      | _ => .no := by rw [eval] <;> rfl
@[simp ↓] theorem w_eval_isB (neg b a) {Q : Post _} {E : Xst} : @Wq _ (eval call (.isB neg b a) ρ) Q E = @Wq _ ((eval call a ρ).bind fun p => match p.1 with
      | .val (.bool x) => .ok (.val (.bool ((x == b) != neg)), p.2)
      | _ => .no) Q E := by rw [eval_isB]
theorem eval_fld (i f) : eval call (.fld i f) ρ = (Res.of (fldOfE ρ i f)).bind fun d => .ok (.val d, ρ) := by rw [eval] <;> rfl
@[simp ↓] theorem w_eval_fld (i f) {Q : Post _} {E : Xst} : @Wq _ (eval call (.fld i f) ρ) Q E = @Wq _ ((Res.of (fldOfE ρ i f)).bind fun d => .ok (.val d, ρ)) Q E := by rw [eval_fld]
theorem eval_lno (i) : eval call (.lno i) ρ = match fldOfE ρ i "past" with
      | some (.tuple ds) => .ok (.val (.int ds.length), ρ)
      | _ => .no := by rw [eval] <;> rfl
@[simp ↓] theorem w_eval_lno (i) {Q : Post _} {E : Xst} : @Wq _ (eval call (.lno i) ρ) Q E = @Wq _ (match fldOfE ρ i "past" with
      | some (.tuple ds) => .ok (.val (.int ds.length), ρ)
      | _ => .no) Q E := by rw [eval_lno]
theorem eval_mth (f i as) : eval call (.mth f i as) ρ = if isIns ρ i = true then (evals call as ρ).bind fun p => if isIns p.2 i = true then doCall call f (.loc i :: p.1) p.2 else .no else .no := by rw [eval] <;> rfl
@[simp ↓] theorem w_eval_mth (f i as) {Q : Post _} {E : Xst} : @Wq _ (eval call (.mth f i as) ρ) Q E = @Wq _ (if isIns ρ i = true then (evals call as ρ).bind fun p => if isIns p.2 i = true then doCall call f (.loc i :: p.1) p.2 else .no else .no) Q E := by rw [eval_mth]
theorem eval_mk (f as) : eval call (.mk f as) ρ = (evals call as ρ).bind fun p => doCall (mkCall call) f (.tmp (.ins []) :: p.1) p.2 := by rw [eval] <;> rfl
@[simp ↓] theorem w_eval_mk (f as) {Q : Post _} {E : Xst} : @Wq _ (eval call (.mk f as) ρ) Q E = @Wq _ ((evals call as ρ).bind fun p => doCall (mkCall call) f (.tmp (.ins []) :: p.1) p.2) Q E := by rw [eval_mk]
theorem eval_call (f as) : eval call (.call f as) ρ = (evals call as ρ).bind fun p => doCall call f p.1 p.2 := by rw [eval] <;> rfl
@[simp ↓] theorem w_eval_call (f as) {Q : Post _} {E : Xst} : @Wq _ (eval call (.call f as) ρ) Q E = @Wq _ ((evals call as ρ).bind fun p => doCall call f p.1 p.2) Q E := by rw [eval_call]
theorem eval_b1 (f a) : eval call (.b1 f a) ρ = (eval call a ρ).bind fun p => match look p.2 p.1 with
      | some x => (Res.of (b1 f x)).bind fun r => .ok (r, p.2)
      | none => .no := by rw [eval] <;> rfl
@[simp ↓] theorem w_eval_b1 (f a) {Q : Post _} {E : Xst} : @Wq _ (eval call (.b1 f a) ρ) Q E = @Wq _ ((eval call a ρ).bind fun p => match look p.2 p.1 with
      | some x => (Res.of (b1 f x)).bind fun r => .ok (r, p.2)
      | none => .no) Q E := by rw [eval_b1]
theorem eval_b2 (f a b) : eval call (.b2 f a b) ρ = (eval call a ρ).bind fun p => (eval call b p.2).bind fun q => match p.1, q.1 with
      | .val x, .val y => (Res.of (b2 f x y)).bind fun r => .ok (r, q.2)
      | _, _ => .no := by rw [eval] <;> rfl
@[simp ↓] theorem w_eval_b2 (f a b) {Q : Post _} {E : Xst} : @Wq _ (eval call (.b2 f a b) ρ) Q E = @Wq _ ((eval call a ρ).bind fun p => (eval call b p.2).bind fun q => match p.1, q.1 with
      | .val x, .val y => (Res.of (b2 f x y)).bind fun r => .ok (r, q.2)
      | _, _ => .no) Q E := by rw [eval_b2]
theorem eval_m1 (f a b) : eval call (.m1 f a b) ρ = (eval call a ρ).bind fun p => if m1k f (look p.2 p.1) = true then (eval call b p.2).bind fun q => (match look q.2 p.1, look q.2 q.1 with
      | some x, some y => (Res.of (m1 f x y)).bind fun r => .ok (r, q.2)
      | _, _ => .no) else .no := by rw [eval] <;> rfl
@[simp ↓] theorem w_eval_m1 (f a b) {Q : Post _} {E : Xst} : @Wq _ (eval call (.m1 f a b) ρ) Q E = @Wq _ ((eval call a ρ).bind fun p => if m1k f (look p.2 p.1) = true then (eval call b p.2).bind fun q => (match look q.2 p.1, look q.2 q.1 with
      | some x, some y => (Res.of (m1 f x y)).bind fun r => .ok (r, q.2)
      | _, _ => .no) else .no) Q E := by rw [eval_m1]
theorem eval_ix (a i) : eval call (.ix a i) ρ = (eval call a ρ).bind fun p => (eval call i p.2).bind fun q => match look q.2 p.1, q.1 with
      | some x, .val y => (Res.of (ixD x y)).bind fun r => .ok (r, q.2)
      | _, _ => .no := by rw [eval] <;> rfl
@[simp ↓] theorem w_eval_ix (a i) {Q : Post _} {E : Xst} : @Wq _ (eval call (.ix a i) ρ) Q E = @Wq _ ((eval call a ρ).bind fun p => (eval call i p.2).bind fun q => match look q.2 p.1, q.1 with
      | some x, .val y => (Res.of (ixD x y)).bind fun r => .ok (r, q.2)
      | _, _ => .no) Q E := by rw [eval_ix]
theorem eval_sl (a lo hi) : eval call (.sl a lo hi) ρ = (eval call a ρ).bind fun p => (evalo call lo p.2).bind fun q => (evalo call hi q.2).bind fun s => match look s.2 p.1 with
      | some x => (Res.of (slD x q.1 s.1)).bind fun r => .ok (r, s.2)
      | none => .no := by rw [eval] <;> rfl
@[simp ↓] theorem w_eval_sl (a lo hi) {Q : Post _} {E : Xst} : @Wq _ (eval call (.sl a lo hi) ρ) Q E = @Wq _ ((eval call a ρ).bind fun p => (evalo call lo p.2).bind fun q => (evalo call hi q.2).bind fun s => match look s.2 p.1 with
      | some x => (Res.of (slD x q.1 s.1)).bind fun r => .ok (r, s.2)
      | none => .no) Q E := by rw [eval_sl]
theorem eval_rev (a) : eval call (.rev a) ρ = (eval call a ρ).bind fun p => match look p.2 p.1 with
      | some x => (Res.of (revD x)).bind fun r => .ok (r, p.2)
      | none => .no := by rw [eval] <;> rfl
@[simp ↓] theorem w_eval_rev (a) {Q : Post _} {E : Xst} : @Wq _ (eval call (.rev a) ρ) Q E = @Wq _ ((eval call a ρ).bind fun p => match look p.2 p.1 with
      | some x => (Res.of (revD x)).bind fun r => .ok (r, p.2)
      | none => .no) Q E := by rw [eval_rev]
theorem eval_tup (es) : eval call (.tup es) ρ = (evalv call es ρ).bind fun p => if small p.1 then .ok (.val (.tuple p.1), p.2) else .no := by rw [eval] <;> rfl
@[simp ↓] theorem w_eval_tup (es) {Q : Post _} {E : Xst} : @Wq _ (eval call (.tup es) ρ) Q E = @Wq _ ((evalv call es ρ).bind fun p => if small p.1 then .ok (.val (.tuple p.1), p.2) else .no) Q E := by rw [eval_tup]
theorem eval_lst (es) : eval call (.lst es) ρ = (evalv call es ρ).bind fun p => if small p.1 then .ok (.tmp (.lst p.1), p.2) else .no := by rw [eval] <;> rfl
@[simp ↓] theorem w_eval_lst (es) {Q : Post _} {E : Xst} : @Wq _ (eval call (.lst es) ρ) Q E = @Wq _ ((evalv call es ρ).bind fun p => if small p.1 then .ok (.tmp (.lst p.1), p.2) else .no) Q E := by rw [eval_lst]
theorem eval_dnew (t) : eval call (.dnew t) ρ = .ok (.tmp (.dic t []), ρ) := by rw [eval] <;> rfl
@[simp ↓] theorem w_eval_dnew (t) {Q : Post _} {E : Xst} : @Wq _ (eval call (.dnew t) ρ) Q E = @Wq _ (.ok (.tmp (.dic t []), ρ)) Q E := by rw [eval_dnew]
theorem eval_dsp (k v) : eval call (.dsp k v) ρ = (eval call k ρ).bind fun p => (eval call v p.2).bind fun q => match p.1, fix q.2 q.1 with
      | .val kd, some (x, ρ') => if keyT true kd = true then .ok (.tmp (.dic true [(kd, x)]), ρ') else .no
      | _, _ => .no := by rw [eval] <;> rfl
@[simp ↓] theorem w_eval_dsp (k v) {Q : Post _} {E : Xst} : @Wq _ (eval call (.dsp k v) ρ) Q E = @Wq _ ((eval call k ρ).bind fun p => (eval call v p.2).bind fun q => match p.1, fix q.2 q.1 with
      | .val kd, some (x, ρ') => if keyT true kd = true then .ok (.tmp (.dic true [(kd, x)]), ρ') else .no
      | _, _ => .no) Q E := by rw [eval_dsp]
theorem eval_dvals (i) : eval call (.dvals i) ρ = match ρ[i]? with
      | some (.own (.dic false kvs)) => .ok (.tmp (.lst (kvs.map (·.2))), ρ)
      | _ => .no := by rw [eval] <;> rfl
@[simp ↓] theorem w_eval_dvals (i) {Q : Post _} {E : Xst} : @Wq _ (eval call (.dvals i) ρ) Q E = @Wq _ (match ρ[i]? with
      | some (.own (.dic false kvs)) => .ok (.tmp (.lst (kvs.map (·.2))), ρ)
      | _ => .no) Q E := by rw [eval_dvals]
theorem eval_din (neg a i) : eval call (.din neg a i) ρ = (eval call a ρ).bind fun p => match p.1, p.2[i]? with
      | .val kd, some (.own (.dic t kvs)) => if keyT t kd = true then .ok (.val (.bool (neg != kvs.any (eqv kd ·.1))), p.2) else .no
      | _, _ => .no := by rw [eval] <;> rfl
@[simp ↓] theorem w_eval_din (neg a i) {Q : Post _} {E : Xst} : @Wq _ (eval call (.din neg a i) ρ) Q E = @Wq _ ((eval call a ρ).bind fun p => match p.1, p.2[i]? with
      | .val kd, some (.own (.dic t kvs)) => if keyT t kd = true then .ok (.val (.bool (neg != kvs.any (eqv kd ·.1))), p.2) else .no
      | _, _ => .no) Q E := by rw [eval_din]
theorem eval_rg1 (l a) : eval call (.rg1 l a) ρ = (eval call a ρ).bind fun p => match p.1 with
      | .val (.int i) => if rangeOk i = true then .ok (if l = true then .tmp (.lst (rangeL 0 i)) else .val (.tuple (rangeL 0 i)), p.2) else .no
      | _ => .no := by rw [eval] <;> rfl
@[simp ↓] theorem w_eval_rg1 (l a) {Q : Post _} {E : Xst} : @Wq _ (eval call (.rg1 l a) ρ) Q E = @Wq _ ((eval call a ρ).bind fun p => match p.1 with
      | .val (.int i) => if rangeOk i = true then .ok (if l = true then .tmp (.lst (rangeL 0 i)) else .val (.tuple (rangeL 0 i)), p.2) else .no
      | _ => .no) Q E := by rw [eval_rg1]
theorem eval_rg2 (l a b) : eval call (.rg2 l a b) ρ = (eval call a ρ).bind fun p => (eval call b p.2).bind fun q => match p.1, q.1 with
      | .val (.int i), .val (.int j) => if (rangeOk i && rangeOk j) = true then .ok (if l = true then .tmp (.lst (rangeL i j)) else .val (.tuple (rangeL i j)), q.2) else .no
      | _, _ => .no := by rw [eval] <;> rfl
@[simp ↓] theorem w_eval_rg2 (l a b) {Q : Post _} {E : Xst} : @Wq _ (eval call (.rg2 l a b) ρ) Q E = @Wq _ ((eval call a ρ).bind fun p => (eval call b p.2).bind fun q => match p.1, q.1 with
      | .val (.int i), .val (.int j) => if (rangeOk i && rangeOk j) = true then .ok (if l = true then .tmp (.lst (rangeL i j)) else .val (.tuple (rangeL i j)), q.2) else .no
      | _, _ => .no) Q E := by rw [eval_rg2]
/-- a turn of a comprehension -/
def lcT (elt : E) (tg : Tg) (c : Eo) (vs : List Nat) (d : D) (ρ : Env) : Res (Option D × Env) := (Res.of (putTg ρ tg d)).bind fun ρ2 => (test call c ρ2).bind fun t =>
  if t.1 = true then (eval call elt t.2).bind fun r => (Res.of (fix r.2 r.1)).bind fun x => (Res.of (wipeE x.2 vs)).bind fun ρ5 => .ok (some x.1, ρ5)
  else (Res.of (wipeE t.2 vs)).bind fun ρ5 => .ok (none, ρ5)
theorem eval_lc (elt tg it c vs) : eval call (.lc elt tg it c vs) ρ = (walk call it ρ).bind fun p => (Res.of (wipeE p.2 vs)).bind fun ρ1 =>
    (loopC (lcT call elt tg c vs) p.1.1 [] ρ1).bind fun q => (Res.of (unlockE (backE p.2 vs q.2) p.1.2)).bind fun ρ' => .ok (.tmp (.lst q.1), ρ') := by
  rw [eval]
  congr 1
  funext p
  cases wipeE p.2 vs with
  | none => rfl
  | some ρ1 =>
    refine congrArg (fun t => (loopC t p.1.1 [] ρ1).bind fun q => (Res.of (unlockE (backE p.2 vs q.2) p.1.2)).bind fun ρ' => Res.ok (R.tmp (O.lst q.1), ρ')) ?_
    funext d ρ
    unfold lcT
    cases putTg ρ tg d with
    | none => rfl
    | some ρ2 =>
      refine congrArg (fun t => (test call c ρ2).bind t) ?_
      funext t
      split
      · congr 1
        funext r
        cases fix r.2 r.1 with
        | none => rfl
        | some x => rfl
      · rfl
@[simp ↓] theorem w_eval_lc (elt tg it c vs) {Q : Post _} {E : Xst} : @Wq _ (eval call (.lc elt tg it c vs) ρ) Q E = @Wq _ ((walk call it ρ).bind fun p => (Res.of (wipeE p.2 vs)).bind fun ρ1 =>
    (loopC (lcT call elt tg c vs) p.1.1 [] ρ1).bind fun q => (Res.of (unlockE (backE p.2 vs q.2) p.1.2)).bind fun ρ' => .ok (.tmp (.lst q.1), ρ')) Q E := by rw [eval_lc]
theorem eval_app (i a) : eval call (.app i a) ρ = if (ownL ρ i).isSome = true then (eval call a ρ).bind fun p => match fix p.2 p.1 with
      | none => .no
      | some (x, ρ') => match ownL ρ' i with
        | some xs => if small xs then .ok (.val .none, ρ'.set i (.own (.lst (xs ++ [x])))) else .no
        | none => .no
      else .no := by rw [eval] <;> rfl
@[simp ↓] theorem w_eval_app (i a) {Q : Post _} {E : Xst} : @Wq _ (eval call (.app i a) ρ) Q E = @Wq _ (if (ownL ρ i).isSome = true then (eval call a ρ).bind fun p => match fix p.2 p.1 with
      | none => .no
      | some (x, ρ') => match ownL ρ' i with
        | some xs => if small xs then .ok (.val .none, ρ'.set i (.own (.lst (xs ++ [x])))) else .no
        | none => .no
      else .no) Q E := by rw [eval_app]
theorem eval_pop (i a) : eval call (.pop i a) ρ = if (ownL ρ i).isSome = true then (evalo call a ρ).bind fun p => match ownL p.2 i with
      | some xs => (match p.1 with
        | none => (match xs[xs.length - 1]? with | some x => .ok (.val x, p.2.set i (.own (.lst xs.dropLast))) | none => .no)
        | some j => if 0 ≤ j ∧ j < 1000000 then (match xs[j.toNat]? with | some x => .ok (.val x, p.2.set i (.own (.lst (xs.eraseIdx j.toNat)))) | none => .no) else .no)
      | none => .no
      else .no := by rw [eval] <;> rfl
@[simp ↓] theorem w_eval_pop (i a) {Q : Post _} {E : Xst} : @Wq _ (eval call (.pop i a) ρ) Q E = @Wq _ (if (ownL ρ i).isSome = true then (evalo call a ρ).bind fun p => match ownL p.2 i with
      | some xs => (match p.1 with
        | none => (match xs[xs.length - 1]? with | some x => .ok (.val x, p.2.set i (.own (.lst xs.dropLast))) | none => .no)
        | some j => if 0 ≤ j ∧ j < 1000000 then (match xs[j.toNat]? with | some x => .ok (.val x, p.2.set i (.own (.lst (xs.eraseIdx j.toNat)))) | none => .no) else .no)
      | none => .no
      else .no) Q E := by rw [eval_pop]
theorem evals_nil : evals call .nil ρ = .ok ([], ρ) := by rw [evals] <;> rfl
@[simp ↓] theorem w_evals_nil {Q : Post _} {E : Xst} : @Wq _ (evals call .nil ρ) Q E = @Wq _ (.ok ([], ρ)) Q E := by rw [evals_nil]
theorem evals_cons (e es) : evals call (.cons e es) ρ = (eval call e ρ).bind fun p => (evals call es p.2).bind fun q => .ok (p.1 :: q.1, q.2) := by rw [evals] <;> rfl
@[simp ↓] theorem w_evals_cons (e es) {Q : Post _} {E : Xst} : @Wq _ (evals call (.cons e es) ρ) Q E = @Wq _ ((eval call e ρ).bind fun p => (evals call es p.2).bind fun q => .ok (p.1 :: q.1, q.2)) Q E := by rw [evals_cons]
theorem evalv_nil : evalv call .nil ρ = .ok ([], ρ) := by rw [evalv] <;> rfl
@[simp ↓] theorem w_evalv_nil {Q : Post _} {E : Xst} : @Wq _ (evalv call .nil ρ) Q E = @Wq _ (.ok ([], ρ)) Q E := by rw [evalv_nil]
theorem evalv_cons (e es) : evalv call (.cons e es) ρ = (eval call e ρ).bind fun p => (Res.of (fix p.2 p.1)).bind fun x => (evalv call es x.2).bind fun q => .ok (x.1 :: q.1, q.2) := by
  rw [evalv]
  congr 1
  funext p
  cases fix p.2 p.1 with
  | none => rfl
  | some x => rfl
@[simp ↓] theorem w_evalv_cons (e es) {Q : Post _} {E : Xst} : @Wq _ (evalv call (.cons e es) ρ) Q E = @Wq _ ((eval call e ρ).bind fun p => (Res.of (fix p.2 p.1)).bind fun x => (evalv call es x.2).bind fun q => .ok (x.1 :: q.1, q.2)) Q E := by rw [evalv_cons]
theorem evalv_star (e es) : evalv call (.star e es) ρ = (eval call e ρ).bind fun p => match p.1 with
      | .val d => (Res.of (items d)).bind fun xs => (evalv call es p.2).bind fun q => .ok (xs ++ q.1, q.2)
      | _ => .no := by rw [evalv] <;> rfl
@[simp ↓] theorem w_evalv_star (e es) {Q : Post _} {E : Xst} : @Wq _ (evalv call (.star e es) ρ) Q E = @Wq _ ((eval call e ρ).bind fun p => match p.1 with
      | .val d => (Res.of (items d)).bind fun xs => (evalv call es p.2).bind fun q => .ok (xs ++ q.1, q.2)
      | _ => .no) Q E := by rw [evalv_star]
theorem evalo_no : evalo call .no ρ = .ok (none, ρ) := by rw [evalo] <;> rfl
@[simp ↓] theorem w_evalo_no {Q : Post _} {E : Xst} : @Wq _ (evalo call .no ρ) Q E = @Wq _ (.ok (none, ρ)) Q E := by rw [evalo_no]
theorem evalo_so (e) : evalo call (.so e) ρ = (eval call e ρ).bind fun p => match p.1 with
      | .val (.int i) => .ok (some i, p.2)
      | _ => .no := by rw [evalo] <;> rfl
@[simp ↓] theorem w_evalo_so (e) {Q : Post _} {E : Xst} : @Wq _ (evalo call (.so e) ρ) Q E = @Wq _ ((eval call e ρ).bind fun p => match p.1 with
      | .val (.int i) => .ok (some i, p.2)
      | _ => .no) Q E := by rw [evalo_so]
theorem test_no : test call .no ρ = .ok (true, ρ) := by rw [test] <;> rfl
@[simp ↓] theorem w_test_no {Q : Post _} {E : Xst} : @Wq _ (test call .no ρ) Q E = @Wq _ (.ok (true, ρ)) Q E := by rw [test_no]
theorem test_so (e) : test call (.so e) ρ = (eval call e ρ).bind bOf := by rw [test, asB_of]
@[simp ↓] theorem w_test_so (e) {Q : Post _} {E : Xst} : @Wq _ (test call (.so e) ρ) Q E = @Wq _ ((eval call e ρ).bind bOf) Q E := by rw [test_so]
theorem walk_r1 (a) : walk call (.r1 a) ρ = (eval call a ρ).bind fun p => match p.1 with
      | .val (.int i) => if rangeOk i then .ok ((rangeL 0 i, none), p.2) else .no
      | _ => .no := by rw [walk] <;> rfl
@[simp ↓] theorem w_walk_r1 (a) {Q : Post _} {E : Xst} : @Wq _ (walk call (.r1 a) ρ) Q E = @Wq _ ((eval call a ρ).bind fun p => match p.1 with
      | .val (.int i) => if rangeOk i then .ok ((rangeL 0 i, none), p.2) else .no
      | _ => .no) Q E := by rw [walk_r1]
theorem walk_r2 (a b) : walk call (.r2 a b) ρ = (eval call a ρ).bind fun p => (eval call b p.2).bind fun q => match p.1, q.1 with
      | .val (.int i), .val (.int j) => if rangeOk i && rangeOk j then .ok ((rangeL i j, none), q.2) else .no
      | _, _ => .no := by rw [walk] <;> rfl
@[simp ↓] theorem w_walk_r2 (a b) {Q : Post _} {E : Xst} : @Wq _ (walk call (.r2 a b) ρ) Q E = @Wq _ ((eval call a ρ).bind fun p => (eval call b p.2).bind fun q => match p.1, q.1 with
      | .val (.int i), .val (.int j) => if rangeOk i && rangeOk j then .ok ((rangeL i j, none), q.2) else .no
      | _, _ => .no) Q E := by rw [walk_r2]
theorem walk_r3 (a b c) : walk call (.r3 a b c) ρ = (eval call a ρ).bind fun p => (eval call b p.2).bind fun q => (eval call c q.2).bind fun r => match p.1, q.1, r.1 with
      | .val (.int i), .val (.int j), .val (.int k) => if rangeOk i && rangeOk j && rangeOk k && decide (0 < k) then .ok ((stepL i j k, none), r.2) else .no
      | _, _, _ => .no := by rw [walk] <;> rfl
@[simp ↓] theorem w_walk_r3 (a b c) {Q : Post _} {E : Xst} : @Wq _ (walk call (.r3 a b c) ρ) Q E = @Wq _ ((eval call a ρ).bind fun p => (eval call b p.2).bind fun q => (eval call c q.2).bind fun r => match p.1, q.1, r.1 with
      | .val (.int i), .val (.int j), .val (.int k) => if rangeOk i && rangeOk j && rangeOk k && decide (0 < k) then .ok ((stepL i j k, none), r.2) else .no
      | _, _, _ => .no) Q E := by rw [walk_r3]
theorem walk_envar (i) : walk call (.envar i) ρ = if isStr ((ρ[i]?).bind view) = true then .no else (Res.of (lockV ρ i)).bind fun q => .ok ((enumL 0 q.1.1, q.1.2), q.2) := by rw [walk] <;> rfl
@[simp ↓] theorem w_walk_envar (i) {Q : Post _} {E : Xst} : @Wq _ (walk call (.envar i) ρ) Q E = @Wq _ (if isStr ((ρ[i]?).bind view) = true then .no else (Res.of (lockV ρ i)).bind fun q => .ok ((enumL 0 q.1.1, q.1.2), q.2)) Q E := by rw [walk_envar]
theorem walk_enu (a) : walk call (.enu a) ρ = (eval call a ρ).bind fun p => if isStr (look p.2 p.1) = true then .no else (Res.of (walkR p.1)).bind fun xs => .ok ((enumL 0 xs, none), p.2) := by rw [walk] <;> rfl
@[simp ↓] theorem w_walk_enu (a) {Q : Post _} {E : Xst} : @Wq _ (walk call (.enu a) ρ) Q E = @Wq _ ((eval call a ρ).bind fun p => if isStr (look p.2 p.1) = true then .no else (Res.of (walkR p.1)).bind fun xs => .ok ((enumL 0 xs, none), p.2)) Q E := by rw [walk_enu]
theorem walk_var (i) : walk call (.var i) ρ = Res.of (lockV ρ i) := by rw [walk] <;> rfl
@[simp ↓] theorem w_walk_var (i) {Q : Post _} {E : Xst} : @Wq _ (walk call (.var i) ρ) Q E = @Wq _ (Res.of (lockV ρ i)) Q E := by rw [walk_var]
theorem walk_val (a) : walk call (.val a) ρ = (eval call a ρ).bind fun p => (Res.of (walkR p.1)).bind fun xs => .ok ((xs, none), p.2) := by rw [walk] <;> rfl
@[simp ↓] theorem w_walk_val (a) {Q : Post _} {E : Xst} : @Wq _ (walk call (.val a) ρ) Q E = @Wq _ ((eval call a ρ).bind fun p => (Res.of (walkR p.1)).bind fun xs => .ok ((xs, none), p.2)) Q E := by rw [walk_val]
variable (np : Nat)
theorem exec_asg (i e) : exec call np (.asg i e) ρ = (eval call e ρ).bind fun p => (Res.of (put p.2 i p.1)).bind fun ρ' => .ok (ρ', none) := by rw [exec] <;> rfl
@[simp ↓] theorem w_exec_asg (i e) {Q : Post _} {E : Xst} : @Wq _ (exec call np (.asg i e) ρ) Q E = @Wq _ ((eval call e ρ).bind fun p => (Res.of (put p.2 i p.1)).bind fun ρ' => .ok (ρ', none)) Q E := by rw [exec_asg]
theorem exec_par (is es) : exec call np (.par is es) ρ = (evals call es ρ).bind fun p => (Res.of (fixLocs p.2 p.1)).bind fun q => (Res.of (puts q.2 is q.1)).bind fun ρ' => .ok (ρ', none) := by rw [exec] <;> rfl
@[simp ↓] theorem w_exec_par (is es) {Q : Post _} {E : Xst} : @Wq _ (exec call np (.par is es) ρ) Q E = @Wq _ ((evals call es ρ).bind fun p => (Res.of (fixLocs p.2 p.1)).bind fun q => (Res.of (puts q.2 is q.1)).bind fun ρ' => .ok (ρ', none)) Q E := by rw [exec_par]
theorem exec_unp (is e) : exec call np (.unp is e) ρ = (eval call e ρ).bind fun p => match p.1 with
      | .val (.tuple ds) => (Res.of (putVs p.2 is ds)).bind fun ρ' => .ok (ρ', none)
      | _ => .no := by rw [exec] <;> rfl
@[simp ↓] theorem w_exec_unp (is e) {Q : Post _} {E : Xst} : @Wq _ (exec call np (.unp is e) ρ) Q E = @Wq _ ((eval call e ρ).bind fun p => match p.1 with
      | .val (.tuple ds) => (Res.of (putVs p.2 is ds)).bind fun ρ' => .ok (ρ', none)
      | _ => .no) Q E := by rw [exec_unp]
theorem exec_sub (i ix e) : exec call np (.sub i ix e) ρ = (eval call e ρ).bind fun p => (Res.of (fix p.2 p.1)).bind fun x => if hasObj x.2 i = true then (eval call ix x.2).bind fun q => (match q.1 with
        | .val kd => (Res.of (storeD q.2 i kd x.1)).bind fun ρ' => .ok (ρ', none)
        | _ => .no)
        else .no := by
  rw [exec]
  congr 1
  funext p
  cases fix p.2 p.1 with
  | none => rfl
  | some x => rfl
@[simp ↓] theorem w_exec_sub (i ix e) {Q : Post _} {E : Xst} : @Wq _ (exec call np (.sub i ix e) ρ) Q E = @Wq _ ((eval call e ρ).bind fun p => (Res.of (fix p.2 p.1)).bind fun x => if hasObj x.2 i = true then (eval call ix x.2).bind fun q => (match q.1 with
        | .val kd => (Res.of (storeD q.2 i kd x.1)).bind fun ρ' => .ok (ρ', none)
        | _ => .no)
        else .no) Q E := by rw [exec_sub]
theorem exec_swp (i a b c d) : exec call np (.swp i a b c d) ρ = if hasObj ρ i = true then (eval call (.ix (.var i) c) ρ).bind fun p => (eval call (.ix (.var i) d) p.2).bind fun q => (match p.1, q.1 with
      | .val x, .val y => if hasObj q.2 i = true then (eval call a q.2).bind fun r => (match r.1 with
        | .val j => (Res.of (storeD r.2 i j x)).bind fun ρ1 => (eval call b ρ1).bind fun s => (match s.1 with
          | .val j' => (Res.of (storeD s.2 i j' y)).bind fun ρ2 => .ok (ρ2, none)
          | _ => .no)
        | _ => .no)
        else .no
      | _, _ => .no)
      else .no := by rw [exec] <;> rfl
@[simp ↓] theorem w_exec_swp (i a b c d) {Q : Post _} {E : Xst} : @Wq _ (exec call np (.swp i a b c d) ρ) Q E = @Wq _ (if hasObj ρ i = true then (eval call (.ix (.var i) c) ρ).bind fun p => (eval call (.ix (.var i) d) p.2).bind fun q => (match p.1, q.1 with
      | .val x, .val y => if hasObj q.2 i = true then (eval call a q.2).bind fun r => (match r.1 with
        | .val j => (Res.of (storeD r.2 i j x)).bind fun ρ1 => (eval call b ρ1).bind fun s => (match s.1 with
          | .val j' => (Res.of (storeD s.2 i j' y)).bind fun ρ2 => .ok (ρ2, none)
          | _ => .no)
        | _ => .no)
        else .no
      | _, _ => .no)
      else .no) Q E := by rw [exec_swp]
theorem exec_aug (i o e) : exec call np (.aug i o e) ρ = match ρ[i]? with
      | some (.val (.int x)) => (eval call e ρ).bind fun p => (match p.1 with
        | .val (.int y) => (Res.of (augI o x y)).bind fun z => (Res.of (putV p.2 i (.int z))).bind fun ρ' => .ok (ρ', none)
        | _ => .no)
      | _ => .no := by rw [exec] <;> rfl
@[simp ↓] theorem w_exec_aug (i o e) {Q : Post _} {E : Xst} : @Wq _ (exec call np (.aug i o e) ρ) Q E = @Wq _ (match ρ[i]? with
      | some (.val (.int x)) => (eval call e ρ).bind fun p => (match p.1 with
        | .val (.int y) => (Res.of (augI o x y)).bind fun z => (Res.of (putV p.2 i (.int z))).bind fun ρ' => .ok (ρ', none)
        | _ => .no)
      | _ => .no) Q E := by rw [exec_aug]
theorem exec_exp (e) : exec call np (.exp e) ρ = (eval call e ρ).bind fun p => .ok (p.2, none) := by rw [exec] <;> rfl
@[simp ↓] theorem w_exec_exp (e) {Q : Post _} {E : Xst} : @Wq _ (exec call np (.exp e) ρ) Q E = @Wq _ ((eval call e ρ).bind fun p => .ok (p.2, none)) Q E := by rw [exec_exp]
theorem exec_ret (e) : exec call np (.ret e) ρ = (eval call e ρ).bind fun p => (Res.of (retOf np p.2 p.1)).bind fun q => .ok (q.2, some q.1) := by rw [exec] <;> rfl
@[simp ↓] theorem w_exec_ret (e) {Q : Post _} {E : Xst} : @Wq _ (exec call np (.ret e) ρ) Q E = @Wq _ ((eval call e ρ).bind fun p => (Res.of (retOf np p.2 p.1)).bind fun q => .ok (q.2, some q.1)) Q E := by rw [exec_ret]
theorem exec_cond (c a b) : exec call np (.cond c a b) ρ = (eval call c ρ).bind fun p => (bOf p).bind fun p => if p.1 = true then execs call np a p.2 else execs call np b p.2 := by rw [exec, asB_of, rbind_assoc]
@[simp ↓] theorem w_exec_cond (c a b) {Q : Post _} {E : Xst} : @Wq _ (exec call np (.cond c a b) ρ) Q E = @Wq _ ((eval call c ρ).bind fun p => (bOf p).bind fun p => if p.1 = true then execs call np a p.2 else execs call np b p.2) Q E := by rw [exec_cond]
/-- a loop's turn -/
def bodyF (tg : Tg) (b : Ss) (d : D) (ρ : Env) : Res (Env × Option R) := (Res.of (putTg ρ tg d)).bind fun ρ1 => execs call np b ρ1
theorem exec_loop (tg it b) : exec call np (.loop tg it b) ρ = (walk call it ρ).bind fun p => (loopF (bodyF call np tg b) p.1.1 p.2).bind fun q => match q.2 with
          | none => (Res.of (unlockE q.1 p.1.2)).bind fun ρ' => .ok (ρ', none)
          | some s => .ok (q.1, some s) := by
  rw [exec]
  congr 1
  funext p
  congr 2
  funext d ρ
  unfold bodyF
  cases putTg ρ tg d with
  | none => rfl
  | some ρ1 => rfl
@[simp ↓] theorem w_exec_loop (tg it b) {Q : Post _} {E : Xst} : @Wq _ (exec call np (.loop tg it b) ρ) Q E = @Wq _ ((walk call it ρ).bind fun p => (loopF (bodyF call np tg b) p.1.1 p.2).bind fun q => match q.2 with
          | none => (Res.of (unlockE q.1 p.1.2)).bind fun ρ' => .ok (ρ', none)
          | some s => .ok (q.1, some s)) Q E := by rw [exec_loop]
def condW (c : E) (ρ : Env) : Res (Bool × Env) := (eval call c ρ).bind bOf
theorem exec_whil (c b) : exec call np (.whil c b) ρ = loopW (condW call c) (execs call np b) 1000000 ρ := by
  rw [exec]
  congr 1
  funext ρ
  exact asB_of _
@[simp ↓] theorem w_exec_whil (c b) {Q : Post _} {E : Xst} : @Wq _ (exec call np (.whil c b) ρ) Q E = @Wq _ (loopW (condW call c) (execs call np b) 1000000 ρ) Q E := by rw [exec_whil]
theorem exec_sfld (i f e) : exec call np (.sfld i f e) ρ = (eval call e ρ).bind fun p => match fix p.2 p.1 with
      | none => .no
      | some (d, ρ1) => (Res.of (setFld ρ1 i f d)).bind fun ρ' => .ok (ρ', none) := by rw [exec] <;> rfl
@[simp ↓] theorem w_exec_sfld (i f e) {Q : Post _} {E : Xst} : @Wq _ (exec call np (.sfld i f e) ρ) Q E = @Wq _ ((eval call e ρ).bind fun p => match fix p.2 p.1 with
      | none => .no
      | some (d, ρ1) => (Res.of (setFld ρ1 i f d)).bind fun ρ' => .ok (ρ', none)) Q E := by rw [exec_sfld]
theorem exec_rais0 (c) : exec call np (.rais c .no) ρ = .exc c .none ρ := by rw [exec] <;> rfl
@[simp ↓] theorem w_exec_rais0 (c) {Q : Post _} {E : Xst} : @Wq _ (exec call np (.rais c .no) ρ) Q E = @Wq _ (.exc c .none ρ) Q E := by rw [exec_rais0]
theorem exec_rais1 (c e) : exec call np (.rais c (.so e)) ρ = (eval call e ρ).bind fun p => match fix p.2 p.1 with
      | none => .no
      | some (x, ρ') => .exc c x ρ' := by rw [exec] <;> rfl
@[simp ↓] theorem w_exec_rais1 (c e) {Q : Post _} {E : Xst} : @Wq _ (exec call np (.rais c (.so e)) ρ) Q E = @Wq _ ((eval call e ρ).bind fun p => match fix p.2 p.1 with
      | none => .no
      | some (x, ρ') => .exc c x ρ') Q E := by rw [exec_rais1]
theorem exec_pass : exec call np .pass ρ = .ok (ρ, none) := by rw [exec] <;> rfl
@[simp ↓] theorem w_exec_pass {Q : Post _} {E : Xst} : @Wq _ (exec call np .pass ρ) Q E = @Wq _ (.ok (ρ, none)) Q E := by rw [exec_pass]
@[simp ↓] theorem wp_tri {Q : Post (Env × Option R)} {E : Xst} (b hs) : @Wq _ (exec call np (.tri b hs) ρ) Q E = @Wq _ (execs call np b ρ) Q ⟨fun c f ρ' => @Wq _ (caught ρ' c f hs) Q E⟩ := by
  rw [exec]
  cases execs call np b ρ with
  | ok p => exact (wp_ok p).trans (wp_ok p).symm
  | exc c f ρ' => exact (wp_exc (Q := Q) (E := ⟨fun c f ρ' => @Wq _ (caught ρ' c f hs) Q E⟩) c f ρ').symm
  | no => exact wp_no.trans wp_no.symm
theorem execs_nil : execs call np .nil ρ = .ok (ρ, none) := by rw [execs] <;> rfl
@[simp ↓] theorem w_execs_nil {Q : Post _} {E : Xst} : @Wq _ (execs call np .nil ρ) Q E = @Wq _ (.ok (ρ, none)) Q E := by rw [execs_nil]
/-- go on, or hand back -/
def andThen (r : Ss) (p : Env × Option R) : Res (Env × Option R) := match p.2 with
  | none => execs call np r p.1
  | some v => .ok (p.1, some v)
@[simp ↓] theorem andThen_none (r : Ss) (ρ : Env) : andThen call np r (ρ, none) = execs call np r ρ := rfl
@[simp] theorem andThen_some (r : Ss) (ρ : Env) (v : R) : andThen call np r (ρ, some v) = .ok (ρ, some v) := rfl
theorem execs_cons (s r) : execs call np (.cons s r) ρ = (exec call np s ρ).bind (andThen call np r) := by
  rw [execs]
  rcases exec call np s ρ with ⟨⟨ρ', o⟩⟩ | _ | _
  · cases o <;> rfl
  · rfl
  · rfl
@[simp ↓] theorem w_execs_cons (s r) {Q : Post _} {E : Xst} : @Wq _ (execs call np (.cons s r) ρ) Q E = @Wq _ ((exec call np s ρ).bind (andThen call np r)) Q E := by rw [execs_cons]
end
@[simp ↓] theorem w_lcT {Q : Post _} {E : Xst} (call : CallT) (elt : Mlg.E) (tg : Tg) (c : Eo) (vs : List Nat) (d : D) (ρ : Env) : @Wq _ (lcT call elt tg c vs d ρ) Q E = @Wq _ ((Res.of (putTg ρ tg d)).bind fun ρ2 => (test call c ρ2).bind fun t =>
  if t.1 = true then (eval call elt t.2).bind fun r => (Res.of (fix r.2 r.1)).bind fun x => (Res.of (wipeE x.2 vs)).bind fun ρ5 => .ok (some x.1, ρ5)
  else (Res.of (wipeE t.2 vs)).bind fun ρ5 => .ok (none, ρ5)) Q E := rfl
@[simp ↓] theorem w_bodyF {Q : Post _} {E : Xst} (call : CallT) (np : Nat) (tg : Tg) (b : Ss) (d : D) (ρ : Env) : @Wq _ (bodyF call np tg b d ρ) Q E = @Wq _ ((Res.of (putTg ρ tg d)).bind fun ρ1 => execs call np b ρ1) Q E := rfl
@[simp ↓] theorem w_condW {Q : Post _} {E : Xst} (call : CallT) (c : Mlg.E) (ρ : Env) : @Wq _ (condW call c ρ) Q E = @Wq _ ((eval call c ρ).bind bOf) Q E := rfl
@[simp ↓] theorem w_andThen {Q : Post _} {E : Xst} (call : CallT) (np : Nat) (r : Ss) (ρ : Env) : @Wq _ (andThen call np r (ρ, none)) Q E = @Wq _ (execs call np r ρ) Q E := rfl
@[simp ↓] theorem w_ofs {α : Type} {Q : Post α} {E : Xst} (a : α) : @Wq _ (Res.of (some a)) Q E = Q.p a := wp_ok a
@[simp ↓] theorem w_ofn {α : Type} {Q : Post α} {E : Xst} : @Wq _ (Res.of (none : Option α)) Q E = False := wp_no
@[simp ↓] theorem wp_doCall {Q : Post (R × Env)} {E : Xst} (call : CallT) (f rs ρ) : @Wq _ (doCall call f rs ρ) Q E = match argsOf ρ rs with
    | none => False
    | some ss => if nodupN (lent ρ rs) = true then @Wq _ (call f ss) ⟨fun p => @Wq _ (if notLoc p.1 = true then (Res.of (backArgs ρ rs p.2)).bind fun ρ' => .ok (p.1, ρ') else .no) Q E⟩ ⟨fun c d outs => match backArgs ρ rs outs with
      | some ρ' => E.e c d ρ'
      | none => False⟩ else False := by
  unfold doCall
  cases argsOf ρ rs with
  | none => exact wp_no
  | some ss =>
    dsimp only
    split
    · cases call f ss with
      | ok p => exact (wp_ok (Q := ⟨fun p => @Wq _ (if notLoc p.1 = true then (Res.of (backArgs ρ rs p.2)).bind fun ρ' => .ok (p.1, ρ') else .no) Q E⟩) p).symm
      | exc c d o =>
        rw [wp_exc]
        dsimp only
        cases backArgs ρ rs o with
        | none => exact wp_no
        | some ρ' => exact wp_exc _ _ _
      | no => exact wp_no.trans wp_no.symm
    · exact wp_no
theorem wp_callF {tab : Nat → Option Def} {k f : Nat} {args : List Slot} {d : Def} {Q : R × List Slot → Prop} {E : Nat → D → Env → Prop} (h : tab f = some d) (hl : args.length = d.np) (hk : lendOk d.reb 0 args = true)
    (hq : Wp (execs (callF tab k) d.np d.body (args ++ List.replicate d.ns .un)) (fun p => Q (p.2.getD (.val .none), mask d.reb 0 (p.1.take d.np))) (fun c f ρ => E c f (mask d.reb 0 (ρ.take d.np)))) : Wp (callF tab (k + 1) f args) Q E := by
  unfold callF
  rw [h]
  dsimp only
  rw [if_pos ⟨hl, hk⟩]
  revert hq
  generalize execs (callF tab k) d.np d.body (args ++ List.replicate d.ns Slot.un) = x
  rcases x with ⟨⟨ρ, o⟩⟩ | _ | _
  · cases o with
    | none => exact fun h => wq_mk h.g
    | some r => exact fun h => wq_mk h.g
  · exact fun h => wq_mk h.g
  · exact fun h => wq_mk h.g
@[simp] theorem getE0 (s : Slot) (ρ : Env) : (s :: ρ)[0]? = some s := rfl
/-! ### loops over what is written down -/
@[simp ↓] theorem w_loopF_nil {Q : Post _} {E : Xst} (body : D → Env → Res (Env × Option R)) (ρ : Env) : @Wq _ (loopF body [] ρ) Q E = Q.p (ρ, none) := wp_ok _
@[simp ↓] theorem w_loopF_cons {Q : Post _} {E : Xst} (body : D → Env → Res (Env × Option R)) (d : D) (ds : List D) (ρ : Env) : @Wq _ (loopF body (d :: ds) ρ) Q E = @Wq _ (body d ρ) ⟨fun p => match p.2 with
    | none => @Wq _ (loopF body ds p.1) Q E
    | some s => Q.p (p.1, some s)⟩ E := by
  rw [loopF]
  rcases body d ρ with ⟨⟨ρ', o⟩⟩ | ⟨c, f, ρ'⟩ | _
  · rw [wp_ok]
    cases o with
    | none => rfl
    | some s => exact wp_ok _
  · exact (wp_exc c f ρ').trans (wp_exc c f ρ').symm
  · exact wp_no.trans wp_no.symm
@[simp ↓] theorem w_loopC_nil {Q : Post _} {E : Xst} (turn : D → Env → Res (Option D × Env)) (acc : List D) (ρ : Env) : @Wq _ (loopC turn [] acc ρ) Q E = Q.p (acc, ρ) := wp_ok _
@[simp ↓] theorem w_loopC_cons {Q : Post _} {E : Xst} (turn : D → Env → Res (Option D × Env)) (d : D) (ds acc : List D) (ρ : Env) : @Wq _ (loopC turn (d :: ds) acc ρ) Q E = @Wq _ (turn d ρ) ⟨fun p => match p.1 with
    | none => @Wq _ (loopC turn ds acc p.2) Q E
    | some x => if small acc = true then @Wq _ (loopC turn ds (acc ++ [x]) p.2) Q E else False⟩ ⟨fun _ _ _ => False⟩ := by
  rw [loopC]
  rcases turn d ρ with ⟨⟨o, ρ'⟩⟩ | ⟨c, f, ρ'⟩ | _
  · rw [wp_ok]
    cases o with
    | none => rfl
    | some x =>
      show @Wq _ (if small acc = true then loopC turn ds (acc ++ [x]) ρ' else .no) Q E = if small acc = true then @Wq _ (loopC turn ds (acc ++ [x]) ρ') Q E else False
      split
      · rfl
      · exact wp_no
  · exact wp_no.trans (wp_exc (Q := ⟨fun (p : Option D × Env) => match p.1 with
      | none => @Wq _ (loopC turn ds acc p.2) Q E
      | some x => if small acc = true then @Wq _ (loopC turn ds (acc ++ [x]) p.2) Q E else False⟩) (E := ⟨fun _ _ _ => False⟩) c f ρ').symm
  · exact wp_no.trans wp_no.symm
end Mlg
/-! Pl2: states, as rows for simp. -/
namespace Mlg
open PySem (PyData Str)
section
variable {ρ : Env} {i : Nat}
@[simp] theorem getV_eq : getV ρ i = match ρ[i]? with
  | some (.val d) => some (.val d)
  | some (.own _) => some (.loc i)
  | some (.lck _) => some (.loc i)
  | some (.ro _) => some (.loc i)
  | _ => none := rfl
@[simp] theorem toD_lst (xs) : (O.lst xs).toD = some (.list xs) := rfl
@[simp] theorem toD_dic (t xs) : (O.dic t xs).toD = some (.dict xs) := rfl
@[simp] theorem fldOfE_eq (ρ : Env) (i f) : fldOfE ρ i f = match ρ[i]? with
  | some (.own (.ins fs)) => fs.lookup f
  | _ => none := rfl
@[simp] theorem isIns_eq (ρ : Env) (i) : isIns ρ i = match ρ[i]? with
  | some (.own (.ins _)) => true
  | _ => false := rfl
@[simp] theorem setFld_eq (ρ : Env) (i f d) : setFld ρ i f d = match ρ[i]? with
  | some (.own (.ins fs)) => if (fldNames.contains f && decide (fs.length < 900)) = true then some (ρ.set i (.own (.ins (putFd f d fs)))) else none
  | _ => none := rfl
@[simp] theorem toD_ins (fs) : (O.ins fs).toD = none := rfl
@[simp] theorem view_val (d) : view (.val d) = some d := rfl
@[simp] theorem view_own (o) : view (.own o) = o.toD := rfl
@[simp] theorem view_lck (o) : view (.lck o) = o.toD := rfl
@[simp] theorem view_ro (o) : view (.ro o) = some (.list o) := rfl
@[simp] theorem look_val (d) : look ρ (.val d) = some d := rfl
@[simp] theorem look_tmp (o) : look ρ (.tmp o) = o.toD := rfl
@[simp] theorem look_loc (i) : look ρ (.loc i) = (ρ[i]?).bind view := rfl
@[simp] theorem lookS_val (d) : lookS ρ (.val d) = some d := rfl
@[simp] theorem lookS_tmp (o) : lookS ρ (.tmp o) = o.toD := rfl
@[simp] theorem lookS_loc (i) : lookS ρ (.loc i) = match ρ[i]? with
    | some (.val d) => some d
    | some (.own o) => o.toD
    | some (.lck o) => o.toD
    | _ => none := rfl
@[simp] theorem fix_val (d) : fix ρ (.val d) = some (d, ρ) := rfl
@[simp] theorem fix_tmp (o) : fix ρ (.tmp o) = o.toD.map fun d => (d, ρ) := rfl
@[simp] theorem fix_loc (i) : fix ρ (.loc i) = match ρ[i]? with
    | some (.val d) => some (d, ρ)
    | some (.own o) => o.toD.map fun d => (d, ρ.set i (.val d))
    | _ => none := rfl
@[simp] theorem ownL_eq : ownL ρ i = match ρ[i]? with
  | some (.own (.lst xs)) => some xs
  | _ => none := rfl
@[simp] theorem put_val (d) : put ρ i (.val d) = if i < ρ.length then some (ρ.set i (.val d)) else none := rfl
@[simp] theorem put_tmp (o) : put ρ i (.tmp o) = if i < ρ.length then some (ρ.set i (.own o)) else none := rfl
@[simp] theorem put_loc (j) : put ρ i (.loc j) = if i < ρ.length then (fix ρ (.loc j)).map fun p => p.2.set i (.val p.1) else none := rfl
@[simp] theorem putV_eq (d) : putV ρ i d = if i < ρ.length then some (ρ.set i (.val d)) else none := rfl
@[simp] theorem putVs_nil : putVs ρ [] [] = some ρ := rfl
@[simp] theorem putVs_cons (is d ds) : putVs ρ (i :: is) (d :: ds) = (putV ρ i d).bind fun ρ' => putVs ρ' is ds := rfl
@[simp] theorem putTg_nm (d) : putTg ρ (.nm i) d = putV ρ i d := rfl
@[simp] theorem putTg_tup (is ds) : putTg ρ (.tup is) (.tuple ds) = putVs ρ is ds := rfl
@[simp] theorem wipeE_nil : wipeE ρ [] = some ρ := rfl
@[simp] theorem wipeE_cons (v r) : wipeE ρ (v :: r) = match ρ[v]? with
    | some .un => (wipeE ρ r).map fun ρ' => ρ'.set v .un
    | some (.val _) => (wipeE ρ r).map fun ρ' => ρ'.set v .un
    | _ => none := rfl
@[simp] theorem backE_nil (ρ0) : backE ρ0 [] ρ = ρ := rfl
@[simp] theorem backE_cons (ρ0 v r) : backE ρ0 (v :: r) ρ = match ρ0[v]? with
    | some s => (backE ρ0 r ρ).set v s
    | none => backE ρ0 r ρ := rfl
@[simp] theorem argOf_val (d) : argOf ρ (.val d) = some (.val d) := rfl
@[simp] theorem argOf_tmp (d) : argOf ρ (.tmp d) = some (.own d) := rfl
@[simp] theorem argOf_loc : argOf ρ (.loc i) = match ρ[i]? with
    | some (.val d) => some (.val d)
    | some (.own o) => some (.own o)
    | some (.ro xs) => some (.ro xs)
    | _ => none := rfl
@[simp] theorem argsOf_nil : argsOf ρ [] = some [] := rfl
@[simp] theorem argsOf_cons (r rs) : argsOf ρ (r :: rs) = (argOf ρ r).bind fun s => (argsOf ρ rs).map (s :: ·) := rfl
@[simp] theorem lent_nil : lent ρ [] = [] := rfl
@[simp] theorem lent_loc (rs) : lent ρ (.loc i :: rs) = (match ρ[i]? with | some (.own _) => [i] | _ => []) ++ lent ρ rs := rfl
@[simp] theorem lent_val (d rs) : lent ρ (.val d :: rs) = lent ρ rs := rfl
@[simp] theorem lent_tmp (d rs) : lent ρ (.tmp d :: rs) = lent ρ rs := rfl
@[simp] theorem nodupN_nil : nodupN [] = true := rfl
@[simp] theorem nodupN_cons (r) : nodupN (i :: r) = (!r.contains i && nodupN r) := rfl
@[simp] theorem backArgs_nil : backArgs ρ [] [] = some ρ := rfl
@[simp] theorem backArgs_loc (rs s ss) : backArgs ρ (.loc i :: rs) (s :: ss) = match ρ[i]?, s with
    | some (.own _), .own o => backArgs (ρ.set i (.own o)) rs ss
    | some (.own _), .lck o => backArgs (ρ.set i (.own o)) rs ss
    | some (.own _), .val d => backArgs (ρ.set i (.val d)) rs ss
    | some (.val _), _ => backArgs ρ rs ss
    | some (.ro _), _ => backArgs ρ rs ss
    | _, _ => none := rfl
@[simp] theorem backArgs_val (d rs s ss) : backArgs ρ (.val d :: rs) (s :: ss) = backArgs ρ rs ss := rfl
@[simp] theorem backArgs_tmp (d rs s ss) : backArgs ρ (.tmp d :: rs) (s :: ss) = backArgs ρ rs ss := rfl
@[simp] theorem notLoc_val (d) : notLoc (.val d) = true := rfl
@[simp] theorem notLoc_tmp (d) : notLoc (.tmp d) = true := rfl
@[simp] theorem isNone_none : isNone (.val .none) = true := rfl
@[simp] theorem isNone_int (n) : isNone (.val (.int n)) = false := rfl
@[simp] theorem isNone_bool (n) : isNone (.val (.bool n)) = false := rfl
@[simp] theorem isNone_str (n) : isNone (.val (.str n)) = false := rfl
@[simp] theorem isNone_tuple (n) : isNone (.val (.tuple n)) = false := rfl
@[simp] theorem isNone_list (n) : isNone (.val (.list n)) = false := rfl
@[simp] theorem isNone_dict (n) : isNone (.val (.dict n)) = false := rfl
@[simp] theorem isNone_tmp (n) : isNone (.tmp n) = false := rfl
@[simp] theorem isNone_loc (n) : isNone (.loc n) = false := rfl
@[simp] theorem lockV_eq : lockV ρ i = match ρ[i]? with
  | some (.val d) => (itemsW d).map fun xs => ((xs, none), ρ)
  | some (.own (.lst xs)) => some ((xs, some i), ρ.set i (.lck (.lst xs)))
  | some (.lck (.lst xs)) => some ((xs, none), ρ)
  | some (.ro xs) => some ((xs, none), ρ)
  | _ => none := by unfold lockV; rfl
@[simp] theorem itemsW_list (xs) : itemsW (.list xs) = some xs := rfl
@[simp] theorem itemsW_tuple (xs) : itemsW (.tuple xs) = some xs := rfl
@[simp] theorem itemsW_str (xs) : itemsW (.str xs) = some (chars xs) := rfl
@[simp] theorem items_list (xs) : items (.list xs) = some xs := rfl
@[simp] theorem items_tuple (xs) : items (.tuple xs) = some xs := rfl
@[simp] theorem isStr_list (xs) : isStr (some (.list xs)) = false := rfl
@[simp] theorem isStr_tuple (xs) : isStr (some (.tuple xs)) = false := rfl
@[simp] theorem walkR_val (d) : walkR (.val d) = itemsW d := rfl
@[simp] theorem walkR_tmp (xs) : walkR (.tmp (.lst xs)) = some xs := rfl
@[simp] theorem unlockE_none : unlockE ρ none = some ρ := rfl
@[simp] theorem unlockE_some : unlockE ρ (some i) = match ρ[i]? with
    | some (.lck o) => some (ρ.set i (.own o))
    | _ => none := rfl
@[simp] theorem hasObj_eq : hasObj ρ i = match ρ[i]? with
  | some (.own _) => true
  | _ => false := rfl
@[simp] theorem storeD_eq (k x) : storeD ρ i k x = match ρ[i]? with
  | some (.own (.lst xs)) => (match k with
    | .int j => (place xs.length j).map fun n => ρ.set i (.own (.lst (xs.set n x)))
    | _ => none)
  | some (.own (.dic t kvs)) => if (keyT t k && decide (kvs.length < lim)) = true then some (ρ.set i (.own (.dic t (setKey kvs k x)))) else none
  | _ => none := by unfold storeD; rfl
@[simp] theorem augI_add (x y) : augI .add x y = some (x + y) := rfl
@[simp] theorem augI_sub (x y) : augI .sub x y = some (x - y) := rfl
@[simp] theorem retOf_val (np d) : retOf np ρ (.val d) = some (.val d, ρ) := rfl
@[simp] theorem retOf_tmp (np d) : retOf np ρ (.tmp d) = some (.tmp d, ρ) := rfl
@[simp] theorem retOf_loc (np) : retOf np ρ (.loc i) = if i < np then (fix ρ (.loc i)).map fun p => (.val p.1, p.2) else match ρ[i]? with
    | some (.own o) => some (.tmp o, ρ.set i .un)
    | some (.lck o) => some (.tmp o, ρ.set i .un)
    | some (.val d) => some (.val d, ρ)
    | _ => none := by unfold retOf; rfl
@[simp] theorem puts_nil : puts ρ [] [] = some ρ := rfl
@[simp] theorem puts_cons (is r rs) : puts ρ (i :: is) (r :: rs) = (put ρ i r).bind fun ρ' => puts ρ' is rs := rfl
@[simp] theorem fixLocs_nil : fixLocs ρ [] = some ([], ρ) := rfl
@[simp] theorem fixLocs_loc (rs) : fixLocs ρ (.loc i :: rs) = (fix ρ (.loc i)).bind fun p => (fixLocs p.2 rs).map fun q => (.val p.1 :: q.1, q.2) := rfl
@[simp] theorem fixLocs_val (d rs) : fixLocs ρ (.val d :: rs) = (fixLocs ρ rs).map fun q => (.val d :: q.1, q.2) := rfl
@[simp] theorem fixLocs_tmp (d rs) : fixLocs ρ (.tmp d :: rs) = (fixLocs ρ rs).map fun q => (.tmp d :: q.1, q.2) := rfl
@[simp] theorem suite_set (f d) : suite ρ f (.set i d) = putV ρ i d := rfl
@[simp] theorem suite_inc (f n) : suite ρ f (.inc i n) = match ρ[i]? with
    | some (.val (.int k)) => putV ρ i (.int (k + n))
    | _ => none := by unfold suite; rfl
@[simp] theorem suite_app (f d) : suite ρ f (.app i d) = match ρ[i]? with
    | some (.own (.lst xs)) => if small xs then some (ρ.set i (.own (.lst (xs ++ [d])))) else none
    | _ => none := by unfold suite; rfl
@[simp] theorem suite_setF (f w e) : suite ρ f (.setF i w e) = putV ρ i (.tuple [w, f]) := rfl
@[simp] theorem suite_appF (f e) : suite ρ f (.appF i e) = match ρ[i]? with
    | some (.own (.lst xs)) => if small xs then some (ρ.set i (.own (.lst (xs ++ [f])))) else none
    | _ => none := by unfold suite; rfl
@[simp] theorem caught_nil (c f) : caught ρ c f [] = .exc c f ρ := rfl
@[simp] theorem caught_none (c f c' u hs) : caught ρ c f ((c', none, u) :: hs) = if c = c' then (Res.of (suite ρ f u)).bind fun ρ' => .ok (ρ', none) else caught ρ c f hs := by rw [caught]
@[simp] theorem caught_some (c f c' e u hs) : caught ρ c f ((c', some e, u) :: hs) = if c = c' then (if e < ρ.length then (Res.of (suite (ρ.set e .un) f u)).bind fun ρ' => .ok (ρ'.set e .un, none) else .no) else caught ρ c f hs := by rw [caught]
@[simp] theorem lendOk_nil (reb) : lendOk reb i [] = true := rfl
@[simp] theorem lendOk_val (reb d r) : lendOk reb i (.val d :: r) = lendOk reb (i + 1) r := rfl
@[simp] theorem lendOk_own (reb d r) : lendOk reb i (.own d :: r) = (!reb.contains i && lendOk reb (i + 1) r) := rfl
@[simp] theorem lendOk_ro (reb d r) : lendOk reb i (.ro d :: r) = lendOk reb (i + 1) r := rfl
@[simp] theorem mask_nil (reb) : mask reb i [] = [] := rfl
@[simp] theorem mask_cons (reb s r) : mask reb i (s :: r) = (if reb.contains i then .un else s) :: mask reb (i + 1) r := rfl
end
/-! ### operators -/
@[simp] theorem bin_addI (i j) : bin .add (.int i) (.int j) = some (.val (.int (i + j))) := rfl
@[simp] theorem bin_addT (xs ys) : bin .add (.tuple xs) (.tuple ys) = if small (xs ++ ys) then some (.val (.tuple (xs ++ ys))) else none := rfl
@[simp] theorem bin_addL (xs ys) : bin .add (.list xs) (.list ys) = if small (xs ++ ys) then some (.tmp (.lst (xs ++ ys))) else none := rfl
@[simp] theorem bin_sub (i j) : bin .sub (.int i) (.int j) = some (.val (.int (i - j))) := rfl
@[simp] theorem bin_mulI (i j) : bin .mul (.int i) (.int j) = if i.natAbs < 2 ^ 64 ∨ j.natAbs < 2 ^ 64 then some (.val (.int (i * j))) else none := rfl
@[simp] theorem bin_mulT (xs j) : bin .mul (.tuple xs) (.int j) = if j = 1 then some (.val (.tuple xs)) else if xs ≠ [] ∧ 2 ≤ j ∧ j ≤ 1000 ∧ xs.length ≤ 1000 then some (.val (.tuple (rep j.toNat xs))) else none := rfl
@[simp] theorem bin_mulL (xs j) : bin .mul (.list xs) (.int j) = if xs.length * j.toNat < lim ∧ -1000000 < j ∧ j < 1000000 then some (.tmp (.lst (rep j.toNat xs))) else none := rfl
@[simp] theorem bin_fdiv (i j) : bin .fdiv (.int i) (.int j) = if 0 < j ∧ j < 1000000000 then some (.val (.int (i / j))) else none := rfl
@[simp] theorem bin_mod (i j) : bin .mod (.int i) (.int j) = if 0 < j then some (.val (.int (i % j))) else none := rfl
@[simp] theorem bin_pow (i j) : bin .pow (.int i) (.int j) = if 0 ≤ j ∧ j ≤ 1000 ∧ i.natAbs < 1000000 then some (.val (.int (i ^ j.toNat))) else none := rfl
@[simp] theorem cmp_lt (i j) : cmp .lt (.int i) (.int j) = some (decide (i < j)) := rfl
@[simp] theorem cmp_le (i j) : cmp .le (.int i) (.int j) = some (decide (i ≤ j)) := rfl
@[simp] theorem cmp_gt (i j) : cmp .gt (.int i) (.int j) = some (decide (j < i)) := rfl
@[simp] theorem cmp_ge (i j) : cmp .ge (.int i) (.int j) = some (decide (j ≤ i)) := rfl
theorem cmp_eq (a b) : cmp .eq a b = if shp 8 a && shp 8 b then some (eqv a b) else none := by cases a <;> cases b <;> rfl
theorem cmp_ne (a b) : cmp .ne a b = if shp 8 a && shp 8 b then some (!eqv a b) else none := by cases a <;> cases b <;> rfl
@[simp] theorem shp_int (n i) : shp n (.int i) = true := by cases n <;> rfl
@[simp] theorem shp_none (n) : shp n .none = true := by cases n <;> rfl
@[simp] theorem shp_bool (n i) : shp n (.bool i) = true := by cases n <;> rfl
@[simp] theorem shp_list (n xs) : shp (n + 1) (.list xs) = shpAll n xs := rfl
@[simp] theorem shp_tuple (n xs) : shp (n + 1) (.tuple xs) = shpAll n xs := rfl
@[simp] theorem shpAll_nil (n) : shpAll n [] = true := by cases n <;> rfl
@[simp] theorem shpAll_cons (n x xs) : shpAll n (x :: xs) = (shp n x && shpAll n xs) := by cases n <;> rfl
@[simp] theorem shpAll_ints (n) : ∀ is : List Int, shpAll n (is.map .int) = true
  | [] => by simp
  | i :: is => by simp [shpAll_ints n is]
@[simp] theorem cmp_eqI (i j) : cmp .eq (.int i) (.int j) = some (decide (i = j)) := by
  rw [cmp_eq]; simp [eqv]; by_cases h : i = j <;> simp [h]
@[simp] theorem cmp_neI (i j) : cmp .ne (.int i) (.int j) = some (!decide (i = j)) := by
  rw [cmp_ne]; simp [eqv]; by_cases h : i = j <;> simp [h]
@[simp] theorem isTy_int_int (i) : isTy .int (.int i) = true := rfl
@[simp] theorem isTy_bool_int (i) : isTy .bool (.int i) = false := rfl
@[simp] theorem isTy_tuple_tuple (i) : isTy .tuple (.tuple i) = true := rfl
@[simp] theorem b1_lenL (xs) : b1 .len (.list xs) = some (.val (.int xs.length)) := rfl
@[simp] theorem b1_lenT (xs) : b1 .len (.tuple xs) = some (.val (.int xs.length)) := rfl
@[simp] theorem b1_abs (i) : b1 .abs (.int i) = some (.val (.int (if i < 0 then -i else i))) := rfl
@[simp] theorem b1_intI (i) : b1 .int (.int i) = some (.val (.int i)) := rfl
@[simp] theorem b1_intB (b) : b1 .int (.bool b) = some (.val (.int (if b then 1 else 0))) := rfl
@[simp] theorem b1_listL (xs) : b1 .list (.list xs) = some (.tmp (.lst xs)) := rfl
@[simp] theorem b1_listT (xs) : b1 .list (.tuple xs) = some (.tmp (.lst xs)) := rfl
@[simp] theorem b1_tupleL (xs) : b1 .tuple (.list xs) = some (.val (.tuple xs)) := rfl
@[simp] theorem b1_tupleT (xs) : b1 .tuple (.tuple xs) = some (.val (.tuple xs)) := rfl
@[simp] theorem b1_isi (t d) : b1 (.isi t) d = some (.val (.bool (isTy t d))) := by cases d <;> rfl
@[simp] theorem b2_min (i j) : b2 .min (.int i) (.int j) = some (.val (.int (if j < i then j else i))) := rfl
@[simp] theorem b2_max (i j) : b2 .max (.int i) (.int j) = some (.val (.int (if j > i then j else i))) := rfl
@[simp] theorem ix_L (xs i) : ixD (.list xs) (.int i) = (place xs.length i).bind fun j => (xs[j]?).map .val := rfl
@[simp] theorem ix_T (xs i) : ixD (.tuple xs) (.int i) = (place xs.length i).bind fun j => (xs[j]?).map .val := rfl
@[simp] theorem sl_L (xs a b) : slD (.list xs) a b = some (.tmp (.lst (cutL xs a b))) := rfl
@[simp] theorem sl_T (xs a b) : slD (.tuple xs) a b = some (.val (.tuple (cutL xs a b))) := rfl
@[simp] theorem rev_L (xs) : revD (.list xs) = some (.tmp (.lst xs.reverse)) := rfl
theorem place_nn {n : Nat} {i : Int} (h : 0 ≤ i) (h2 : i < n) : place n i = some i.toNat := by unfold place; rw [if_pos h, if_pos h2]
theorem place_neg {n : Nat} {i : Int} (h : i < 0) (h2 : -(n : Int) ≤ i) : place n i = some (i + n).toNat := by unfold place; rw [if_neg (by omega), if_pos h2]
theorem small_of {xs : List D} (h : xs.length < 1000000) : small xs = true := by unfold small lim; simpa using h
theorem rangeOk_of {i : Int} (h : -1000000 < i) (h2 : i < 1000000) : rangeOk i = true := by unfold rangeOk; simp; exact ⟨h, h2⟩
end Mlg
/-! Defs: the defs of the linked texts, as terms of the small language (printed by gen.py). -/
namespace Mlg
open PySem (PyData Str)
/-- _law_random -/
def d13 : Def := ⟨2, 2, [], (.cons (.asg 2 (.var 1))
  (.cons (.loop (.nm 3) (.var 0)
  (.cons (.asg 2 (.bin .mod (.b1 .int (.bin .add (.bin .mul (.var 2) (.cst (.int 31))) (.b1 .abs (.var 3)))) (.cst (.int 2147483647))))
  .nil))
  (.cons (.ret (.bin .add (.lst (.cons (.var 2) (.cons (.cst (.int 0)) .nil))) (.lc (.var 3) (.nm 3) (.var 0) (.so (.cmp .ge (.var 3) (.bin .pow (.cst (.int 10)) (.cst (.int 18))))) [3])))
  .nil)))⟩

/-- _law_below -/
def d14 : Def := ⟨2, 1, [], (.cons (.cond (.and (.cmp .eq (.ix (.var 0) (.cst (.int 1))) (.cst (.int 0))) (.cmp .gt (.b1 .len (.var 0)) (.cst (.int 2))))
  (.cons (.sub 0 (.cst (.int 1)) (.pop 0 (.so (.cst (.int 2)))))
  .nil)
  .nil)
  (.cons (.cond (.cmp .gt (.ix (.var 0) (.cst (.int 1))) (.cst (.int 0)))
  (.cons (.asg 2 (.bin .mod (.b1 .int (.ix (.var 0) (.cst (.int 1)))) (.var 1)))
  (.cons (.sub 0 (.cst (.int 1)) (.bin .fdiv (.ix (.var 0) (.cst (.int 1))) (.var 1)))
  (.cons (.ret (.var 2))
  .nil)))
  .nil)
  (.cons (.sub 0 (.cst (.int 0)) (.bin .mod (.b1 .int (.bin .add (.bin .mul (.ix (.var 0) (.cst (.int 0))) (.cst (.int 48271))) (.cst (.int 11)))) (.cst (.int 2147483647))))
  (.cons (.ret (.bin .mod (.b1 .int (.bin .fdiv (.ix (.var 0) (.cst (.int 0))) (.cst (.int 64)))) (.var 1)))
  .nil))))⟩

/-- _law_pick -/
def d15 : Def := ⟨2, 0, [], (.cons (.ret (.ix (.var 1) (.call 14 (.cons (.var 0) (.cons (.b1 .len (.var 1)) .nil)))))
  .nil)⟩

/-- _law_one -/
def d101 : Def := ⟨1, 3, [], (.cons (.par [1, 2] (.cons (.call 15 (.cons (.var 0) (.cons (.lst (.cons (.cst (.int 0)) (.cons (.neg (.cst (.int 1))) (.cons (.cst .none) (.cons (.cst (.str ⟨#[97]⟩)) (.cons (.tup .nil) .nil)))))) .nil))) (.cons (.call 14 (.cons (.var 0) (.cons (.cst (.int 2)) .nil))) .nil)))
  (.cons (.cond (.cmp .eq (.var 2) (.cst (.int 0)))
  (.cons (.asg 3 (.er1 7 (.var 1)))
  (.cons (.ret (.tup (.cons (.var 3) (.cons (.cmp .eq (.xfd 3 "index") (.var 1)) .nil))))
  .nil))
  .nil)
  (.cons (.asg 3 (.er1 13 (.var 1)))
  (.cons (.ret (.tup (.cons (.var 3) (.cons (.cmp .eq (.xfd 3 "word") (.var 1)) .nil))))
  .nil))))⟩

/-- _law_classes -/
def d102 : Def := ⟨1, 2, [], (.cons (.asg 1 (.lst .nil))
  (.cons (.asg 1 (.bin .add (.var 1) (.lst (.cons (.isE 4 (.var 0)) (.cons (.isE 6 (.var 0)) (.cons (.isE 2 (.var 0)) .nil))))))
  (.cons (.asg 1 (.bin .add (.var 1) (.lst (.cons (.isE 7 (.var 0)) (.cons (.isE 9 (.var 0)) (.cons (.isE 10 (.var 0)) .nil))))))
  (.cons (.asg 1 (.bin .add (.var 1) (.lst (.cons (.isE 3 (.var 0)) (.cons (.isE 5 (.var 0)) (.cons (.isE 1 (.var 0)) .nil))))))
  (.cons (.asg 1 (.bin .add (.var 1) (.lst (.cons (.isE 13 (.var 0)) (.cons (.isE 11 (.var 0)) (.cons (.isE 8 (.var 0)) .nil))))))
  (.cons (.asg 1 (.bin .add (.var 1) (.lst (.cons (.isE 12 (.var 0)) .nil))))
  (.cons (.ret (.b1 .len (.lc (.var 2) (.nm 2) (.var 1) (.so (.var 2)) [2])))
  .nil)))))))⟩

/-- law -/
def d103 : Def := ⟨1, 6, [], (.cons (.asg 1 (.call 13 (.cons (.var 0) (.cons (.cst (.int 2414)) .nil))))
  (.cons (.loop (.nm 2) (.r1 (.cst (.int 4)))
  (.cons (.unp [3, 4] (.call 101 (.cons (.var 1) .nil)))
  (.cons (.cond (.or (.not (.var 4)) (.or (.cmp .ne (.call 102 (.cons (.var 3) .nil)) (.cst (.int 1))) (.not (.isE 0 (.var 3)))))
  (.cons (.ret (.cst (.bool false)))
  .nil)
  .nil)
  (.cons (.cond (.not (.isE 100 (.var 3)))
  (.cons (.ret (.cst (.bool false)))
  .nil)
  .nil)
  .nil))))
  (.cons (.asg 5 (.lst (.cons (.er0 1) (.cons (.er0 2) (.cons (.er0 3) (.cons (.er0 4) (.cons (.er0 5) (.cons (.er0 6) (.cons (.er0 8) .nil)))))))))
  (.cons (.asg 5 (.bin .add (.var 5) (.lst (.cons (.er0 9) (.cons (.er0 10) (.cons (.er0 11) (.cons (.er0 12) .nil)))))))
  (.cons (.ret (.cmp .eq (.lc (.var 6) (.nm 6) (.var 5) (.so (.or (.cmp .ne (.call 102 (.cons (.var 6) .nil)) (.cst (.int 1))) (.not (.isE 0 (.var 6))))) [6]) (.lst .nil)))
  .nil)))))⟩

end Mlg
/-! Pl3: the source of numbers. -/
namespace Mlg
open PySem (PyData Str)
/-- a def of the table -/
class Has (tab : Nat → Option Def) (g : Nat) (d : outParam Def) : Prop where
  eq : tab g = some d
/-- a call's wish, by its def's body -/
theorem callW {tab : Nat → Option Def} {k f : Nat} {args : List Slot} {d : Def} {Q : R × List Slot → Prop} {E : Nat → D → Env → Prop} (H : Has tab f d) (hl : args.length = d.np) (hk : lendOk d.reb 0 args = true)
    (hq : Wp (execs (callF tab k) d.np d.body (args ++ List.replicate d.ns .un)) (fun p => Q (p.2.getD (.val .none), mask d.reb 0 (p.1.take d.np))) (fun c f ρ => E c f (mask d.reb 0 (ρ.take d.np)))) : Wp (callF tab (k + 1) f args) Q E := wp_callF H.eq hl hk hq
/-- a comprehension that changes nothing, over items that are told -/
theorem loopC_fm {α : Type} {turn : D → Env → Res (Option D × Env)} {ρ : Env} (enc g : α → D) (p : α → Bool) {xs : List α} (h0 : ∀ a ∈ xs, Wp (turn (enc a) ρ) (fun q => q = (if p a = true then some (g a) else none, ρ)) (fun _ _ _ => False)) (hl : xs.length ≤ 1000000) : loopC turn (xs.map enc) [] ρ = .ok ((xs.filter p).map g, ρ) := by
  have h : ∀ a ∈ xs, turn (enc a) ρ = .ok (if p a = true then some (g a) else none, ρ) := fun a ha => (h0 a ha).eq
  have key : ∀ (xs : List α) (acc : List D), (∀ a ∈ xs, turn (enc a) ρ = .ok (if p a = true then some (g a) else none, ρ)) → acc.length + xs.length ≤ 1000000 → loopC turn (xs.map enc) acc ρ = .ok (acc ++ (xs.filter p).map g, ρ) := by
    intro xs
    induction xs with
    | nil => intro acc _ _; simp [loopC]
    | cons a xs ih =>
      intro acc h hl
      rw [List.map_cons]
      unfold loopC
      rw [h a List.mem_cons_self, List.filter_cons]
      rw [List.length_cons] at hl
      by_cases c : p a = true
      · rw [if_pos c, if_pos c]
        dsimp only
        rw [if_pos (small_of (by omega)), ih _ (fun b hb => h b (List.mem_cons_of_mem _ hb)) (by simp; omega)]
        simp
      · rw [if_neg c, if_neg c]
        dsimp only
        rw [ih _ (fun b hb => h b (List.mem_cons_of_mem _ hb)) (by omega)]
  simpa using key xs [] h (by simpa using hl)
theorem loopC_mp {α : Type} {turn : D → Env → Res (Option D × Env)} {ρ : Env} (enc g : α → D) {xs : List α} (h : ∀ a ∈ xs, Wp (turn (enc a) ρ) (fun q => q = (some (g a), ρ)) (fun _ _ _ => False)) (hl : xs.length ≤ 1000000) : loopC turn (xs.map enc) [] ρ = .ok (xs.map g, ρ) := by
  rw [loopC_fm enc g (fun _ => true) (fun a ha => by rw [if_pos rfl]; exact h a ha) hl, List.filter_eq_self.mpr fun _ _ => rfl]
/-- kept from being run by the elaborator: obtain ⟨h⟩ := .. -/
structure Hld (p : Prop) : Prop where
  get : p
abbrev dI (l : List Int) : List D := l.map .int
/-- a source of numbers -/
def Src (l : List Int) : Prop := ∃ a b r, l = a :: b :: r ∧ 0 ≤ a ∧ 0 ≤ b ∧ ∀ x ∈ r, (0 : Int) < x
@[simp] theorem small0 : small [] = true := rfl
@[simp] theorem small1 (a0 : D) : small [a0] = true := rfl
@[simp] theorem small2 (a0 a1 : D) : small [a0, a1] = true := rfl
@[simp] theorem small3 (a0 a1 a2 : D) : small [a0, a1, a2] = true := rfl
@[simp] theorem small4 (a0 a1 a2 a3 : D) : small [a0, a1, a2, a3] = true := rfl
@[simp] theorem small5 (a0 a1 a2 a3 a4 : D) : small [a0, a1, a2, a3, a4] = true := rfl
@[simp] theorem small6 (a0 a1 a2 a3 a4 a5 : D) : small [a0, a1, a2, a3, a4, a5] = true := rfl
@[simp] theorem small7 (a0 a1 a2 a3 a4 a5 a6 : D) : small [a0, a1, a2, a3, a4, a5, a6] = true := rfl
@[simp] theorem small8 (a0 a1 a2 a3 a4 a5 a6 a7 : D) : small [a0, a1, a2, a3, a4, a5, a6, a7] = true := rfl
@[simp] theorem small9 (a0 a1 a2 a3 a4 a5 a6 a7 a8 : D) : small [a0, a1, a2, a3, a4, a5, a6, a7, a8] = true := rfl
@[simp] theorem small10 (a0 a1 a2 a3 a4 a5 a6 a7 a8 a9 : D) : small [a0, a1, a2, a3, a4, a5, a6, a7, a8, a9] = true := rfl
@[simp] theorem small11 (a0 a1 a2 a3 a4 a5 a6 a7 a8 a9 a10 : D) : small [a0, a1, a2, a3, a4, a5, a6, a7, a8, a9, a10] = true := rfl
@[simp] theorem small12 (a0 a1 a2 a3 a4 a5 a6 a7 a8 a9 a10 a11 : D) : small [a0, a1, a2, a3, a4, a5, a6, a7, a8, a9, a10, a11] = true := rfl
@[simp] theorem small13 (a0 a1 a2 a3 a4 a5 a6 a7 a8 a9 a10 a11 a12 : D) : small [a0, a1, a2, a3, a4, a5, a6, a7, a8, a9, a10, a11, a12] = true := rfl
@[simp] theorem small14 (a0 a1 a2 a3 a4 a5 a6 a7 a8 a9 a10 a11 a12 a13 : D) : small [a0, a1, a2, a3, a4, a5, a6, a7, a8, a9, a10, a11, a12, a13] = true := rfl
@[simp] theorem small15 (a0 a1 a2 a3 a4 a5 a6 a7 a8 a9 a10 a11 a12 a13 a14 : D) : small [a0, a1, a2, a3, a4, a5, a6, a7, a8, a9, a10, a11, a12, a13, a14] = true := rfl
@[simp] theorem small16 (a0 a1 a2 a3 a4 a5 a6 a7 a8 a9 a10 a11 a12 a13 a14 a15 : D) : small [a0, a1, a2, a3, a4, a5, a6, a7, a8, a9, a10, a11, a12, a13, a14, a15] = true := rfl
@[simp] theorem place_0 (n : Nat) : place (n + 1) 0 = some 0 := by rw [place_nn (by omega) (by omega)]; rfl
@[simp] theorem place_1 (n : Nat) : place (n + 1 + 1) 1 = some 1 := by rw [place_nn (by omega) (by omega)]; rfl
@[simp] theorem place_2 (n : Nat) : place (n + 1 + 1 + 1) 2 = some 2 := by rw [place_nn (by omega) (by omega)]; rfl
variable {tab : Nat → Option Def}
set_option maxHeartbeats 4000000 in
theorem below_ok [H : Has tab 14 d14] {k : Nat} {l : List Int} {m : Int} (hs : Src l) (h0 : 0 < m) (h1 : m < 1000000000) :
    ∃ i l', 0 ≤ i ∧ i < m ∧ Src l' ∧ callF tab (k + 1) 14 [.own (.lst (dI l)), .val (.int m)] = .ok (.val (.int i), [.own (.lst (dI l')), .val (.int m)]) := by
  obtain ⟨a, b, r, rfl, ha, hb, hr⟩ := hs
  have key : Wp (callF tab (k + 1) 14 [.own (.lst (dI (a :: b :: r))), .val (.int m)]) (fun p => ∃ i l', 0 ≤ i ∧ i < m ∧ Src l' ∧ p = (.val (.int i), [.own (.lst (dI l')), .val (.int m)])) (fun _ _ _ => False) := by
    refine callW H rfl rfl ?_
    have m0 : ∀ x : Int, 0 ≤ x % m ∧ x % m < m := fun x => ⟨Int.emod_nonneg _ (by omega), Int.emod_lt_of_pos _ h0⟩
    have d0 : ∀ x : Int, 0 ≤ x → 0 ≤ x / m := fun x hx => Int.ediv_nonneg hx (by omega)
    have s0 : ∀ x : Int, 0 ≤ x % 2147483647 := fun x => Int.emod_nonneg _ (by decide)
    rcases r with _ | ⟨c, r⟩
    · by_cases hb0 : b = 0
      · subst hb0
        simp -implicitDefEqProofs [d14, h0, h1]
        exact ⟨_, (m0 _).1, (m0 _).2, [_, 0], ⟨_, _, _, rfl, s0 _, hb, hr⟩, rfl, rfl⟩
      · have hb1 : 0 < b := by omega
        simp -implicitDefEqProofs [d14, h0, h1, hb0, hb1]
        exact ⟨_, (m0 _).1, (m0 _).2, [a, b / m], ⟨_, _, _, rfl, ha, d0 _ hb, hr⟩, rfl, rfl⟩
    · have hc := hr c List.mem_cons_self
      have hr' := fun x hx => hr x (List.mem_cons_of_mem c hx)
      have e2 : (2 : Int) < (r.length : Int) + 1 + 1 + 1 := by omega
      by_cases hb0 : b = 0
      · subst hb0
        simp -implicitDefEqProofs [d14, h0, h1, hc, e2]
        exact ⟨_, (m0 _).1, (m0 _).2, a :: c / m :: r, ⟨_, _, _, rfl, ha, d0 _ (by omega), hr'⟩, rfl, rfl⟩
      · have hb1 : 0 < b := by omega
        simp -implicitDefEqProofs [d14, h0, h1, hb0, hb1]
        exact ⟨_, (m0 _).1, (m0 _).2, a :: b / m :: c :: r, ⟨_, _, _, rfl, ha, d0 _ hb, hr⟩, rfl, rfl⟩
  obtain ⟨p, e, i, l', h2, h3, h4, rfl⟩ := key.okk
  exact ⟨i, l', h2, h3, h4, e⟩
set_option maxHeartbeats 4000000 in
theorem random_ok [H : Has tab 13 d13] {k : Nat} {xs : List Int} {m : Int} (hx : xs.length ≤ 63) (h0 : 0 ≤ m) :
    ∃ l, Src l ∧ callF tab (k + 1) 13 [.ro (dI xs), .val (.int m)] = .ok (.tmp (.lst (dI l)), [.ro (dI xs), .val (.int m)]) := by
  have key : Wp (callF tab (k + 1) 13 [.ro (dI xs), .val (.int m)]) (fun p => ∃ l, Src l ∧ p = (.tmp (.lst (dI l)), [.ro (dI xs), .val (.int m)])) (fun _ _ _ => False) := by
    refine callW H rfl rfl ?_
    simp -implicitDefEqProofs [d13]
    refine wp_loopF (fun i ρ => ∃ s x, (0 : Int) ≤ s ∧ ρ = [.ro (dI xs), .val (.int m), .val (.int s), x] ∧ (x = .un ∨ ∃ d, x = .val d)) ⟨m, .un, h0, rfl, .inl rfl⟩ ?_ ?_
    · rintro i d ρ hd ⟨s, x, hs, rfl, hxx⟩
      rw [List.getElem?_map] at hd
      obtain ⟨c, hc, rfl⟩ := Option.map_eq_some_iff.mp hd
      simp
      exact ⟨_, Int.emod_nonneg _ (by decide), _, ⟨rfl, rfl⟩, .inr ⟨_, rfl⟩⟩
    · rintro ρ ⟨s, x, hs, rfl, hxx⟩
      have fin : loopC (lcT (callF tab k) (.var 3) (.nm 3) (.so (.cmp .ge (.var 3) (.bin .pow (.cst (.int 10)) (.cst (.int 18))))) [3]) (dI xs) [] [.ro (dI xs), .val (.int m), .val (.int s), .un] = .ok (dI (xs.filter fun c => decide (1000000000000000000 ≤ c)), [.ro (dI xs), .val (.int m), .val (.int s), .un]) := by
        refine loopC_fm _ _ _ (fun c _ => ?_) (by omega)
        by_cases hc : 1000000000000000000 ≤ c <;> simp [hc]
      have sm : small (.int s :: .int 0 :: dI (xs.filter fun c => decide (1000000000000000000 ≤ c))) = true := by
        apply small_of
        have := List.length_filter_le (fun c => decide ((1000000000000000000 : Int) ≤ c)) xs
        simp
        omega
      have done : Src (s :: 0 :: xs.filter fun c => decide (1000000000000000000 ≤ c)) := ⟨s, 0, _, rfl, hs, by decide, fun x hx => by
        have := (List.mem_filter.mp hx).2
        simp at this
        omega⟩
      rcases hxx with rfl | ⟨d, rfl⟩
      · simp [fin, sm]
        exact ⟨_, done, rfl⟩
      · simp [fin, sm]
        exact ⟨_, done, rfl⟩
  obtain ⟨p, e, l, h1, rfl⟩ := key.okk
  exact ⟨l, h1, e⟩
/-- a call without arguments that gives True -/
def okT : Res (R × List Slot) → Bool
  | .ok (.val (.bool true), []) => true
  | _ => false
theorem okT_eq {r : Res (R × List Slot)} (h : okT r = true) : r = .ok (.val (.bool true), []) := by
  unfold okT at h
  split at h
  · rfl
  · cases h
end Mlg
/-! Pl14: the plain law of k14. -/
namespace Mlg
open PySem (PyData Str)
variable {tab : Nat → Option Def}
theorem eval_er0 (call : CallT) (c : Nat) (ρ : Env) : eval call (.er0 c) ρ = .ok (.val (.dict [(.none, .int c)]), ρ) := by rw [eval] <;> rfl
@[simp ↓] theorem w_eval_er0 (call : CallT) (c : Nat) (ρ : Env) {Q : Post _} {E : Xst} : @Wq _ (eval call (.er0 c) ρ) Q E = Q.p (.val (.dict [(.none, .int c)]), ρ) := by rw [eval_er0, wp_ok]
theorem eval_er1 (call : CallT) (c : Nat) (a : E) (ρ : Env) : eval call (.er1 c a) ρ = (eval call a ρ).bind fun p => match fix p.2 p.1 with
      | none => .no
      | some (x, ρ') => .ok (.val (.dict [(.none, .int c), (.none, x)]), ρ') := by rw [eval] <;> rfl
@[simp ↓] theorem w_eval_er1 (call : CallT) (c : Nat) (a : E) (ρ : Env) {Q : Post _} {E : Xst} : @Wq _ (eval call (.er1 c a) ρ) Q E = @Wq _ ((eval call a ρ).bind fun p => match fix p.2 p.1 with
      | none => .no
      | some (x, ρ') => .ok (.val (.dict [(.none, .int c), (.none, x)]), ρ')) Q E := by rw [eval_er1]
theorem eval_isE (call : CallT) (c : Nat) (a : E) (ρ : Env) : eval call (.isE c a) ρ = (eval call a ρ).bind fun p => match p.1 with
      | .val d => (Res.of (ecls c d)).bind fun b => .ok (.val (.bool b), p.2)
      | _ => .no := by rw [eval] <;> rfl
@[simp ↓] theorem w_eval_isE (call : CallT) (c : Nat) (a : E) (ρ : Env) {Q : Post _} {E : Xst} : @Wq _ (eval call (.isE c a) ρ) Q E = @Wq _ ((eval call a ρ).bind fun p => match p.1 with
      | .val d => (Res.of (ecls c d)).bind fun b => .ok (.val (.bool b), p.2)
      | _ => .no) Q E := by rw [eval_isE]
theorem eval_xfd (call : CallT) (i : Nat) (f : Str) (ρ : Env) : eval call (.xfd i f) ρ = match ρ[i]? with
      | some (.val d) => (Res.of (efld f d)).bind fun x => .ok (.val x, ρ)
      | _ => .no := by rw [eval] <;> rfl
@[simp ↓] theorem w_eval_xfd (call : CallT) (i : Nat) (f : Str) (ρ : Env) {Q : Post _} {E : Xst} : @Wq _ (eval call (.xfd i f) ρ) Q E = @Wq _ (match ρ[i]? with
      | some (.val d) => (Res.of (efld f d)).bind fun x => .ok (.val x, ρ)
      | _ => .no) Q E := by rw [eval_xfd]
@[simp] theorem ecls_er (c : Nat) (k : Int) (r : List (D × D)) : ecls c (.dict ((.none, .int k) :: r)) = some (decide (c = 100) || decide (c = 0) || decide ((c : Int) = k)) := rfl
theorem pick14_ok [Has tab 14 d14] [H : Has tab 15 d15] {k : Nat} {l : List Int} {ds : List D} (hs : Src l) (h0 : ds ≠ []) (h1 : ds.length < 1000) :
    ∃ (i : Nat) (x : D) (l' : List Int), ds[i]? = some x ∧ Src l' ∧ callF tab (k + 2) 15 [.own (.lst (dI l)), .own (.lst ds)] = .ok (.val x, [.own (.lst (dI l')), .own (.lst ds)]) := by
  have hp : 0 < ds.length := List.length_pos_iff.mpr h0
  obtain ⟨i, l', i0, i1, hs', e⟩ := below_ok (tab := tab) (k := k) (m := (ds.length : Int)) hs (by omega) (by omega)
  have hi : i.toNat < ds.length := by omega
  refine ⟨i.toNat, ds[i.toNat], l', List.getElem?_eq_getElem hi, hs', Wp.eq ?_⟩
  refine callW H rfl rfl ?_
  simp -implicitDefEqProofs [d15, e, place_nn i0 i1, List.getElem?_eq_getElem hi]
abbrev erD (k : Nat) (r : List (D × D)) : D := .dict ((.none, .int k) :: r)
theorem classes_ok [H : Has tab 102 d102] {j k : Nat} (r : List (D × D)) (h0 : 1 ≤ k) (h1 : k ≤ 13) : callF tab (j + 1) 102 [.val (erD k r)] = .ok (.val (.int 1), [.val (erD k r)]) := by
  refine Wp.eq ?_
  refine callW H rfl rfl ?_
  have hk : k = 1 ∨ k = 2 ∨ k = 3 ∨ k = 4 ∨ k = 5 ∨ k = 6 ∨ k = 7 ∨ k = 8 ∨ k = 9 ∨ k = 10 ∨ k = 11 ∨ k = 12 ∨ k = 13 := by omega
  rcases hk with rfl | rfl | rfl | rfl | rfl | rfl | rfl | rfl | rfl | rfl | rfl | rfl | rfl <;> simp -implicitDefEqProofs [d102]
theorem one_ok [Has tab 14 d14] [Has tab 15 d15] [H : Has tab 101 d101] {j : Nat} {l : List Int} (hs : Src l) : ∃ (k : Nat) (x : D) (l' : List Int), 1 ≤ k ∧ k ≤ 13 ∧ Src l' ∧ callF tab (j + 3) 101 [.own (.lst (dI l))] = .ok (.val (.tuple [erD k [(.none, x)], .bool true]), [.own (.lst (dI l'))]) := by
  obtain ⟨i, x, l1, hx, hs1, e1⟩ := pick14_ok (tab := tab) (k := j) (ds := [.int 0, .int (-1), .none, .str ⟨#[97]⟩, .tuple []]) hs (by simp) (by simp)
  obtain ⟨q, l2, q0, q1, hs2, e2⟩ := below_ok (tab := tab) (k := j + 1) (m := 2) hs1 (by decide) (by decide)
  have eqx : cmp .eq x x = some true := by
    have := List.mem_of_getElem? hx
    simp only [List.mem_cons, List.not_mem_nil, or_false] at this
    rcases this with rfl | rfl | rfl | rfl | rfl <;> rfl
  have f7 : efld "index" (.dict [(.none, .int 7), (.none, x)]) = some x := by
    show (if (if (7 : Int) = 7 then some ("index" : Str) else if (7 : Int) = 13 then some ("word" : Str) else none) = some ("index" : Str) then some x else none) = some x
    exact if_pos (by decide)
  have f13 : efld "word" (.dict [(.none, .int 13), (.none, x)]) = some x := by
    show (if (if (13 : Int) = 7 then some ("index" : Str) else if (13 : Int) = 13 then some ("word" : Str) else none) = some ("word" : Str) then some x else none) = some x
    exact if_pos (by decide)
  by_cases c : q = 0
  · have c := eq_true c
    refine ⟨7, x, l2, by decide, by decide, hs2, Wp.eq ?_⟩
    refine callW H rfl rfl ?_
    simp -implicitDefEqProofs [d101, e1, e2, c, f7, eqx]
  · refine ⟨13, x, l2, by decide, by decide, hs2, Wp.eq ?_⟩
    refine callW H rfl rfl ?_
    simp -implicitDefEqProofs [d101, e1, e2, c, f13, eqx]
def I14 (xs : List Int) (i : Int) (ρ : Env) : Prop := ∃ l x2 x3 x4, Src l ∧ ρ = [.ro (dI xs), .own (.lst (dI l)), x2, x3, x4, .un, .un]
theorem k14_plain [Has tab 13 d13] [Has tab 14 d14] [Has tab 15 d15] [Has tab 101 d101] [Has tab 102 d102] [H : Has tab 103 d103] {xs : List Int} (hx : xs.length ≤ 63) : ∃ s, callF tab 60 103 [.ro (dI xs)] = .ok (.val (.bool true), s) := by
  have key : Wp (callF tab (59 + 1) 103 [.ro (dI xs)]) (fun p => ∃ s, p = (.val (.bool true), s)) (fun _ _ _ => False) := by
    refine callW H rfl rfl ?_
    obtain ⟨l0, hs0, e0⟩ := random_ok (tab := tab) (k := 58) (m := 2414) hx (by decide)
    have rg : rangeOk 4 = true := by decide
    simp -implicitDefEqProofs [d103, e0, rg]
    refine wp_loopR (I14 xs) ⟨l0, .un, .un, .un, hs0, rfl⟩ ?_ ?_
    · rintro i ρ i0 i1 ⟨l, x2, x3, x4, hs, rfl⟩
      obtain ⟨k, x, l', k0, k1, hs', e1⟩ := one_ok (tab := tab) (j := 56) hs
      have e2 := classes_ok (tab := tab) (j := 58) (k := k) [(.none, x)] k0 k1
      simp -implicitDefEqProofs [e1, e2]
      exact ⟨l', _, _, _, hs', rfl⟩
    · rintro ρ ⟨l, x2, x3, x4, hs, rfl⟩
      have c := fun (k : Nat) h0 h1 => classes_ok (tab := tab) (j := 58) (k := k) [] h0 h1
      have c1 : callF tab 59 102 [.val (.dict [(.none, .int 1)])] = .ok (.val (.int 1), [.val (.dict [(.none, .int 1)])]) := c 1 (by decide) (by decide)
      have c2 : callF tab 59 102 [.val (.dict [(.none, .int 2)])] = .ok (.val (.int 1), [.val (.dict [(.none, .int 2)])]) := c 2 (by decide) (by decide)
      have c3 : callF tab 59 102 [.val (.dict [(.none, .int 3)])] = .ok (.val (.int 1), [.val (.dict [(.none, .int 3)])]) := c 3 (by decide) (by decide)
      have c4 : callF tab 59 102 [.val (.dict [(.none, .int 4)])] = .ok (.val (.int 1), [.val (.dict [(.none, .int 4)])]) := c 4 (by decide) (by decide)
      have c5 : callF tab 59 102 [.val (.dict [(.none, .int 5)])] = .ok (.val (.int 1), [.val (.dict [(.none, .int 5)])]) := c 5 (by decide) (by decide)
      have c6 : callF tab 59 102 [.val (.dict [(.none, .int 6)])] = .ok (.val (.int 1), [.val (.dict [(.none, .int 6)])]) := c 6 (by decide) (by decide)
      have c8 : callF tab 59 102 [.val (.dict [(.none, .int 8)])] = .ok (.val (.int 1), [.val (.dict [(.none, .int 8)])]) := c 8 (by decide) (by decide)
      have c9 : callF tab 59 102 [.val (.dict [(.none, .int 9)])] = .ok (.val (.int 1), [.val (.dict [(.none, .int 9)])]) := c 9 (by decide) (by decide)
      have c10 : callF tab 59 102 [.val (.dict [(.none, .int 10)])] = .ok (.val (.int 1), [.val (.dict [(.none, .int 10)])]) := c 10 (by decide) (by decide)
      have c11 : callF tab 59 102 [.val (.dict [(.none, .int 11)])] = .ok (.val (.int 1), [.val (.dict [(.none, .int 11)])]) := c 11 (by decide) (by decide)
      have c12 : callF tab 59 102 [.val (.dict [(.none, .int 12)])] = .ok (.val (.int 1), [.val (.dict [(.none, .int 12)])]) := c 12 (by decide) (by decide)
      have q : cmp .eq (.list []) (.list []) = some true := rfl
      simp -implicitDefEqProofs [c1, c2, c3, c4, c5, c6, c8, c9, c10, c11, c12, q]
  obtain ⟨p, e, s, rfl⟩ := key.okk
  exact ⟨s, e⟩
end Mlg
set_option maxHeartbeats 0
namespace Lk14
open PySem PySem.Spec PyProof.Rows L2 Mlg Msd
def top (i : Nat) : Stmt := PySem.Challenge.pw_turnlaced_k14_errors_apart.main.body.getD i (.Pass ⟨0, 0, 0, 0⟩)
def r13 : Rc := ⟨13, "_law_random", d13, ["_law_script", "_law_salt", "_law_seed", "_law_cell"], top 16, false, "_law_random"⟩
def r14 : Rc := ⟨14, "_law_below", d14, ["_law_d", "_law_size", "_law_result"], top 17, false, "_law_below"⟩
def r15 : Rc := ⟨15, "_law_pick", d15, ["_law_d", "_law_items"], top 18, false, "_law_pick"⟩
def r101 : Rc := ⟨101, "_law_one", d101, ["_law_d", "_law_one_here", "_law_kind", "_law_error"], top 19, false, "_law_one"⟩
def r102 : Rc := ⟨102, "_law_classes", d102, ["_law_error", "_law_found", "_law_one_here"], top 20, false, "_law_classes"⟩
def r103 : Rc := ⟨103, "law", d103, ["_law_script", "_law_d", "_law_turn", "_law_error", "_law_is_right", "_law_errors", "_law_one_here"], top 21, false, "law"⟩
def recs : List Rc := [r13, r14, r15, r101, r102, r103]
def gs : List Nat := []
def cs : List Nat := [1, 2, 3, 4, 5, 6, 7, 8, 9, 10, 11, 12, 13]
def dks : List Dk := []
theorem dksD : AllD dks := .nil
theorem b13 : BindP r13 := fun _ _ _ _ _ _ us hl => match us, hl with | [_, _], _ => rfl
theorem b14 : BindP r14 := fun _ _ _ _ _ _ us hl => match us, hl with | [_, _], _ => rfl
theorem b15 : BindP r15 := fun _ _ _ _ _ _ us hl => match us, hl with | [_, _], _ => rfl
theorem b101 : BindP r101 := fun _ _ _ _ _ _ us hl => match us, hl with | [_], _ => rfl
theorem b102 : BindP r102 := fun _ _ _ _ _ _ us hl => match us, hl with | [_], _ => rfl
theorem b103 : BindP r103 := fun _ _ _ _ _ _ us hl => match us, hl with | [_], _ => rfl
theorem binds : AllB recs := .cons b13 (.cons b14 (.cons b15 (.cons b101 (.cons b102 (.cons b103 (.nil))))))
theorem m13 : defB (fnmOf recs gs (!dks.isEmpty)) (ernOf cs) r13.d r13.N r13.st = true := by decide +kernel
theorem m14 : defB (fnmOf recs gs (!dks.isEmpty)) (ernOf cs) r14.d r14.N r14.st = true := by decide +kernel
theorem m15 : defB (fnmOf recs gs (!dks.isEmpty)) (ernOf cs) r15.d r15.N r15.st = true := by decide +kernel
theorem m101 : defB (fnmOf recs gs (!dks.isEmpty)) (ernOf cs) r101.d r101.N r101.st = true := by decide +kernel
theorem m102 : defB (fnmOf recs gs (!dks.isEmpty)) (ernOf cs) r102.d r102.N r102.st = true := by decide +kernel
theorem m103 : defB (fnmOf recs gs (!dks.isEmpty)) (ernOf cs) r103.d r103.N r103.st = true := by decide +kernel
theorem match_ : AllM (fnmOf recs gs (!dks.isEmpty)) (ernOf cs) recs := .cons m13 (.cons m14 (.cons m15 (.cons m101 (.cons m102 (.cons m103 (.nil))))))
theorem ids1 : idsB recs = true := by decide +kernel
def ics : List Ic := [⟨7, "index", "self", "index", "BadPack.__init__", inner (top 8)⟩, ⟨13, "word", "self", "word", "BadText.__init__", inner (top 14)⟩]
theorem icsI : AllI ics := .cons (fun _ _ _ _ _ _ us hl => match us, hl with | [_, _], _ => rfl) (by decide +kernel) (.cons (fun _ _ _ _ _ _ us hl => match us, hl with | [_, _], _ => rfl) (by decide +kernel) (.nil))
theorem icsC : icsB cs ics = true := by decide +kernel
abbrev fn : List He.DefD := fnOf recs ics dks
abbrev fa : List He.Fa := faOf recs gs cs ics dks
abbrev R : PySem.W.OpenRow := PySem.W.OpenLaw.row PySem.Challenge.rw_turnlaced_k14_errors_apart
abbrev hk : PySem.W.Hook := hookX 4 fa fn ics dks
def ob (s : PySem.W.SharedT) : Bool × He.AlD × List He.FnW := obsX 4 fa fn ics dks (HandSHeadRun.getT s)
theorem ob_eq (s : PySem.W.SharedT) : ob s = hk.obs s.abs := obsX_eq (HandSHeadRun.getT_eq s)
def loose : List PySem.Str := (["LaceError", "BadSize", "BadOrder", "BadRow", "BadCut", "BadRunning", "BadNumber", "BadPack", "BadTold", "BadPlace", "BadPlaces", "BadTimes", "TooGreat", "BadText", "_law_random", "_law_below", "_law_pick", "_law_one", "_law_classes"] : List PySem.Str)
theorem run (w : World) : HandSHeadRun.RunEq R (PySem.W.view R.prog [21]) hk ob 8000 loose w := by
  intro os
  kernel_rfl
instance : Has (tabOf recs) 13 d13 := ⟨rfl⟩
instance : Has (tabOf recs) 14 d14 := ⟨rfl⟩
instance : Has (tabOf recs) 15 d15 := ⟨rfl⟩
instance : Has (tabOf recs) 101 d101 := ⟨rfl⟩
instance : Has (tabOf recs) 102 d102 := ⟨rfl⟩
instance : Has (tabOf recs) 103 d103 := ⟨rfl⟩
theorem plain : ∀ xs : List Int, xs.length ≤ 63 → ∃ s, callF (tabOf recs) (59 + 1) r103.id [.ro (xs.map .int)] = .ok (.val (.bool true), s) := fun xs hx => k14_plain hx
end Lk14
open PySem PySem.W PySem.Calls PyProof.Rows
theorem PySem.Challenge.cw_turnlaced_k14_errors_apart_holds : PySem.Challenge.rw_turnlaced_k14_errors_apart.Holds := by
  w_on; o_law
  refine HandSHeadRun.head_any (r := OpenLaw.row PySem.Challenge.rw_turnlaced_k14_errors_apart) (q := view (OpenLaw.row PySem.Challenge.rw_turnlaced_k14_errors_apart).prog [21]) (H := Lk14.hk) (ob := Lk14.ob) (M := 8000) (loose := Lk14.loose) (d := HandSHeadRun.topDef (OpenLaw.row PySem.Challenge.rw_turnlaced_k14_errors_apart).prog 21) (kwd := []) Lk14.ob_eq
    (by kernel_rfl) (fun s => by kernel_rfl) Lk14.run (by kernel_rfl) (by kernel_rfl) (by kernel_rfl) (by rfl) (by first | assumption | decide +kernel) (by decide +kernel) ⟨rfl, rfl, rfl, rfl, rfl, by decide +kernel⟩ ?hw ?hc
  case hw => w_witness2
  case hc =>
    refine Msd.walk_ofW (l := PySem.Challenge.rw_turnlaced_k14_errors_apart) (n := 63) (k := 122) (x := "_law_script") rfl (by decide) (by kernel_rfl) ⟨rfl, by decide, by decide⟩ ?F
    case F =>
      intro w mg fa h Y G hmg0
      obtain ⟨K, KX, hx, c, hgt⟩ := Y
      have hmg : mg ("law" : PySem.Str) = some (.ref fa) := by
        have e : (HandSHeadRun.topDef (OpenLaw.row PySem.Challenge.rw_turnlaced_k14_errors_apart).prog 21).name = ("law" : PySem.Str) := by kernel_rfl
        rw [← e]
        exact hmg0
      obtain ⟨fd, sp, h1, h2, h3⟩ := Msd.law_end (P := (PySem.Challenge.rw_turnlaced_k14_errors_apart).prog) (w := w) (r := Lk14.r103) (x := "_law_script") (n := 59) rfl rfl rfl Lk14.plain KX G c hx hgt Lk14.icsI Lk14.icsC Lk14.dksD Lk14.ids1 Lk14.binds Lk14.match_ hmg
      exact ⟨K, fd, sp, KX, h1, h2, h3⟩
