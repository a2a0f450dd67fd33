import PyProof.Rows.All
import Wide.All
import OpenK.AllK
import Wide.FinOn
import PySem.Challenge.RW_turnlaced_k03_whole_numbers_of_rows
import PySem.PyData
import HandS.ForMost
import HandS.WordsExc
import HandS.TupAny
import HandS.TupMul
import HandS.Style
import HandS.Deep
import KE.DataCmp
import KE.SortData
import KE.DataMinMax
import HandS.SetFor
import HandS.SortInts
import HandS.TupSets
import HandS.Dict
import HandS.More
import HandS.Conv
import HandS.Sort
import HandS.IsInst
import HandS.Text
import HandS.Star
import KE.GoesMore
import HandS.DictComp
import HandS.TryMany
import HandS.Defaults
import HandS.HeadHook2
import HandS.HeadEnd
import KE.KStateDown
import HandS.Head0
import HandS.Head1
import HandS.Head2
set_option Elab.async false
set_option linter.all false
set_option maxRecDepth 100000
set_option maxHeartbeats 4000000
/-! Mini: a small language of values (lists owned by one name, or frozen), its interpreter. Plain Lean. -/
namespace Mlg
open PySem (PyData Str)

abbrev D := PyData

/-- an object of one owner -/
inductive O where
  | lst (xs : List D)
  /-- keys: intsD and texts, or tuples of intsD -/
  | dic (t : Bool) (kvs : List (D × D))
def O.toD : O → D
  | .lst xs => .list xs
  | .dic _ kvs => .dict kvs

/-- what a name holds: nothing, a value that nobody changes, an object of its own, such a one while a loop walks it, a list that is only read (the script) -/
inductive Slot where
  | un | val (d : D) | own (o : O) | lck (o : O) | ro (xs : List D)
abbrev Env := List Slot

/-- what an expression gives: a value, a new object, the object of a name -/
inductive R where
  | val (d : D) | tmp (o : O) | loc (i : Nat)

inductive Res (α : Type) where
  | ok (a : α) | exc (c : Nat) (f : D) (ρ : Env) | no

@[inline] def Res.bind {α β : Type} (r : Res α) (k : α → Res β) : Res β :=
  match r with
  | .ok a => k a
  | .exc c f ρ => .exc c f ρ
  | .no => .no
instance : Monad Res := { pure := .ok, bind := Res.bind }
@[simp] theorem bind_ok {α β : Type} (a : α) (k : α → Res β) : (Res.ok a >>= k) = k a := rfl
@[simp] theorem bind_exc {α β : Type} (c f ρ) (k : α → Res β) : ((Res.exc c f ρ : Res α) >>= k) = Res.exc c f ρ := rfl
@[simp] theorem bind_no {α β : Type} (k : α → Res β) : ((Res.no : Res α) >>= k) = Res.no := rfl
@[simp] theorem pure_ok {α : Type} (a : α) : (pure a : Res α) = Res.ok a := rfl
def Res.of {α : Type} : Option α → Res α
  | some a => .ok a
  | none => .no
@[simp] theorem of_some {α : Type} (a : α) : Res.of (some a) = Res.ok a := rfl
@[simp] theorem of_none {α : Type} : Res.of (none : Option α) = Res.no := rfl

/-! ### equality, shape -/
mutual
def eqv : D → D → Bool
  | .none, .none => true
  | .bool a, .bool b => a == b
  | .bool a, .int j => (if a then 1 else 0) == j
  | .int i, .bool b => i == (if b then 1 else 0)
  | .int i, .int j => i == j
  | .str x, .str y => x == y
  | .list xs, .list ys => eqvAll xs ys
  | .tuple xs, .tuple ys => eqvAll xs ys
  | _, _ => false
def eqvAll : List D → List D → Bool
  | [], [] => true
  | x :: xs, y :: ys => eqv x y && eqvAll xs ys
  | _, _ => false
end
mutual
/-- no dict within, at most n deep, texts not too long -/
def shp : Nat → D → Bool
  | _, .none => true
  | _, .bool _ => true
  | _, .int _ => true
  | _, .str x => x.cps.toList.all fun c => decide (c < 1114112)
  | n + 1, .list xs => shpAll n xs
  | n + 1, .tuple xs => shpAll n xs
  | _, _ => false
def shpAll : Nat → List D → Bool
  | _, [] => true
  | n, x :: xs => shp n x && shpAll n xs
end
/-- an int, a text or a tuple of such: what a dict's key may be -/
def keyOk : D → Bool
  | .int _ => true
  | .str _ => true
  | .tuple xs => xs.all fun d => match d with | .int _ => true | _ => false
  | _ => false

/-- .. by the kind of a dict -/
def keyT : Bool → D → Bool
  | false, .int _ => true
  | false, .str _ => true
  | true, .tuple xs => xs.all fun d => match d with | .int _ => true | _ => false
  | _, _ => false

/-! ### operators -/
inductive Bi where | add | sub | mul | fdiv | mod | pow
  deriving DecidableEq
inductive Cm where | lt | le | gt | ge | eq | ne | inn | nin
  deriving DecidableEq
/-- the kinds that isinstance is asked of -/
inductive Ty where | int | bool | str | tuple | list | dict
  deriving DecidableEq
inductive B1 where
  | len | abs | int | str | min | max | sum | all | sorted | list | tuple | lenset | sortset | isi (t : Ty) | values
  deriving DecidableEq
inductive B2 where | min | max
  deriving DecidableEq

def lim : Nat := 1000000
/-- a sequence's items -/
def items : D → Option (List D)
  | .list xs => some xs
  | .tuple xs => some xs
  | _ => none
def intsD : List D → Option (List Int)
  | [] => some []
  | .int i :: r => (intsD r).map (i :: ·)
  | _ :: _ => none
def bools : List D → Option (List Bool)
  | [] => some []
  | .bool b :: r => (bools r).map (b :: ·)
  | _ :: _ => none
def small (xs : List D) : Bool := xs.length < lim
def rep (n : Nat) (xs : List D) : List D := (List.replicate n xs).flatten

def bin : Bi → D → D → Option R
  | .add, .int i, .int j => some (.val (.int (i + j)))
  | .add, .tuple xs, .tuple ys => if small (xs ++ ys) then some (.val (.tuple (xs ++ ys))) else none
  | .add, .list xs, .list ys => if small (xs ++ ys) then some (.tmp (.lst (xs ++ ys))) else none
  | .add, .str x, .str y => if x.cps.size + y.cps.size < lim then some (.val (.str ⟨x.cps ++ y.cps⟩)) else none
  | .sub, .int i, .int j => some (.val (.int (i - j)))
  | .mul, .int i, .int j => if i.natAbs < 2 ^ 64 ∨ j.natAbs < 2 ^ 64 then some (.val (.int (i * j))) else none
  | .mul, .tuple xs, .int j => if j = 1 then some (.val (.tuple xs)) else if xs ≠ [] ∧ 2 ≤ j ∧ j ≤ 1000 ∧ xs.length ≤ 1000 then some (.val (.tuple (rep j.toNat xs))) else none
  | .mul, .list xs, .int j => if xs.length * j.toNat < lim ∧ -1000000 < j ∧ j < 1000000 then some (.tmp (.lst (rep j.toNat xs))) else none
  | .fdiv, .int i, .int j => if 0 < j ∧ j < 1000000000 then some (.val (.int (i / j))) else none
  | .mod, .int i, .int j => if 0 < j then some (.val (.int (i % j))) else none
  | .pow, .int i, .int j => if 0 ≤ j ∧ j ≤ 1000 ∧ i.natAbs < 1000000 then some (.val (.int (i ^ j.toNat))) else none
  | _, _, _ => none

/-- the order of tuples of intsD -/
def ltInts : List Int → List Int → Bool
  | [], [] => false
  | [], _ :: _ => true
  | _ :: _, [] => false
  | x :: xs, y :: ys => if x = y then ltInts xs ys else x < y

/-- the order of intsD, and of tuples of intsD -/
def ltD : D → D → Bool
  | .int i, .int j => decide (i < j)
  | .tuple xs, .tuple ys => match intsD xs, intsD ys with
    | some a, some b => ltInts a b
    | _, _ => false
  | _, _ => false

def pairI : List D → Option (List Int × List Int)
  | [.tuple a, .tuple b] => (intsD a).bind fun x => (intsD b).map fun y => (x, y)
  | _ => none
def ltPair (p q : List Int × List Int) : Bool := if p.1 = q.1 then ltInts p.2 q.2 else ltInts p.1 q.1
/-- a greater tuple: of ints, or a pair of such -/
def gtT (xs ys : List D) : Option Bool := match intsD xs, intsD ys with
  | some a, some b => some (ltInts b a)
  | _, _ => match pairI xs, pairI ys with
    | some p, some q => some (ltPair q p)
    | _, _ => none

def cmp : Cm → D → D → Option Bool
  | .lt, .int i, .int j => some (decide (i < j))
  | .le, .int i, .int j => some (decide (i ≤ j))
  | .gt, .int i, .int j => some (decide (j < i))
  | .gt, .tuple xs, .tuple ys => gtT xs ys
  | .ge, .int i, .int j => some (decide (j ≤ i))
  | .eq, a, b => if shp 8 a && shp 8 b then some (eqv a b) else none
  | .ne, a, b => if shp 8 a && shp 8 b then some (!eqv a b) else none
  | .inn, a, .list ys => if shp 8 a && shp 8 (.list ys) then some (ys.any fun z => eqv z a) else none
  | .inn, .int i, .tuple ys => (intsD ys).map fun is => is.contains i
  | .inn, .str x, .str y => match x.cps.toList with | [c] => some (decide (c ∈ y.cps.toList)) | _ => none
  | .nin, a, .list ys => if shp 8 a && shp 8 (.list ys) then some (!ys.any fun z => eqv z a) else none
  | .nin, .int i, .tuple ys => (intsD ys).map fun is => !is.contains i
  | .nin, .str x, .str y => match x.cps.toList with | [c] => some (!decide (c ∈ y.cps.toList)) | _ => none
  | _, _, _ => none

def isTy : Ty → D → Bool
  | .int, .int _ => true
  | .int, .bool _ => true
  | .bool, .bool _ => true
  | .str, .str _ => true
  | .tuple, .tuple _ => true
  | .list, .list _ => true
  | .dict, .dict _ => true
  | _, _ => false

def insD (x : D) : List D → List D
  | [] => [x]
  | y :: ys => if ltD y x then y :: insD x ys else x :: y :: ys
/-- a sort -/
def sortD : List D → List D
  | [] => []
  | x :: xs => insD x (sortD xs)
def tupI : D → Bool
  | .tuple (x :: xs) => (intsD (x :: xs)).isSome
  | _ => false
/-- intsD alone, or tuples of intsD alone (none empty) -/
def sortable (xs : List D) : Bool := (intsD xs).isSome || xs.all tupI
def boolsT : D → Bool
  | .tuple bs => (bools bs).isSome
  | _ => false
/-- two pairs (int, tuple of truth values), the ints ascending -/
def upP : List D → Bool
  | [.tuple [.int a, b], .tuple [.int c, d]] => decide (a < c) && boolsT b && boolsT d
  | _ => false
def stepI (acc : List Int) (x : Int) : List Int := if acc.any (· == x) then acc else acc ++ [x]
/-- one of each -/
def dedupI (xs : List Int) : List Int := xs.foldl stepI []

def minI : Int → List Int → Int
  | m, [] => m
  | m, x :: xs => minI (if x < m then x else m) xs
def maxI : Int → List Int → Int
  | m, [] => m
  | m, x :: xs => maxI (if x > m then x else m) xs

def digits (fuel : Nat) (n : Nat) : List Nat := match fuel with
  | 0 => []
  | k + 1 => if n < 10 then [48 + n] else digits k (n / 10) ++ [48 + n % 10]
def strOf (n : Nat) : Str := ⟨(digits 20 n).toArray⟩
def numOf : List Nat → Option Nat
  | cs => if cs.isEmpty then none else cs.foldl (fun a c => a.bind fun n => if 48 ≤ c ∧ c ≤ 57 then some (10 * n + (c - 48)) else none) (some 0)

def tupsD : List D → Option (List (List Int))
  | [] => some []
  | .tuple ds :: r => (intsD ds).bind fun is => (tupsD r).map (is :: ·)
  | _ :: _ => none
def oneMoreT (acc : List (List Int)) (x : List Int) : List (List Int) := if x ∈ acc then acc else acc ++ [x]
def dedupL (xs : List (List Int)) : List (List Int) := xs.foldl oneMoreT []
/-- len(set(xs)), xs a list of tuples of ints -/
def lsT : D → Option R
  | .list xs => (tupsD xs).bind fun ls => if ls.length < 64 then some (.val (.int (dedupL ls).length)) else none
  | _ => none
def b1 : B1 → D → Option R
  | .len, .list xs => some (.val (.int xs.length))
  | .len, .tuple xs => some (.val (.int xs.length))
  | .len, .str x => if x.cps.size < lim then some (.val (.int x.cps.size)) else none
  | .abs, .int i => some (.val (.int (if i < 0 then -i else i)))
  | .int, .int i => some (.val (.int i))
  | .int, .bool b => some (.val (.int (if b then 1 else 0)))
  | .int, .str x => match x.cps.toList with
    | [c] => if 48 ≤ c ∧ c ≤ 57 then some (.val (.int (c - 48 : Nat))) else none
    | [c, d] => if 48 ≤ c ∧ c ≤ 57 ∧ 48 ≤ d ∧ d ≤ 57 then some (.val (.int (10 * (c - 48) + (d - 48) : Nat))) else none
    | _ => none
  | .str, .int i => if 0 ≤ i ∧ i < 1000 then some (.val (.str (strOf i.toNat))) else none
  | .min, d => ((items d).bind intsD).bind fun is => match is with | [] => none | x :: r => some (.val (.int (minI x r)))
  | .max, d => ((items d).bind intsD).bind fun is => match is with | [] => none | x :: r => some (.val (.int (maxI x r)))
  | .sum, .list ds => (intsD ds).map fun is => .val (.int is.sum)
  | .all, .list ds => (bools ds).map fun bs => .val (.bool (bs.all id))
  | .sorted, .list xs => if sortable xs then some (.tmp (.lst (sortD xs))) else if upP xs then some (.tmp (.lst xs)) else none
  | .sorted, .tuple xs => if (intsD xs).isSome then some (.tmp (.lst (sortD xs))) else none
  | .list, .list xs => some (.tmp (.lst xs))
  | .list, .tuple xs => some (.tmp (.lst xs))
  | .list, .dict kvs => some (.tmp (.lst (kvs.map (·.1))))
  | .tuple, .list xs => some (.val (.tuple xs))
  | .tuple, .tuple xs => some (.val (.tuple xs))
  | .lenset, d => (((items d).bind intsD).bind fun is => if is.length ≤ 4000 then some (.val (.int (dedupI is).length)) else none).or (lsT d)
  | .isi t, d => some (.val (.bool (isTy t d)))
  | .values, .dict kvs => some (.tmp (.lst (kvs.map (·.2))))
  | _, _ => none
def b2 : B2 → D → D → Option R
  | .min, .int i, .int j => some (.val (.int (if j < i then j else i)))
  | .max, .int i, .int j => some (.val (.int (if j > i then j else i)))
  | _, _, _ => none

/-- the place of an index -/
def place (n : Nat) (i : Int) : Option Nat := if 0 ≤ i then (if i < n then some i.toNat else none) else if -(n : Int) ≤ i then some (i + n).toNat else none
def ixD : D → D → Option R
  | .list xs, .int i => (place xs.length i).bind fun j => (xs[j]?).map .val
  | .tuple xs, .int i => (place xs.length i).bind fun j => (xs[j]?).map .val
  | .str x, .int i => if x.cps.size < lim then (place x.cps.toList.length i).bind fun j => (x.cps.toList[j]?).map fun c => .val (.str ⟨#[c]⟩) else none
  | .dict kvs, k => if keyOk k then (kvs.find? (eqv k ·.1)).map fun p => .val p.2 else none
  | _, _ => none
/-- a slice's end, cut to the length -/
def sIx (n d : Nat) : Option Int → Nat
  | none => d
  | some v => if v < 0 then (v + (n : Int)).toNat else min v.toNat n
def cutL {α : Type} (xs : List α) (lo hi : Option Int) : List α := (xs.drop (sIx xs.length 0 lo)).take (sIx xs.length xs.length hi - sIx xs.length 0 lo)
def slD (d : D) (a b : Option Int) : Option R :=
  match d with
  | .list xs => some (.tmp (.lst (cutL xs a b)))
  | .tuple xs => some (.val (.tuple (cutL xs a b)))
  | .str x => if x.cps.size < lim then some (.val (.str ⟨(cutL x.cps.toList a b).toArray⟩)) else none
  | _ => none
def revD : D → Option R
  | .list xs => some (.tmp (.lst xs.reverse))
  | _ => none
/-- methods that change nothing: index, count (intsD), join, split -/
inductive M1 where | index | count | join | split
  deriving DecidableEq
def texts : List D → Option (List Str)
  | [] => some []
  | .str x :: r => (texts r).map (x :: ·)
  | _ :: _ => none
def joinL (sep : List Nat) : List Str → List Nat
  | [] => []
  | [x] => x.cps.toList
  | x :: r => x.cps.toList ++ sep ++ joinL sep r
def splitL (c : Nat) : List Nat → List (List Nat)
  | [] => [[]]
  | x :: r => if x = c then [] :: splitL c r else match splitL c r with | w :: ws => (x :: w) :: ws | [] => [[x]]
def m1 : M1 → D → D → Option R
  | .count, .list ds, .int i => (intsD ds).map fun is => .val (.int (is.count i : Nat))
  | .join, .str s, .list ds => (texts ds).bind fun xs => if (xs.map (·.cps.size)).sum + xs.length * s.cps.size < lim then some (.val (.str ⟨(joinL s.cps.toList xs).toArray⟩)) else none
  | .split, .str x, .str s => match s.cps.toList with | [c] => if c < 256 ∧ x.cps.size < lim then some (.tmp (.lst ((splitL c x.cps.toList).map fun w => .str ⟨w.toArray⟩))) else none | _ => none
  | _, _, _ => none

/-- the kind of what a method is asked of -/
def m1k : M1 → Option D → Bool
  | .count, some (.list _) => true
  | .join, some (.str _) => true
  | .split, some (.str _) => true
  | _, _ => false

/-! ### the language -/
/-- the targets of loops: a name, names -/
inductive Tg where | nm (i : Nat) | tup (is : List Nat)
mutual
inductive E where
  | var (i : Nat) | cst (d : D) | glo (x : Nat) (d : D)
  | bin (o : Bi) (a b : E) | neg (a : E)
  | cmp (o : Cm) (a b : E) | chn (o p : Cm) (a b c : E) | isN (a : E) | ntN (a : E)
  | and (a b : E) | or (a b : E) | not (a : E) | ite (c a b : E)
  | call (f : Nat) (as : Es)
  | b1 (f : B1) (a : E) | b2 (f : B2) (a b : E) | m1 (f : M1) (a b : E)
  | ix (a i : E) | sl (a : E) (lo hi : Eo) | rev (a : E)
  | tup (es : Es) | lst (es : Es) | dnew (t : Bool) | dsp (k v : E) | din (neg : Bool) (a : E) (i : Nat) | dvals (i : Nat)
  | rg1 (l : Bool) (a : E) | rg2 (l : Bool) (a b : E)
  | lc (elt : E) (tg : Tg) (it : It) (c : Eo) (vs : List Nat)
  | lc2 (elt : E) (tg : Tg) (it : It) (tg' : Tg) (it' : It) (vs vs1 : List Nat)
  | dc (k v : E) (tg : Tg) (it : It) (c : Eo) (vs : List Nat)
  | app (i : Nat) (a : E) | pop (i : Nat) (a : Eo)
  | get (i : Nat) (k d : E)
inductive Es where
  | nil | cons (e : E) (es : Es) | star (e : E) (es : Es)
inductive Eo where
  | no | so (e : E)
/-- what is walked -/
inductive It where
  | r1 (a : E) | r2 (a b : E) | r3 (a b c : E) | envar (i : Nat) | enu (a : E) | var (i : Nat) | val (a : E)
end
/-- an except suite -/
inductive U where
  | set (i : Nat) (d : D)
  | inc (i : Nat) (n : Int)
  | app (i : Nat) (d : D)
  | setF (i : Nat) (w : D) (e : Nat)
  | appF (i : Nat) (e : Nat)
mutual
inductive S where
  | asg (i : Nat) (e : E)
  | par (is : List Nat) (es : Es)
  | unp (is : List Nat) (e : E)
  | sub (i : Nat) (ix e : E)
  | swp (i : Nat) (a b c d : E)
  | aug (i : Nat) (o : Bi) (e : E)
  | exp (e : E)
  | ret (e : E)
  | cond (c : E) (a b : Ss)
  | loop (tg : Tg) (it : It) (b : Ss)
  | whil (c : E) (b : Ss)
  | rais (c : Nat) (e : Eo)
  | tri (b : Ss) (hs : List (Nat × Option Nat × U))
  | pass
  | stuck
inductive Ss where
  | nil | cons (s : S) (r : Ss)
end
structure Def where
  /-- parameters; further names; the parameters that the body stores to -/
  np : Nat
  ns : Nat
  reb : List Nat
  body : Ss

/-! ### the interpreter -/
def view : Slot → Option D
  | .un => none
  | .val d => some d
  | .own o => some o.toD
  | .lck o => some o.toD
  | .ro xs => some (.list xs)
def look (ρ : Env) : R → Option D
  | .val d => some d
  | .tmp o => some o.toD
  | .loc i => (ρ[i]?).bind view
/-- .. not the script -/
def lookS (ρ : Env) : R → Option D
  | .val d => some d
  | .tmp o => some o.toD
  | .loc i => match ρ[i]? with
    | some (.val d) => some d
    | some (.own o) => some o.toD
    | some (.lck o) => some o.toD
    | _ => none
/-- as a value that nobody changes any more -/
def fix (ρ : Env) : R → Option (D × Env)
  | .val d => some (d, ρ)
  | .tmp o => some (o.toD, ρ)
  | .loc i => match ρ[i]? with
    | some (.val d) => some (d, ρ)
    | some (.own o) => some (o.toD, ρ.set i (.val o.toD))
    | _ => none
def getV (ρ : Env) (i : Nat) : Option R :=
  match ρ[i]? with
  | some (.val d) => some (.val d)
  | some (.own _) => some (.loc i)
  | some (.lck _) => some (.loc i)
  | some (.ro _) => some (.loc i)
  | _ => none
/-- the list that a name owns -/
def ownL (ρ : Env) (i : Nat) : Option (List D) :=
  match ρ[i]? with
  | some (.own (.lst xs)) => some xs
  | _ => none
/-- a name gets a value -/
def put (ρ : Env) (i : Nat) : R → Option Env
  | .val d => if i < ρ.length then some (ρ.set i (.val d)) else none
  | .tmp o => if i < ρ.length then some (ρ.set i (.own o)) else none
  | .loc j => if i < ρ.length then (fix ρ (.loc j)).map fun p => p.2.set i (.val p.1) else none
def putV (ρ : Env) (i : Nat) (d : D) : Option Env := if i < ρ.length then some (ρ.set i (.val d)) else none
def putVs : Env → List Nat → List D → Option Env
  | ρ, [], [] => some ρ
  | ρ, i :: is, d :: ds => (putV ρ i d).bind fun ρ' => putVs ρ' is ds
  | _, _, _ => none
def putTg (ρ : Env) : Tg → D → Option Env
  | .nm i, d => putV ρ i d
  | .tup is, .tuple ds => putVs ρ is ds
  | .tup _, _ => none
/-- the slots of a block's own names: free, or plain values -/
def wipeE (ρ : Env) (vs : List Nat) : Option Env :=
  match vs with
  | [] => some ρ
  | v :: r => match ρ[v]? with
    | some .un => (wipeE ρ r).map fun ρ' => ρ'.set v .un
    | some (.val _) => (wipeE ρ r).map fun ρ' => ρ'.set v .un
    | _ => none
/-- behind the block: as it was -/
def backE (ρ0 : Env) : List Nat → Env → Env
  | [], ρ => ρ
  | v :: r, ρ => match ρ0[v]? with
    | some s => (backE ρ0 r ρ).set v s
    | none => backE ρ0 r ρ

/-- what a call takes and gives: the arguments, as values or objects handed over; the answer, and the parameters behind it -/
abbrev CallT := Nat → List Slot → Res (R × List Slot)

def argOf (ρ : Env) : R → Option Slot
  | .val d => some (.val d)
  | .tmp o => some (.own o)
  | .loc i => match ρ[i]? with
    | some (.val d) => some (.val d)
    | some (.own o) => some (.own o)
    | some (.ro xs) => some (.ro xs)
    | _ => none
def argsOf (ρ : Env) : List R → Option (List Slot)
  | [] => some []
  | r :: rs => (argOf ρ r).bind fun s => (argsOf ρ rs).map (s :: ·)
/-- the objects that are lent -/
def lent (ρ : Env) : List R → List Nat
  | [] => []
  | .loc i :: rs => (match ρ[i]? with | some (.own _) => [i] | _ => []) ++ lent ρ rs
  | _ :: rs => lent ρ rs
def nodupN : List Nat → Bool
  | [] => true
  | i :: r => !r.contains i && nodupN r
def backArgs : Env → List R → List Slot → Option Env
  | ρ, [], [] => some ρ
  | ρ, .loc i :: rs, s :: ss => match ρ[i]?, s with
    | some (.own _), .own o => backArgs (ρ.set i (.own o)) rs ss
    | some (.own _), .lck o => backArgs (ρ.set i (.own o)) rs ss
    | some (.own _), .val d => backArgs (ρ.set i (.val d)) rs ss
    | some (.val _), _ => backArgs ρ rs ss
    | some (.ro _), _ => backArgs ρ rs ss
    | _, _ => none
  | ρ, _ :: rs, _ :: ss => backArgs ρ rs ss
  | _, _, _ => none
def notLoc : R → Bool
  | .loc _ => false
  | _ => true
def doCall (call : CallT) (f : Nat) (rs : List R) (ρ : Env) : Res (R × Env) :=
  match argsOf ρ rs with
  | none => .no
  | some ss =>
    if nodupN (lent ρ rs) then
      match call f ss with
      | .ok p => if notLoc p.1 = true then (Res.of (backArgs ρ rs p.2)).bind fun ρ' => .ok (p.1, ρ') else .no
      | .exc c d outs => match backArgs ρ rs outs with
        | some ρ' => .exc c d ρ'
        | none => .no
      | .no => .no
    else .no

def rangeL (lo hi : Int) : List D := (List.range (hi - lo).toNat).map fun (k : Nat) => .int (lo + k)
def rangeOk (i : Int) : Bool := -1000000 < i && i < 1000000
def stepN (lo hi c : Int) : Nat := (if lo < hi then (hi - lo - 1) / c + 1 else 0).toNat
def stepL (lo hi c : Int) : List D := (List.range (stepN lo hi c)).map fun (k : Nat) => .int (lo + k * c)
def enumL : Nat → List D → List D
  | _, [] => []
  | n, d :: r => .tuple [.int n, d] :: enumL (n + 1) r

def chars (x : Str) : List D := x.cps.toList.map fun c => .str ⟨#[c]⟩
/-- what a value has to be walked -/
def itemsW : D → Option (List D)
  | .str x => some (chars x)
  | d => items d
/-- a name's object to be walked: items, which name is locked meanwhile -/
def lockV (ρ : Env) (i : Nat) : Option ((List D × Option Nat) × Env) :=
  match ρ[i]? with
  | some (.val d) => (itemsW d).map fun xs => ((xs, none), ρ)
  | some (.own (.lst xs)) => some ((xs, some i), ρ.set i (.lck (.lst xs)))
  | some (.lck (.lst xs)) => some ((xs, none), ρ)
  | some (.ro xs) => some ((xs, none), ρ)
  | _ => none
def isStr : Option D → Bool
  | some (.str _) => true
  | _ => false
def walkR : R → Option (List D)
  | .val d => itemsW d
  | .tmp (.lst xs) => some xs
  | _ => none
def unlockE (ρ : Env) : Option Nat → Option Env
  | none => some ρ
  | some i => match ρ[i]? with
    | some (.lck o) => some (ρ.set i (.own o))
    | _ => none

def loopF (body : D → Env → Res (Env × Option R)) : List D → Env → Res (Env × Option R)
  | [], ρ => .ok (ρ, none)
  | d :: ds, ρ => match body d ρ with
    | .ok (ρ', none) => loopF body ds ρ'
    | .ok (ρ', some s) => .ok (ρ', some s)
    | .exc c f ρ' => .exc c f ρ'
    | .no => .no
/-- a comprehension's turns: the items so far, the environment -/
def loopC (turn : D → Env → Res (Option D × Env)) : List D → List D → Env → Res (List D × Env)
  | [], acc, ρ => .ok (acc, ρ)
  | d :: ds, acc, ρ => match turn d ρ with
    | .ok (some x, ρ') => if small acc then loopC turn ds (acc ++ [x]) ρ' else .no
    | .ok (none, ρ') => loopC turn ds acc ρ'
    | _ => .no
/-- .. the list handed on -/
def loopA (turn : D → List D → Env → Res (List D × Env)) : List D → List D → Env → Res (List D × Env)
  | [], acc, ρ => .ok (acc, ρ)
  | d :: ds, acc, ρ => match turn d acc ρ with
    | .ok (acc', ρ') => loopA turn ds acc' ρ'
    | _ => .no
def loopW (c : Env → Res (Bool × Env)) (b : Env → Res (Env × Option R)) : Nat → Env → Res (Env × Option R)
  | 0, _ => .no
  | n + 1, ρ => match c ρ with
    | .ok (true, ρ1) => (match b ρ1 with
      | .ok (ρ2, none) => loopW c b n ρ2
      | .ok (ρ2, some s) => .ok (ρ2, some s)
      | .exc c f ρ' => .exc c f ρ'
      | .no => .no)
    | .ok (false, ρ1) => .ok (ρ1, none)
    | .exc c f ρ' => .exc c f ρ'
    | .no => .no

def setKey (kvs : List (D × D)) (k v : D) : List (D × D) :=
  if kvs.any (eqv k ·.1) then kvs.map fun p => if eqv k p.1 then (p.1, v) else p else kvs ++ [(k, v)]
def mkDict : List D → Option (List (D × D))
  | [] => some []
  | .tuple [k, v] :: r => if keyT false k then (mkDict r).map fun kvs => (k, v) :: kvs else none
  | _ => none
def mkDictL (kvs : List (D × D)) : List (D × D) := kvs.foldl (fun a p => setKey a p.1 p.2) []

def isNone : R → Bool
  | .val .none => true
  | _ => false
/-- a result that is True or False -/
def asB : Res (R × Env) → Res (Bool × Env)
  | .ok (.val (.bool b), ρ) => .ok (b, ρ)
  | .ok _ => .no
  | .exc c f ρ => .exc c f ρ
  | .no => .no

section
variable (call : CallT)
mutual
def eval : E → Env → Res (R × Env)
  | .var i, ρ => (Res.of (getV ρ i)).bind fun r => .ok (r, ρ)
  | .cst d, ρ => .ok (.val d, ρ)
  | .glo _ d, ρ => .ok (.val d, ρ)
  | .bin o a b, ρ => (eval a ρ).bind fun p => (eval b p.2).bind fun q =>
      match lookS q.2 p.1, lookS q.2 q.1 with
      | some x, some y => (Res.of (bin o x y)).bind fun r => .ok (r, q.2)
      | _, _ => .no
  | .neg a, ρ => (eval a ρ).bind fun p => match p.1 with
      | .val (.int i) => .ok (.val (.int (-i)), p.2)
      | _ => .no
  | .cmp o a b, ρ => (eval a ρ).bind fun p => (eval b p.2).bind fun q =>
      match look q.2 p.1, look q.2 q.1 with
      | some x, some y => (Res.of (cmp o x y)).bind fun r => .ok (.val (.bool r), q.2)
      | _, _ => .no
  | .chn o o2 a b c, ρ => (eval a ρ).bind fun p => (eval b p.2).bind fun q =>
      match look q.2 p.1, q.1 with
      | some x, .val y => (Res.of (cmp o x y)).bind fun r =>
          if r = true then (eval c q.2).bind fun s => match look s.2 s.1 with
            | some z => (Res.of (cmp o2 y z)).bind fun r2 => .ok (.val (.bool r2), s.2)
            | none => .no
          else .ok (.val (.bool false), q.2)
      | _, _ => .no
  | .isN a, ρ => (eval a ρ).bind fun p => .ok (.val (.bool (isNone p.1)), p.2)
  | .ntN a, ρ => (eval a ρ).bind fun p => .ok (.val (.bool (!isNone p.1)), p.2)
  | .and a b, ρ => (asB (eval a ρ)).bind fun p => if p.1 = true then eval b p.2 else .ok (.val (.bool false), p.2)
  | .or a b, ρ => (asB (eval a ρ)).bind fun p => if p.1 = true then .ok (.val (.bool true), p.2) else eval b p.2
  | .not a, ρ => (asB (eval a ρ)).bind fun p => .ok (.val (.bool (!p.1)), p.2)
  | .ite c a b, ρ => (asB (eval c ρ)).bind fun p => if p.1 = true then eval a p.2 else eval b p.2
  | .call f as, ρ => (evals as ρ).bind fun p => doCall call f p.1 p.2
  | .b1 f a, ρ => (eval a ρ).bind fun p => match look p.2 p.1 with
      | some x => (Res.of (b1 f x)).bind fun r => .ok (r, p.2)
      | none => .no
  | .b2 f a b, ρ => (eval a ρ).bind fun p => (eval b p.2).bind fun q => match p.1, q.1 with
      | .val x, .val y => (Res.of (b2 f x y)).bind fun r => .ok (r, q.2)
      | _, _ => .no
  | .m1 f a b, ρ => (eval a ρ).bind fun p => if m1k f (look p.2 p.1) = true then (eval b p.2).bind fun q => (match look q.2 p.1, look q.2 q.1 with
      | some x, some y => (Res.of (m1 f x y)).bind fun r => .ok (r, q.2)
      | _, _ => .no) else .no
  | .ix a i, ρ => (eval a ρ).bind fun p => (eval i p.2).bind fun q => match look q.2 p.1, q.1 with
      | some x, .val y => (Res.of (ixD x y)).bind fun r => .ok (r, q.2)
      | _, _ => .no
  | .sl a lo hi, ρ => (eval a ρ).bind fun p => (evalo lo p.2).bind fun q => (evalo hi q.2).bind fun s => match look s.2 p.1 with
      | some x => (Res.of (slD x q.1 s.1)).bind fun r => .ok (r, s.2)
      | none => .no
  | .rev a, ρ => (eval a ρ).bind fun p => match look p.2 p.1 with
      | some x => (Res.of (revD x)).bind fun r => .ok (r, p.2)
      | none => .no
  | .tup es, ρ => (evalv es ρ).bind fun p => if small p.1 then .ok (.val (.tuple p.1), p.2) else .no
  | .lst es, ρ => (evalv es ρ).bind fun p => if small p.1 then .ok (.tmp (.lst p.1), p.2) else .no
  | .dnew t, ρ => .ok (.tmp (.dic t []), ρ)
  | .dsp k v, ρ => (eval k ρ).bind fun p => (eval v p.2).bind fun q => match p.1, fix q.2 q.1 with
      | .val kd, some (x, ρ') => if keyT true kd = true then .ok (.tmp (.dic true [(kd, x)]), ρ') else .no
      | _, _ => .no
  | .dvals i, ρ => match ρ[i]? with
      | some (.own (.dic false kvs)) => .ok (.tmp (.lst (kvs.map (·.2))), ρ)
      | _ => .no
  | .din neg a i, ρ => (eval a ρ).bind fun p => match p.1, p.2[i]? with
      | .val kd, some (.own (.dic t kvs)) => if keyT t kd = true then .ok (.val (.bool (neg != kvs.any (eqv kd ·.1))), p.2) else .no
      | _, _ => .no
  | .rg1 l a, ρ => (eval a ρ).bind fun p => match p.1 with
      | .val (.int i) => if rangeOk i = true then .ok (if l = true then .tmp (.lst (rangeL 0 i)) else .val (.tuple (rangeL 0 i)), p.2) else .no
      | _ => .no
  | .rg2 l a b, ρ => (eval a ρ).bind fun p => (eval b p.2).bind fun q => match p.1, q.1 with
      | .val (.int i), .val (.int j) => if (rangeOk i && rangeOk j) = true then .ok (if l = true then .tmp (.lst (rangeL i j)) else .val (.tuple (rangeL i j)), q.2) else .no
      | _, _ => .no
  | .lc elt tg it c vs, ρ => (walk it ρ).bind fun p => match wipeE p.2 vs with
      | none => .no
      | some ρ1 => (loopC (fun d ρ => match putTg ρ tg d with
          | none => .no
          | some ρ2 => (test c ρ2).bind fun t =>
            if t.1 then (eval elt t.2).bind fun r => match fix r.2 r.1 with
              | none => .no
              | some (x, ρ4) => (Res.of (wipeE ρ4 vs)).bind fun ρ5 => .ok (some x, ρ5)
            else (Res.of (wipeE t.2 vs)).bind fun ρ5 => .ok (none, ρ5)) p.1.1 [] ρ1).bind fun q =>
          (Res.of (unlockE (backE p.2 vs q.2) p.1.2)).bind fun ρ' => .ok (.tmp (.lst q.1), ρ')
  | .lc2 elt tg it tg' it' vs vs1, ρ => (walk it ρ).bind fun p => match wipeE p.2 vs with
      | none => .no
      | some ρ1 => (loopA (fun d acc ρ => match putTg ρ tg d with
          | none => .no
          | some ρ2 => (walk it' ρ2).bind fun p' => match p'.1.2, wipeE p'.2 vs1 with
            | none, some ρ3 => (loopC (fun d ρ => match putTg ρ tg' d with
                | none => .no
                | some ρ2 => (Res.ok (true, ρ2)).bind fun (t : Bool × Env) =>
                  if t.1 then (eval elt t.2).bind fun r => match fix r.2 r.1 with
                    | none => .no
                    | some (x, ρ4) => (Res.of (wipeE ρ4 vs1)).bind fun ρ5 => .ok (some x, ρ5)
                  else (Res.of (wipeE t.2 vs1)).bind fun ρ5 => .ok (none, ρ5)) p'.1.1 acc ρ3).bind fun q' => (Res.of (wipeE q'.2 vs)).bind fun ρ8 => .ok (q'.1, ρ8)
            | _, _ => .no) p.1.1 [] ρ1).bind fun q =>
          (Res.of (unlockE (backE p.2 vs q.2) p.1.2)).bind fun ρ' => .ok (.tmp (.lst q.1), ρ')
  | .dc k v tg it c vs, ρ => (walk it ρ).bind fun p => match wipeE p.2 vs with
      | none => .no
      | some ρ1 => (loopC (fun d ρ => match putTg ρ tg d with
          | none => .no
          | some ρ2 => (test c ρ2).bind fun t =>
            if t.1 then (eval k t.2).bind fun r => match r.1 with
              | .val kd => (eval v r.2).bind fun r' => match fix r'.2 r'.1 with
                | none => .no
                | some (x, ρ4) => if keyT false kd then (Res.of (wipeE ρ4 vs)).bind fun ρ5 => .ok (some (.tuple [kd, x]), ρ5) else .no
              | _ => .no
            else (Res.of (wipeE t.2 vs)).bind fun ρ5 => .ok (none, ρ5)) p.1.1 [] ρ1).bind fun q =>
          (Res.of (unlockE (backE p.2 vs q.2) p.1.2)).bind fun ρ' => (Res.of (mkDict q.1)).bind fun kvs => .ok (.tmp (.dic false (mkDictL kvs)), ρ')
  | .app i a, ρ => if (ownL ρ i).isSome = true then (eval a ρ).bind fun p => match fix p.2 p.1 with
      | none => .no
      | some (x, ρ') => match ownL ρ' i with
        | some xs => if small xs then .ok (.val .none, ρ'.set i (.own (.lst (xs ++ [x])))) else .no
        | none => .no
      else .no
  | .pop i a, ρ => if (ownL ρ i).isSome = true then (evalo a ρ).bind fun p => match ownL p.2 i with
      | some xs => (match p.1 with
        | none => (match xs[xs.length - 1]? with | some x => .ok (.val x, p.2.set i (.own (.lst xs.dropLast))) | none => .no)
        | some j => if 0 ≤ j ∧ j < 1000000 then (match xs[j.toNat]? with | some x => .ok (.val x, p.2.set i (.own (.lst (xs.eraseIdx j.toNat)))) | none => .no) else .no)
      | none => .no
      else .no
  | .get i k d, ρ => (eval k ρ).bind fun p => (eval d p.2).bind fun q => match p.1, q.1, (q.2[i]?).bind view with
      | .val kd, .val x, some (.dict kvs) => if keyOk kd then .ok (.val (((kvs.find? (eqv kd ·.1)).map (·.2)).getD x), q.2) else .no
      | _, _, _ => .no
/-- the arguments of a call -/
def evals : Es → Env → Res (List R × Env)
  | .nil, ρ => .ok ([], ρ)
  | .cons e es, ρ => (eval e ρ).bind fun p => (evals es p.2).bind fun q => .ok (p.1 :: q.1, q.2)
  | .star _ _, _ => .no
/-- the items of a display: values from now on -/
def evalv : Es → Env → Res (List D × Env)
  | .nil, ρ => .ok ([], ρ)
  | .cons e es, ρ => (eval e ρ).bind fun p => match fix p.2 p.1 with
      | none => .no
      | some (x, ρ') => (evalv es ρ').bind fun q => .ok (x :: q.1, q.2)
  | .star e es, ρ => (eval e ρ).bind fun p => match p.1 with
      | .val d => (Res.of (items d)).bind fun xs => (evalv es p.2).bind fun q => .ok (xs ++ q.1, q.2)
      | _ => .no
def evalo : Eo → Env → Res (Option Int × Env)
  | .no, ρ => .ok (none, ρ)
  | .so e, ρ => (eval e ρ).bind fun p => match p.1 with
      | .val (.int i) => .ok (some i, p.2)
      | _ => .no
def test : Eo → Env → Res (Bool × Env)
  | .no, ρ => .ok (true, ρ)
  | .so e, ρ => asB (eval e ρ)
/-- items, the locked name; the environment -/
def walk : It → Env → Res ((List D × Option Nat) × Env)
  | .r1 a, ρ => (eval a ρ).bind fun p => match p.1 with
      | .val (.int i) => if rangeOk i then .ok ((rangeL 0 i, none), p.2) else .no
      | _ => .no
  | .r2 a b, ρ => (eval a ρ).bind fun p => (eval b p.2).bind fun q => match p.1, q.1 with
      | .val (.int i), .val (.int j) => if rangeOk i && rangeOk j then .ok ((rangeL i j, none), q.2) else .no
      | _, _ => .no
  | .r3 a b c, ρ => (eval a ρ).bind fun p => (eval b p.2).bind fun q => (eval c q.2).bind fun r => match p.1, q.1, r.1 with
      | .val (.int i), .val (.int j), .val (.int k) => if rangeOk i && rangeOk j && rangeOk k && decide (0 < k) then .ok ((stepL i j k, none), r.2) else .no
      | _, _, _ => .no
  | .envar i, ρ => if isStr ((ρ[i]?).bind view) = true then .no else (Res.of (lockV ρ i)).bind fun q => .ok ((enumL 0 q.1.1, q.1.2), q.2)
  | .enu a, ρ => (eval a ρ).bind fun p => if isStr (look p.2 p.1) = true then .no else (Res.of (walkR p.1)).bind fun xs => .ok ((enumL 0 xs, none), p.2)
  | .var i, ρ => Res.of (lockV ρ i)
  | .val a, ρ => (eval a ρ).bind fun p => (Res.of (walkR p.1)).bind fun xs => .ok ((xs, none), p.2)
end

def hasObj (ρ : Env) (i : Nat) : Bool := match ρ[i]? with
  | some (.own _) => true
  | _ => false
/-- xs[j] = x, d[k] = x -/
def storeD (ρ : Env) (i : Nat) (k x : D) : Option Env := match ρ[i]? with
  | some (.own (.lst xs)) => (match k with
    | .int j => (place xs.length j).map fun n => ρ.set i (.own (.lst (xs.set n x)))
    | _ => none)
  | some (.own (.dic t kvs)) => if (keyT t k && decide (kvs.length < lim)) = true then some (ρ.set i (.own (.dic t (setKey kvs k x)))) else none
  | _ => none
def augI : Bi → Int → Int → Option Int
  | .add, x, y => some (x + y)
  | .sub, x, y => some (x - y)
  | _, _, _ => none
/-- what a return hands back: a parameter's object is a value from now on, an own one goes along -/
def retOf (np : Nat) (ρ : Env) : R → Option (R × Env)
  | .val d => some (.val d, ρ)
  | .tmp o => some (.tmp o, ρ)
  | .loc i => if i < np then (fix ρ (.loc i)).map fun p => (.val p.1, p.2) else match ρ[i]? with
    | some (.own o) => some (.tmp o, ρ.set i .un)
    | some (.lck o) => some (.tmp o, ρ.set i .un)
    | some (.val d) => some (.val d, ρ)
    | _ => none
def puts : Env → List Nat → List R → Option Env
  | ρ, [], [] => some ρ
  | ρ, i :: is, r :: rs => (put ρ i r).bind fun ρ' => puts ρ' is rs
  | _, _, _ => none
/-- the objects of names are values from now on -/
def fixLocs : Env → List R → Option (List R × Env)
  | ρ, [] => some ([], ρ)
  | ρ, .loc i :: rs => (fix ρ (.loc i)).bind fun p => (fixLocs p.2 rs).map fun q => (.val p.1 :: q.1, q.2)
  | ρ, r :: rs => (fixLocs ρ rs).map fun q => (r :: q.1, q.2)
/-- behind an error: the suite -/
def suite (ρ : Env) (f : D) : U → Option Env
  | .set i d => putV ρ i d
  | .inc i n => match ρ[i]? with
    | some (.val (.int k)) => putV ρ i (.int (k + n))
    | _ => none
  | .app i d => match ρ[i]? with
    | some (.own (.lst xs)) => if small xs then some (ρ.set i (.own (.lst (xs ++ [d])))) else none
    | _ => none
  | .setF i w _ => putV ρ i (.tuple [w, f])
  | .appF i _ => match ρ[i]? with
    | some (.own (.lst xs)) => if small xs then some (ρ.set i (.own (.lst (xs ++ [f])))) else none
    | _ => none
def caught (ρ : Env) (c : Nat) (f : D) : List (Nat × Option Nat × U) → Res (Env × Option R)
  | [] => .exc c f ρ
  | (c', n, u) :: hs => if c = c' then (match n with
      | none => (Res.of (suite ρ f u)).bind fun ρ' => .ok (ρ', none)
      | some e => (Res.of (suite ρ f u)).bind fun ρ' => .ok (ρ'.set e .un, none)) else caught ρ c f hs

variable (np : Nat)
mutual
def exec : S → Env → Res (Env × Option R)
  | .asg i e, ρ => (eval call e ρ).bind fun p => (Res.of (put p.2 i p.1)).bind fun ρ' => .ok (ρ', none)
  | .par is es, ρ => (evals call es ρ).bind fun p => (Res.of (fixLocs p.2 p.1)).bind fun q => (Res.of (puts q.2 is q.1)).bind fun ρ' => .ok (ρ', none)
  | .unp is e, ρ => (eval call e ρ).bind fun p => match p.1 with
      | .val (.tuple ds) => (Res.of (putVs p.2 is ds)).bind fun ρ' => .ok (ρ', none)
      | _ => .no
  | .sub i ix e, ρ => (eval call e ρ).bind fun p => match fix p.2 p.1 with
      | none => .no
      | some (x, ρ1) => if hasObj ρ1 i = true then (eval call ix ρ1).bind fun q => match q.1 with
        | .val kd => (Res.of (storeD q.2 i kd x)).bind fun ρ' => .ok (ρ', none)
        | _ => .no
        else .no
  | .swp i a b c d, ρ => if hasObj ρ i = true then (eval call (.ix (.var i) c) ρ).bind fun p => (eval call (.ix (.var i) d) p.2).bind fun q => match p.1, q.1 with
      | .val x, .val y => if hasObj q.2 i = true then (eval call a q.2).bind fun r => (match r.1 with
        | .val j => (Res.of (storeD r.2 i j x)).bind fun ρ1 => (eval call b ρ1).bind fun s => (match s.1 with
          | .val j' => (Res.of (storeD s.2 i j' y)).bind fun ρ2 => .ok (ρ2, none)
          | _ => .no)
        | _ => .no)
        else .no
      | _, _ => .no
      else .no
  | .aug i o e, ρ => match ρ[i]? with
      | some (.val (.int x)) => (eval call e ρ).bind fun p => match p.1 with
        | .val (.int y) => (Res.of (augI o x y)).bind fun z => (Res.of (putV p.2 i (.int z))).bind fun ρ' => .ok (ρ', none)
        | _ => .no
      | _ => .no
  | .exp e, ρ => (eval call e ρ).bind fun p => .ok (p.2, none)
  | .ret e, ρ => (eval call e ρ).bind fun p => (Res.of (retOf np p.2 p.1)).bind fun q => .ok (q.2, some q.1)
  | .cond c a b, ρ => (asB (eval call c ρ)).bind fun p => if p.1 = true then execs a p.2 else execs b p.2
  | .loop tg it b, ρ => (walk call it ρ).bind fun p =>
      (loopF (fun d ρ => match putTg ρ tg d with
        | none => .no
        | some ρ1 => execs b ρ1) p.1.1 p.2).bind fun q => match q.2 with
          | none => (Res.of (unlockE q.1 p.1.2)).bind fun ρ' => .ok (ρ', none)
          | some s => .ok (q.1, some s)
  | .whil c b, ρ => loopW (fun ρ => asB (eval call c ρ)) (execs b) 1000000 ρ
  | .rais c .no, ρ => .exc c .none ρ
  | .rais c (.so e), ρ => (eval call e ρ).bind fun p => match fix p.2 p.1 with
      | none => .no
      | some (x, ρ') => .exc c x ρ'
  | .tri b hs, ρ => match execs b ρ with
      | .ok p => .ok p
      | .exc c f ρ' => caught ρ' c f hs
      | .no => .no
  | .pass, ρ => .ok (ρ, none)
  | .stuck, _ => .no
def execs : Ss → Env → Res (Env × Option R)
  | .nil, ρ => .ok (ρ, none)
  | .cons s r, ρ => match exec s ρ with
      | .ok (ρ', none) => execs r ρ'
      | .ok (ρ', some v) => .ok (ρ', some v)
      | .exc c f ρ' => .exc c f ρ'
      | .no => .no
end
end

/-- own parameters go to such as are not stored to -/
def lendOk (reb : List Nat) : Nat → List Slot → Bool
  | _, [] => true
  | i, .val _ :: r => lendOk reb (i + 1) r
  | i, .own _ :: r => !reb.contains i && lendOk reb (i + 1) r
  | i, .ro _ :: r => lendOk reb (i + 1) r
  | _, _ => false

/-- the parameters behind a call; those that were stored to are not told -/
def mask (reb : List Nat) : Nat → List Slot → List Slot
  | _, [] => []
  | i, s :: r => (if reb.contains i then .un else s) :: mask reb (i + 1) r

def callF (tab : Nat → Option Def) : Nat → CallT
  | 0, _, _ => .no
  | k + 1, f, args => match tab f with
    | none => .no
    | some d => if args.length = d.np ∧ lendOk d.reb 0 args = true then
        match execs (callF tab k) d.np d.body (args ++ List.replicate d.ns .un) with
        | .ok (ρ, none) => .ok (.val .none, mask d.reb 0 (ρ.take d.np))
        | .ok (ρ, some r) => .ok (r, mask d.reb 0 (ρ.take d.np))
        | .exc c f ρ => .exc c f (mask d.reb 0 (ρ.take d.np))
        | .no => .no
      else .no
end Mlg
/-! Sound1: values and states of the small language over the layer's heaps. -/
namespace Msd
open PySem PySem.Spec PyProof.Rows L2 Mlg
abbrev Frag := PySem.W.Frag
abbrev St := L2.St
abbrev Env := Mlg.Env
abbrev Slot := Mlg.Slot
abbrev R := Mlg.R
abbrev O := Mlg.O
abbrev D := Mlg.D

/-! ### data -/
def keyD : Key → D
  | .inl i => .int i
  | .inr x => .str x
mutual
inductive Rep (K : Frag) (F : Hp) : V → D → Prop
  | non : Rep K F .non .none
  | bl (b : Bool) : Rep K F (.bl b) (.bool b)
  | int (i : Int) : Rep K F (.int i) (.int i)
  | str (x : Str) : Rep K F (.str x) (.str x)
  | lst {a : Addr} {vs : List V} {ds : List D} : F a = some (.lst vs) → Reps K F vs ds → Rep K F (.ref a) (.list ds)
  | tup {a : Addr} {vs : List V} {ds : List D} : F a = some (.tup vs) → Reps K F vs ds → Rep K F (.ref a) (.tuple ds)
  | dk {a : Addr} {ks : List Key} {vs : List V} {ds : List D} : F a = some (.dK (ks.zip vs)) → ks.length = vs.length → Reps K F vs ds → Rep K F (.ref a) (.dict ((ks.map keyD).zip ds))
  | dt {a : Addr} {ks : List (List Key)} {vs : List V} {ds : List D} : F a = some (.dT (ks.zip vs)) → ks.length = vs.length → Reps K F vs ds → Rep K F (.ref a) (.dict ((ks.map fun k => PyData.tuple (k.map keyD)).zip ds))
inductive Reps (K : Frag) (F : Hp) : List V → List D → Prop
  | nil : Reps K F [] []
  | cons {v : V} {vs : List V} {d : D} {ds : List D} : Rep K F v d → Reps K F vs ds → Reps K F (v :: vs) (d :: ds)
end

theorem sqT_mono {K : Frag} {H H' : Hp} {a : Addr} {xs : List V} (e : Same H H') (h : SqT K H a xs) : SqT K H' a xs := by
  rcases h with (h | ⟨o, h⟩) | h
  · exact .inl (.inl (e _ _ h))
  · exact .inl (.inr ⟨o, e _ _ h⟩)
  · exact .inr h
mutual
theorem Rep.mono {K : Frag} {F F' : Hp} (e : Same F F') : ∀ {v : V} {d : D}, Rep K F v d → Rep K F' v d
  | _, _, .non => .non
  | _, _, .bl b => .bl b
  | _, _, .int i => .int i
  | _, _, .str x => .str x
  | _, _, .lst h r => .lst (e _ _ h) (Reps.mono e r)
  | _, _, .tup h r => .tup (e _ _ h) (Reps.mono e r)
  | _, _, .dk h l r => .dk (e _ _ h) l (Reps.mono e r)
  | _, _, .dt h l r => .dt (e _ _ h) l (Reps.mono e r)
theorem Reps.mono {K : Frag} {F F' : Hp} (e : Same F F') : ∀ {vs : List V} {ds : List D}, Reps K F vs ds → Reps K F' vs ds
  | _, _, .nil => .nil
  | _, _, .cons h r => .cons (Rep.mono e h) (Reps.mono e r)
end
section
variable {K : Frag} {F F' H H' : Hp}
theorem Reps.length : ∀ {vs : List V} {ds : List D}, Reps K F vs ds → vs.length = ds.length
  | _, _, .nil => rfl
  | _, _, .cons _ r => by simp [Reps.length r]
theorem Reps.append : ∀ {vs ws : List V} {ds es : List D}, Reps K F vs ds → Reps K F ws es → Reps K F (vs ++ ws) (ds ++ es)
  | _, _, _, _, .nil, s => s
  | _, _, _, _, .cons h r, s => .cons h (Reps.append r s)
theorem Reps.get : ∀ {vs : List V} {ds : List D} {i : Nat} {v : V}, Reps K F vs ds → vs[i]? = some v → ∃ d, ds[i]? = some d ∧ Rep K F v d
  | _, _, _, _, .nil, e => by simp at e
  | _, _, 0, _, .cons h r, e => by simp at e; subst e; exact ⟨_, rfl, h⟩
  | _, _, i + 1, v, .cons h r, e => by
    obtain ⟨d, h1, h2⟩ := Reps.get (i := i) r (by simpa using e)
    exact ⟨d, by simpa using h1, h2⟩
theorem Reps.get' : ∀ {vs : List V} {ds : List D} {i : Nat} {d : D}, Reps K F vs ds → ds[i]? = some d → ∃ v, vs[i]? = some v ∧ Rep K F v d
  | _, _, _, _, .nil, e => by simp at e
  | _, _, 0, _, .cons h r, e => by simp at e; subst e; exact ⟨_, rfl, h⟩
  | _, _, i + 1, v, .cons h r, e => by
    obtain ⟨d, h1, h2⟩ := Reps.get' (i := i) r (by simpa using e)
    exact ⟨d, by simpa using h1, h2⟩
theorem Reps.set {v : V} {d : D} (h : Rep K F v d) : ∀ {vs : List V} {ds : List D} (i : Nat), Reps K F vs ds → Reps K F (vs.set i v) (ds.set i d)
  | _, _, _, .nil => .nil
  | _, _, 0, .cons _ r => .cons h r
  | _, _, i + 1, .cons q r => .cons q (Reps.set h i r)
theorem Reps.drop : ∀ {vs : List V} {ds : List D} (n : Nat), Reps K F vs ds → Reps K F (vs.drop n) (ds.drop n)
  | _, _, 0, r => r
  | _, _, _ + 1, .nil => .nil
  | _, _, n + 1, .cons _ r => Reps.drop n r
theorem Reps.take : ∀ {vs : List V} {ds : List D} (n : Nat), Reps K F vs ds → Reps K F (vs.take n) (ds.take n)
  | _, _, 0, _ => .nil
  | _, _, _ + 1, .nil => .nil
  | _, _, n + 1, .cons h r => .cons h (Reps.take n r)
theorem Reps.eraseIdx : ∀ {vs : List V} {ds : List D} (n : Nat), Reps K F vs ds → Reps K F (vs.eraseIdx n) (ds.eraseIdx n)
  | _, _, _, .nil => .nil
  | _, _, 0, .cons _ r => r
  | _, _, n + 1, .cons h r => .cons h (Reps.eraseIdx n r)
theorem Reps.reverse : ∀ {vs : List V} {ds : List D}, Reps K F vs ds → Reps K F vs.reverse ds.reverse
  | _, _, .nil => .nil
  | _, _, .cons h r => by
    rw [List.reverse_cons, List.reverse_cons]
    exact Reps.append (Reps.reverse r) (.cons h .nil)
theorem Reps.flat : ∀ (n : Nat) {vs : List V} {ds : List D}, Reps K F vs ds → Reps K F (List.replicate n vs).flatten (List.replicate n ds).flatten
  | 0, _, _, _ => .nil
  | n + 1, _, _, r => by
    rw [List.replicate_succ, List.replicate_succ, List.flatten_cons, List.flatten_cons]
    exact Reps.append r (Reps.flat n r)

/-! ### objects of one owner -/
def ObjR (K : Frag) (F H : Hp) (p : Addr) : O → Prop
  | .lst ds => ∃ vs, H p = some (.lst vs) ∧ Reps K F vs ds
  | .dic false kvs => ∃ (ks : List Key) (vs : List V) (ds : List D), H p = some (.dK (ks.zip vs)) ∧ ks.length = vs.length ∧ Reps K F vs ds ∧ kvs = (ks.map keyD).zip ds
  | .dic true kvs => ∃ (ks : List (List Key)) (vs : List V) (ds : List D), H p = some (.dT (ks.zip vs)) ∧ ks.length = vs.length ∧ Reps K F vs ds ∧ kvs = (ks.map fun k => PyData.tuple (k.map keyD)).zip ds
theorem ObjR.at {p : Addr} : ∀ {o : O}, ObjR K F H p o → ∃ u, H p = some u
  | .lst _, ⟨_, h, _⟩ => ⟨_, h⟩
  | .dic false _, ⟨_, _, _, h, _⟩ => ⟨_, h⟩
  | .dic true _, ⟨_, _, _, h, _⟩ => ⟨_, h⟩
theorem ObjR.move {p : Addr} (e : Same F F') (k : ∀ u, H p = some u → H' p = some u) : ∀ {o : O}, ObjR K F H p o → ObjR K F' H' p o
  | .lst _, ⟨vs, h, r⟩ => ⟨vs, k _ h, r.mono e⟩
  | .dic false _, ⟨ks, vs, ds, h, l, r, z⟩ => ⟨ks, vs, ds, k _ h, l, r.mono e, z⟩
  | .dic true _, ⟨ks, vs, ds, h, l, r, z⟩ => ⟨ks, vs, ds, k _ h, l, r.mono e, z⟩
/-- frozen: a value -/
theorem ObjR.rep {p : Addr} (hF : F p = none) : ∀ {o : O}, ObjR K F H p o → ∃ u, H p = some u ∧ Rep K (upd F p u) (.ref p) o.toD
  | .lst _, ⟨vs, h, r⟩ => ⟨_, h, .lst upd_same (r.mono fun b u e => by rw [upd_ne (ne_of_none e hF)]; exact e)⟩
  | .dic false _, ⟨ks, vs, ds, h, l, r, z⟩ => ⟨_, h, by
      subst z
      exact .dk upd_same l (r.mono fun b u e => by rw [upd_ne (ne_of_none e hF)]; exact e)⟩
  | .dic true _, ⟨ks, vs, ds, h, l, r, z⟩ => ⟨_, h, by
      subst z
      exact .dt upd_same l (r.mono fun b u e => by rw [upd_ne (ne_of_none e hF)]; exact e)⟩
theorem same_new {p : Addr} {u : HO} (hF : F p = none) : Same F (upd F p u) := fun b o e => by rw [upd_ne (ne_of_none e hF)]; exact e

/-! ### states -/
def isOwn : Slot → Option O
  | .own o => some o
  | .lck o => some o
  | _ => none
def Own (ρ : Env) (σ : St) (p : Addr) : Prop := ∃ (i : Nat) (s : Slot) (o : O), ρ[i]? = some s ∧ isOwn s = some o ∧ σ[i]? = some (some (.ref p))
/-- .. and may change -/
def OwnU (ρ : Env) (σ : St) (p : Addr) : Prop := ∃ (i : Nat) (o : O), ρ[i]? = some (.own o) ∧ σ[i]? = some (some (.ref p))
theorem OwnU.own {ρ : Env} {σ : St} {p : Addr} (h : OwnU ρ σ p) : Own ρ σ p := let ⟨i, o, a, b⟩ := h; ⟨i, _, o, a, rfl, b⟩
def SlotR (K : Frag) (F H : Hp) (σ : St) (i : Nat) : Slot → Prop
  | .un => True
  | .val d => ∃ v, σ[i]? = some (some v) ∧ Rep K F v d
  | .own o => ∃ p, σ[i]? = some (some (.ref p)) ∧ F p = none ∧ ObjR K F H p o
  | .lck o => ∃ p, σ[i]? = some (some (.ref p)) ∧ F p = none ∧ ObjR K F H p o
  | .ro xs => ∃ a vs, σ[i]? = some (some (.ref a)) ∧ SqL K F a vs ∧ Reps K F vs xs
structure Sim (K : Frag) (ρ : Env) (F : Hp) (σ : St) (H : Hp) : Prop where
  fh : Same F H
  len : ρ.length = σ.length
  slot : ∀ (i : Nat) (s : Slot), ρ[i]? = some s → SlotR K F H σ i s
  sep : ∀ (i j : Nat) (si sj : Slot) (oi oj : O) (p : Addr), ρ[i]? = some si → ρ[j]? = some sj → isOwn si = some oi → isOwn sj = some oj → σ[i]? = some (some (.ref p)) → σ[j]? = some (some (.ref p)) → i = j
/-- no tuple stands there -/
def NT (H : Hp) (p : Addr) : Prop := ∀ vs, H p ≠ some (.tup vs)
theorem NT.keep {H H1 : Hp} {p : Addr} (h2 : H p ≠ none) (h4 : NT H p) (k : ∀ o, H p = some o → H1 p = some o) : NT H1 p := fun vs e => by
  cases q : H p with
  | none => exact h2 q
  | some u =>
    have := k u q
    rw [e] at this
    cases this
    exact h4 vs q
theorem ObjR.nt {p : Addr} : ∀ {o : O}, ObjR K F H p o → NT H p
  | .lst _, ⟨_, h, _⟩, vs, e => by rw [h] at e; cases e
  | .dic false _, ⟨_, _, _, h, _⟩, vs, e => by rw [h] at e; cases e
  | .dic true _, ⟨_, _, _, h, _⟩, vs, e => by rw [h] at e; cases e
structure Step (ρ : Env) (σ : St) (F H : Hp) (ρ' : Env) (σ' : St) (F' H' : Hp) : Prop where
  ext : Same F F'
  keep : ∀ a o, H a = some o → ¬ OwnU ρ σ a → H' a = some o
  dom : ∀ a, H' a = none → H a = none
  own : ∀ p, Own ρ' σ' p → Own ρ σ p ∨ H p = none
  ownU : ∀ p, OwnU ρ' σ' p → OwnU ρ σ p ∨ H p = none
  frz : ∀ p, F p = none → H p ≠ none → ¬ OwnU ρ σ p → NT H p → F' p = none
theorem Step.refl {ρ : Env} {σ : St} : Step ρ σ F H ρ σ F H := ⟨.refl _, fun _ _ h _ => h, fun _ h => h, fun _ h => .inl h, fun _ h => .inl h, fun _ h _ _ _ => h⟩
theorem Step.trans {ρ ρ1 ρ2 : Env} {σ σ1 σ2 : St} {F1 F2 H1 H2 : Hp} (a : Step ρ σ F H ρ1 σ1 F1 H1) (b : Step ρ1 σ1 F1 H1 ρ2 σ2 F2 H2) : Step ρ σ F H ρ2 σ2 F2 H2 where
  ext := a.ext.trans b.ext
  keep := fun c o h n => b.keep c o (a.keep c o h n) fun q => (a.ownU c q).elim n fun z => by rw [z] at h; cases h
  dom := fun c h => a.dom c (b.dom c h)
  own := fun p q => (b.own p q).elim (fun z => a.own p z) fun z => .inr (a.dom p z)
  ownU := fun p q => (b.ownU p q).elim (fun z => a.ownU p z) fun z => .inr (a.dom p z)
  frz := fun p h1 h2 h3 h4 => b.frz p (a.frz p h1 h2 h3 h4) (fun z => h2 (a.dom p z)) (fun q => (a.ownU p q).elim h3 h2) (h4.keep h2 fun o e => a.keep p o e h3)
/-- no name's object gets another one; frozen ones aside -/
theorem own_sub {ρ ρ' : Env} {σ : St} (h : ∀ (i : Nat) (s : Slot) (o : O), ρ'[i]? = some s → isOwn s = some o → ∃ (s' : Slot) (o' : O), ρ[i]? = some s' ∧ isOwn s' = some o') (p : Addr) (q : Own ρ' σ p) : Own ρ σ p := by
  obtain ⟨i, s, o, h1, h2, h3⟩ := q
  obtain ⟨s', o', h4, h5⟩ := h i s o h1 h2
  exact ⟨i, s', o', h4, h5, h3⟩
variable {ρ ρ' : Env} {σ σ' : St}
theorem Sim.ownAt (S : Sim K ρ F σ H) {p : Addr} (q : Own ρ σ p) : F p = none ∧ ∃ u, H p = some u := by
  obtain ⟨i, s, o, h1, h2, h3⟩ := q
  have := S.slot i s h1
  cases s with
  | un => cases h2
  | val d => cases h2
  | own o' =>
    obtain ⟨p', e, f, r⟩ := this
    rw [h3] at e
    cases e
    exact ⟨f, r.at⟩
  | lck o' =>
    obtain ⟨p', e, f, r⟩ := this
    rw [h3] at e
    cases e
    exact ⟨f, r.at⟩
  | ro xs => cases h2
theorem Sim.ownNT (S : Sim K ρ F σ H) {p : Addr} (q : Own ρ σ p) : NT H p := by
  obtain ⟨i, s, o, h1, h2, h3⟩ := q
  have := S.slot i s h1
  cases s with
  | un => cases h2
  | val d => cases h2
  | own o' =>
    obtain ⟨p', e, f, r⟩ := this
    rw [h3] at e
    cases e
    exact r.nt
  | lck o' =>
    obtain ⟨p', e, f, r⟩ := this
    rw [h3] at e
    cases e
    exact r.nt
  | ro xs => cases h2
theorem Sim.new (S : Sim K ρ F σ H) {p : Addr} (h : H p = none) : F p = none ∧ ¬ Own ρ σ p :=
  ⟨S.fh.free h, fun q => by obtain ⟨_, u, e⟩ := S.ownAt q; rw [h] at e; cases e⟩
/-- a slot's word where the heaps grow and its own object stays -/
theorem SlotR.move {i : Nat} {s : Slot} (h : SlotR K F H σ i s) (e : Same F F') (k : ∀ p u, σ[i]? = some (some (.ref p)) → (∃ o, isOwn s = some o) → H p = some u → H' p = some u ∧ F' p = none) : SlotR K F' H' σ i s := by
  cases s with
  | un => trivial
  | val d => obtain ⟨v, h1, h2⟩ := h; exact ⟨v, h1, h2.mono e⟩
  | own o =>
    obtain ⟨p, h1, h2, h3⟩ := h
    obtain ⟨u, hu⟩ := h3.at
    exact ⟨p, h1, (k p u h1 ⟨o, rfl⟩ hu).2, h3.move e fun u hu => (k p u h1 ⟨o, rfl⟩ hu).1⟩
  | lck o =>
    obtain ⟨p, h1, h2, h3⟩ := h
    obtain ⟨u, hu⟩ := h3.at
    exact ⟨p, h1, (k p u h1 ⟨o, rfl⟩ hu).2, h3.move e fun u hu => (k p u h1 ⟨o, rfl⟩ hu).1⟩
  | ro xs => obtain ⟨a, vs, h1, h2, h3⟩ := h; exact ⟨a, vs, h1, e.seq h2, h3.mono e⟩
/-- a new object that nobody of ours holds -/
theorem Sim.laid (S : Sim K ρ F σ H) {p : Addr} {u : HO} (h : H p = none) : Sim K ρ F σ (upd H p u) := by
  refine ⟨fun b o e => ?_, S.len, fun i s hs => (S.slot i s hs).move (.refl _) fun q u e ⟨o, ho⟩ hu => ?_, S.sep⟩
  · rw [upd_ne (ne_of_none (S.fh b o e) h)]; exact S.fh b o e
  · exact ⟨by rw [upd_ne (ne_of_none hu h)]; exact hu, (S.ownAt ⟨i, s, o, hs, ho, e⟩).1⟩
/-- .. and frozen -/
theorem Sim.laidF (S : Sim K ρ F σ H) {p : Addr} {u : HO} (h : H p = none) : Sim K ρ (upd F p u) σ (upd H p u) := by
  have hF := (S.new h).1
  refine ⟨fun b o e => ?_, S.len, fun i s hs => (S.slot i s hs).move (same_new hF) fun q u e ⟨o, ho⟩ hu => ?_, S.sep⟩
  · by_cases hb : b = p
    · subst hb; rw [upd_same] at e ⊢; exact e
    · rw [upd_ne hb] at e ⊢; exact S.fh b o e
  · have hq := ne_of_none hu h
    exact ⟨by rw [upd_ne hq]; exact hu, by rw [upd_ne hq]; exact (S.ownAt ⟨i, s, o, hs, ho, e⟩).1⟩
theorem Step.laid {p : Addr} {u : HO} (h : H p = none) : Step ρ σ F H ρ σ F (upd H p u) :=
  ⟨.refl _, fun a o e _ => by rw [upd_ne (ne_of_none e h)]; exact e, fun a e => by
    by_cases ha : a = p
    · subst ha; exact h
    · rw [upd_ne ha] at e; exact e, fun _ q => .inl q, fun _ q => .inl q, fun _ e _ _ _ => e⟩
theorem Step.laidF {p : Addr} {u : HO} (hF : F p = none) (h : H p = none) : Step ρ σ F H ρ σ (upd F p u) (upd H p u) :=
  ⟨same_new hF, (Step.laid (ρ := ρ) (σ := σ) (F := F) h).keep, (Step.laid (ρ := ρ) (σ := σ) (F := F) h).dom, fun _ q => .inl q, fun _ q => .inl q, fun q e n _ _ => by rw [upd_ne (show q ≠ p from fun z => n (z ▸ h))]; exact e⟩
/-- a new object is frozen -/
theorem Step.freezeT {p : Addr} {u : HO} (s : Step ρ σ F H ρ' σ' F' H') (h : H p = none) (hF : F' p = none) : Step ρ σ F H ρ' σ' (upd F' p u) H' :=
  ⟨s.ext.trans (same_new hF), s.keep, s.dom, s.own, s.ownU, fun q e n m t => by rw [upd_ne (show q ≠ p from fun z => n (z ▸ h))]; exact s.frz q e n m t⟩
/-- a new object that is tracked stays where it is frozen later -/
theorem Sim.freezeNew (S : Sim K ρ F σ H) {p : Addr} {u : HO} (h : H p = some u) (hF : F p = none) (hn : ¬ Own ρ σ p) : Sim K ρ (upd F p u) σ H := by
  refine ⟨fun b o e => ?_, S.len, fun i s hs => (S.slot i s hs).move (same_new hF) fun q u e ⟨o, ho⟩ hu => ⟨hu, ?_⟩, S.sep⟩
  · by_cases hb : b = p
    · subst hb; rw [upd_same] at e; rw [h]; exact e
    · rw [upd_ne hb] at e; exact S.fh b o e
  · have hq : q ≠ p := fun z => hn ⟨i, s, o, hs, ho, z ▸ e⟩
    rw [upd_ne hq]; exact (S.ownAt ⟨i, s, o, hs, ho, e⟩).1
theorem isOwn_set {i j : Nat} {s t : Slot} {o : O} (hi : i < ρ.length) (h : (ρ.set i t)[j]? = some s) (ho : isOwn s = some o) : (j = i ∧ isOwn t = some o) ∨ (j ≠ i ∧ ρ[j]? = some s) := by
  by_cases e : j = i
  · subst e
    rw [List.getElem?_set_self hi] at h
    cases h
    exact .inl ⟨rfl, ho⟩
  · rw [List.getElem?_set_ne (Ne.symm e)] at h
    exact .inr ⟨e, h⟩
theorem lt_of_get {α : Type} {l : List α} {i : Nat} {x : α} (h : l[i]? = some x) : i < l.length := (List.getElem?_eq_some_iff.mp h).1
/-- a name's object is frozen -/
theorem Sim.freeze (S : Sim K ρ F σ H) {i : Nat} {o : O} (h : ρ[i]? = some (.own o)) : ∃ p u, σ[i]? = some (some (.ref p)) ∧ H p = some u ∧ F p = none ∧ Rep K (upd F p u) (.ref p) o.toD ∧
    Sim K (ρ.set i (.val o.toD)) (upd F p u) σ H ∧ Step ρ σ F H (ρ.set i (.val o.toD)) σ (upd F p u) H := by
  obtain ⟨p, h1, h2, h3⟩ := S.slot i _ h
  obtain ⟨u, hu, hr⟩ := h3.rep h2
  have hi : i < ρ.length := lt_of_get h
  refine ⟨p, u, h1, hu, h2, hr, ⟨fun b o e => ?_, by rw [List.length_set]; exact S.len, fun j s hs => ?_, fun j k sj sk oj ok q hj hk hoj hok ej ek => ?_⟩, same_new h2, fun _ _ e _ => e, fun _ e => e, fun q hq => ?_, fun q hq => ?_, fun q e n m _ => by rw [upd_ne (show q ≠ p from fun z => m ⟨i, o, h, z ▸ h1⟩)]; exact e⟩
  · by_cases hb : b = p
    · subst hb; rw [upd_same] at e; rw [hu]; exact e
    · rw [upd_ne hb] at e; exact S.fh b o e
  · by_cases e : j = i
    · subst e
      rw [List.getElem?_set_self hi] at hs
      cases hs
      exact ⟨.ref p, h1, hr⟩
    · rw [List.getElem?_set_ne (Ne.symm e)] at hs
      refine (S.slot j s hs).move (same_new h2) fun q w eq ⟨o', ho'⟩ hw => ⟨hw, ?_⟩
      have hq : q ≠ p := fun z => e (S.sep j i s _ o' o p hs h ho' rfl (z ▸ eq) h1)
      rw [upd_ne hq]; exact (S.ownAt ⟨j, s, o', hs, ho', eq⟩).1
  · rcases isOwn_set hi hj hoj with ⟨_, z⟩ | ⟨nj, hj⟩
    · cases z
    · rcases isOwn_set hi hk hok with ⟨_, z⟩ | ⟨nk, hk⟩
      · cases z
      · exact S.sep j k sj sk oj ok q hj hk hoj hok ej ek
  · obtain ⟨j, s, o', hj, ho, ej⟩ := hq
    rcases isOwn_set hi hj ho with ⟨_, z⟩ | ⟨nj, hj⟩
    · cases z
    · exact .inl ⟨j, s, o', hj, ho, ej⟩
  · obtain ⟨j, o', hj, ej⟩ := hq
    rcases isOwn_set hi hj rfl with ⟨_, z⟩ | ⟨nj, hj⟩
    · cases z
    · exact .inl ⟨j, o', hj, ej⟩
/-- a name's object is changed -/
theorem Sim.change (S : Sim K ρ F σ H) {i : Nat} {o o' : O} {p : Addr} {u : HO} (h : ρ[i]? = some (.own o)) (hp : σ[i]? = some (some (.ref p))) (hn : ObjR K F (upd H p u) p o') :
    Sim K (ρ.set i (.own o')) F σ (upd H p u) ∧ Step ρ σ F H (ρ.set i (.own o')) σ F (upd H p u) := by
  have hi : i < ρ.length := lt_of_get h
  have hO : Own ρ σ p := ⟨i, _, o, h, rfl, hp⟩
  obtain ⟨hF, w, hw⟩ := S.ownAt hO
  refine ⟨⟨fun b x e => ?_, by rw [List.length_set]; exact S.len, fun j s hs => ?_, fun j k sj sk oj ok q hj hk hoj hok ej ek => ?_⟩, .refl _, fun a x e n => ?_, fun a e => ?_, fun q hq => ?_, fun q hq => ?_, fun _ e _ _ _ => e⟩
  · rw [upd_ne (ne_of_none e hF)]; exact S.fh b x e
  · by_cases e : j = i
    · subst e
      rw [List.getElem?_set_self hi] at hs
      cases hs
      exact ⟨p, hp, hF, hn⟩
    · rw [List.getElem?_set_ne (Ne.symm e)] at hs
      refine (S.slot j s hs).move (.refl _) fun q w eq ⟨o2, ho2⟩ hw => ⟨?_, (S.ownAt ⟨j, s, o2, hs, ho2, eq⟩).1⟩
      have hq : q ≠ p := fun z => e (S.sep j i s _ o2 o p hs h ho2 rfl (z ▸ eq) hp)
      rw [upd_ne hq]; exact hw
  · rcases isOwn_set hi hj hoj with ⟨ej', _⟩ | ⟨nj, hj'⟩
    · rcases isOwn_set hi hk hok with ⟨ek', _⟩ | ⟨nk, hk'⟩
      · rw [ej', ek']
      · exact ej'.trans (S.sep i k _ sk o ok q h hk' rfl hok (ej' ▸ ej) ek)
    · rcases isOwn_set hi hk hok with ⟨ek', _⟩ | ⟨nk, hk'⟩
      · exact (S.sep j i sj _ oj o q hj' h hoj rfl ej (ek' ▸ ek)).trans ek'.symm
      · exact S.sep j k sj sk oj ok q hj' hk' hoj hok ej ek
  · have ha : a ≠ p := fun z => n ⟨i, o, h, z ▸ hp⟩
    rw [upd_ne ha]; exact e
  · by_cases ha : a = p
    · subst ha; rw [upd_same] at e; cases e
    · rw [upd_ne ha] at e; exact e
  · obtain ⟨j, s, o2, hj, ho, ej⟩ := hq
    rcases isOwn_set hi hj ho with ⟨e, _⟩ | ⟨nj, hj⟩
    · exact .inl ⟨i, _, o, h, rfl, e ▸ ej⟩
    · exact .inl ⟨j, s, o2, hj, ho, ej⟩
  · obtain ⟨j, o2, hj, ej⟩ := hq
    rcases isOwn_set hi hj rfl with ⟨e, _⟩ | ⟨nj, hj⟩
    · exact .inl ⟨i, o, h, e ▸ ej⟩
    · exact .inl ⟨j, o2, hj, ej⟩

/-! ### what an expression gives -/
/-- over the state ahead (ρ, σ, H) and behind -/
def RelR (K : Frag) (H : Hp) (σ : St) (ρ' : Env) (F' H' : Hp) (v : V) : R → Prop
  | .val d => Rep K F' v d
  | .tmp o => ∃ p, v = .ref p ∧ F' p = none ∧ ObjR K F' H' p o ∧ ¬ Own ρ' σ p ∧ H p = none
  | .loc i => σ[i]? = some (some v) ∧ ∃ p, v = .ref p
/-- it stands over a further step -/
theorem RelR.step {ρ1 ρ2 : Env} {F1 F2 H0 H1 H2 : Hp} {v : V} {r : R} (S1 : Sim K ρ1 F1 σ H1) (S2 : Sim K ρ2 F2 σ H2) (h : RelR K H0 σ ρ1 F1 H1 v r) (s : Step ρ1 σ F1 H1 ρ2 σ F2 H2) : RelR K H0 σ ρ2 F2 H2 v r := by
  cases r with
  | val d => exact Rep.mono s.ext h
  | tmp o =>
    obtain ⟨p, e, hF, ho, hn, h0⟩ := h
    obtain ⟨u, hu⟩ := ho.at
    have hne : H1 p ≠ none := by rw [hu]; exact fun z => by cases z
    refine ⟨p, e, s.frz p hF hne (fun q => hn q.own) ho.nt, ho.move s.ext fun w hw => s.keep p w hw (fun q => hn q.own), fun q => ?_, h0⟩
    rcases s.own p q with z | z
    · exact hn z
    · exact hne z
  | loc i => exact h
end
end Msd
/-! Sound2: what is wanted behind a piece of the small language; operators. -/
namespace Msd
open PySem PySem.Spec PyProof.Rows L2 Mlg

/-- the error classes: where each stands, the name of its field -/
structure Errs where
  at_ : Nat → Addr
  fld : Nat → Option Str
  nm : Nat → Option Str
def ExcR (T : Errs) (K : Frag) (F H : Hp) (c : Nat) (f : D) (cls : Value) (d : Option Addr) : Prop :=
  cls = .ref (T.at_ c) ∧ (∃ x, T.nm c = some x) ∧ match T.fld c with
    | none => d = none ∧ f = .none
    | some nm => ∃ a v, d = some a ∧ H a = some (.xd [(nm, v)]) ∧ Rep K F v f

section
variable {K : Frag} {T : Errs} {W : WX}
/-- what is wanted of a result, over the state ahead -/
def Out {α β : Type} (T : Errs) (K : Frag) (W : WX) (ρ : Env) (F : Hp) (σ : St) (H : Hp) (Rl : Hp → Env → Hp → Hp → β → α → Prop) (res : Res (α × Env)) (Q : β → Hp → Prop) : Prop :=
  match res with
  | .ok p => ∀ b F' H', Step ρ σ F H p.2 σ F' H' → Sim K p.2 F' σ H' → Rl H p.2 F' H' b p.1 → Q b H'
  | .exc c f ρ' => ∀ F' H' cls d, Step ρ σ F H ρ' σ F' H' → Sim K ρ' F' σ H' → ExcR T K F' H' c f cls d → W cls d σ H'
  | .no => False
/-- the relations that may be read over an earlier heap -/
def Back {α β : Type} (Rl : Hp → Env → Hp → Hp → β → α → Prop) : Prop := ∀ H H1 ρ' F' H' b a, (∀ p, H1 p = none → H p = none) → Rl H1 ρ' F' H' b a → Rl H ρ' F' H' b a
variable {α β γ δ : Type} {ρ ρ1 : Env} {F F1 : Hp} {σ : St} {H H1 : Hp} {Rl : Hp → Env → Hp → Hp → β → α → Prop} {Rm : Hp → Env → Hp → Hp → δ → γ → Prop}
theorem Out.rebase {res : Res (α × Env)} {Q : β → Hp → Prop} (hB : Back Rl) (st : Step ρ σ F H ρ1 σ F1 H1) (h : Out T K W ρ F σ H Rl res Q) : Out T K W ρ1 F1 σ H1 Rl res Q := by
  cases res with
  | ok p => exact fun b F' H' s S r => h b F' H' (st.trans s) S (hB _ _ _ _ _ _ _ st.dom r)
  | exc c f ρ' => exact fun F' H' cls d s S r => h F' H' cls d (st.trans s) S r
  | no => exact h
/-- the first of two -/
theorem Out.bind {res : Res (α × Env)} {k : α × Env → Res (γ × Env)} {Q1 : β → Hp → Prop} {Q : δ → Hp → Prop} (hB : Back Rm) (h : Out T K W ρ F σ H Rm (res.bind k) Q)
    (hk : ∀ a ρ1 b F1 H1, Step ρ σ F H ρ1 σ F1 H1 → Sim K ρ1 F1 σ H1 → Rl H ρ1 F1 H1 b a → Out T K W ρ1 F1 σ H1 Rm (k (a, ρ1)) Q → Q1 b H1) : Out T K W ρ F σ H Rl res Q1 := by
  cases res with
  | ok p => exact fun b F' H' s S r => hk p.1 p.2 b F' H' s S r (Out.rebase hB s h)
  | exc c f ρ' => exact h
  | no => exact h
/-- .. the rest over the state ahead of both -/
theorem Out.bind0 {res : Res (α × Env)} {k : α × Env → Res (γ × Env)} {Q1 : β → Hp → Prop} {Q : δ → Hp → Prop} (h : Out T K W ρ F σ H Rm (res.bind k) Q)
    (hk : ∀ a ρ1 b F1 H1, Step ρ σ F H ρ1 σ F1 H1 → Sim K ρ1 F1 σ H1 → Rl H ρ1 F1 H1 b a → Out T K W ρ F σ H Rm (k (a, ρ1)) Q → Q1 b H1) : Out T K W ρ F σ H Rl res Q1 := by
  cases res with
  | ok p => exact fun b F' H' s S r => hk p.1 p.2 b F' H' s S r h
  | exc c f ρ' => exact h
  | no => exact h
/-- a later part, the rest over the state ahead of all -/
theorem Out.bind1 {res : Res (α × Env)} {k : α × Env → Res (γ × Env)} {Q1 : β → Hp → Prop} {Q : δ → Hp → Prop} (st : Step ρ σ F H ρ1 σ F1 H1) (h : Out T K W ρ F σ H Rm (res.bind k) Q)
    (hk : ∀ a ρ2 b F2 H2, Step ρ1 σ F1 H1 ρ2 σ F2 H2 → Sim K ρ2 F2 σ H2 → Rl H1 ρ2 F2 H2 b a → Out T K W ρ F σ H Rm (k (a, ρ2)) Q → Q1 b H2) : Out T K W ρ1 F1 σ H1 Rl res Q1 := by
  cases res with
  | ok p => exact fun b F' H' s S r => hk p.1 p.2 b F' H' s S r h
  | exc c f ρ' => exact fun F' H' cls d s S r => h F' H' cls d (st.trans s) S r
  | no => exact h
/-- readings -/
def LX (T : Errs) (K : Frag) (W : WX) (Rl : St → Hp → Env → Hp → Hp → β → α → Prop) (m : Env → Res (α × Env)) : St → Hp → (β → Hp → Prop) → Prop :=
  fun σ H Q => ∃ ρ F, Sim K ρ F σ H ∧ Out T K W ρ F σ H (Rl σ) (m ρ) Q
abbrev relE (K : Frag) : St → Hp → Env → Hp → Hp → V → R → Prop := fun σ H ρ' F' H' v r => RelR K H σ ρ' F' H' v r
abbrev LE (T : Errs) (K : Frag) (W : WX) (m : Env → Res (R × Env)) : TE := LX T K W (relE K) m
abbrev relB : St → Hp → Env → Hp → Hp → Bool → R → Prop := fun _ _ _ _ _ b r => r = .val (.bool b)
abbrev LT (T : Errs) (K : Frag) (W : WX) (m : Env → Res (R × Env)) : TT := LX T K W relB m
theorem back_E {σ : St} : Back (relE K σ) := by
  intro H H1 ρ' F' H' v r hd h
  cases r with
  | val d => exact h
  | tmp o => obtain ⟨p, a, b, c, d, e⟩ := h; exact ⟨p, a, b, c, d, hd p e⟩
  | loc i => exact h
theorem back_B {σ : St} : Back (relB σ) := fun _ _ _ _ _ _ _ _ h => h

/-! ### what is seen of a result -/
/-- d stands at v: the whole frozen, or the items -/
def ViewS (K : Frag) (F H : Hp) (v : V) (d : D) : Prop := Rep K F v d ∨ ∃ p o, v = .ref p ∧ d = o.toD ∧ ObjR K F H p o
/-- .. or the script -/
def View (K : Frag) (F H : Hp) (v : V) (d : D) : Prop := ViewS K F H v d ∨ ∃ a vs ds, v = .ref a ∧ d = .list ds ∧ SqL K F a vs ∧ Reps K F vs ds
theorem lookS_ok {H0 : Hp} {v : V} {r : R} {d : D} (S : Sim K ρ F σ H) (h : RelR K H0 σ ρ F H v r) (e : lookS ρ r = some d) : ViewS K F H v d := by
  cases r with
  | val d' => cases e; exact .inl h
  | tmp o => cases e; obtain ⟨p, a, b, c, _, _⟩ := h; exact .inr ⟨p, o, a, rfl, c⟩
  | loc i =>
    have h : σ[i]? = some (some v) := h.1
    unfold lookS at e
    dsimp only at e
    cases q : ρ[i]? with
    | none => rw [q] at e; cases e
    | some s =>
      rw [q] at e
      have hs := S.slot i s q
      cases s with
      | un => cases e
      | val d' => cases e; obtain ⟨v', h1, h2⟩ := hs; rw [h] at h1; cases h1; exact .inl h2
      | own o => cases e; obtain ⟨p, h1, h2, h3⟩ := hs; rw [h] at h1; cases h1; exact .inr ⟨p, o, rfl, rfl, h3⟩
      | lck o => cases e; obtain ⟨p, h1, h2, h3⟩ := hs; rw [h] at h1; cases h1; exact .inr ⟨p, o, rfl, rfl, h3⟩
      | ro xs => cases e
theorem look_ok {H0 : Hp} {v : V} {r : R} {d : D} (S : Sim K ρ F σ H) (h : RelR K H0 σ ρ F H v r) (e : look ρ r = some d) : View K F H v d := by
  cases r with
  | val d' => exact .inl (lookS_ok S h e)
  | tmp o => exact .inl (lookS_ok S h e)
  | loc i =>
    have h' : σ[i]? = some (some v) := h.1
    have e : (ρ[i]?).bind view = some d := e
    cases q : ρ[i]? with
    | none => rw [q] at e; cases e
    | some s =>
      rw [q] at e
      have e : view s = some d := e
      have hs := S.slot i s q
      cases s with
      | un => cases e
      | val d' => exact .inl (lookS_ok S h (by unfold lookS; dsimp only; rw [q]; exact e))
      | own o => exact .inl (lookS_ok S h (by unfold lookS; dsimp only; rw [q]; exact e))
      | lck o => exact .inl (lookS_ok S h (by unfold lookS; dsimp only; rw [q]; exact e))
      | ro xs => cases e; obtain ⟨a, vs, h1, h2, h3⟩ := hs; rw [h'] at h1; cases h1; exact .inr ⟨a, vs, xs, rfl, rfl, h2, h3⟩
theorem ViewS.rep {v : V} {d : D} (fh : Same F H) (h : ViewS K F H v d) : Rep K H v d := by
  rcases h with h | ⟨p, o, rfl, rfl, h⟩
  · exact h.mono fh
  · cases o with
    | lst ds => obtain ⟨vs, h1, h2⟩ := h; exact .lst h1 (h2.mono fh)
    | dic t kvs =>
      cases t with
      | false => obtain ⟨ks, vs, ds, h1, h2, h3, rfl⟩ := h; exact .dk h1 h2 (h3.mono fh)
      | true => obtain ⟨ks, vs, ds, h1, h2, h3, rfl⟩ := h; exact .dt h1 h2 (h3.mono fh)
theorem ViewS.int {v : V} {i : Int} (h : ViewS K F H v (.int i)) : v = .int i := by
  rcases h with h | ⟨p, o, rfl, e, h⟩
  · cases h; rfl
  · cases o <;> cases e
theorem ViewS.str {v : V} {x : Str} (h : ViewS K F H v (.str x)) : v = .str x := by
  rcases h with h | ⟨p, o, rfl, e, h⟩
  · cases h; rfl
  · cases o <;> cases e
theorem ViewS.bool {v : V} {b : Bool} (h : ViewS K F H v (.bool b)) : v = .bl b := by
  rcases h with h | ⟨p, o, rfl, e, h⟩
  · cases h; rfl
  · cases o <;> cases e
theorem ViewS.none {v : V} (h : ViewS K F H v .none) : v = .non := by
  rcases h with h | ⟨p, o, rfl, e, h⟩
  · cases h; rfl
  · cases o <;> cases e
theorem ViewS.list {v : V} {ds : List D} (fh : Same F H) (h : ViewS K F H v (.list ds)) : ∃ a vs, v = .ref a ∧ H a = some (.lst vs) ∧ Reps K F vs ds := by
  rcases h with h | ⟨p, o, rfl, e, h⟩
  · cases h with | lst h1 h2 => exact ⟨_, _, rfl, fh _ _ h1, h2⟩
  · cases o with
    | lst ds' => cases e; obtain ⟨vs, h1, h2⟩ := h; exact ⟨p, vs, rfl, h1, h2⟩
    | dic _ _ => cases e
theorem ViewS.tuple {v : V} {ds : List D} (fh : Same F H) (h : ViewS K F H v (.tuple ds)) : ∃ a vs, v = .ref a ∧ H a = some (.tup vs) ∧ F a = some (.tup vs) ∧ Reps K F vs ds := by
  rcases h with h | ⟨p, o, rfl, e, h⟩
  · cases h with | tup h1 h2 => exact ⟨_, _, rfl, fh _ _ h1, h1, h2⟩
  · cases o <;> cases e
theorem View.int {v : V} {i : Int} (h : View K F H v (.int i)) : v = .int i := by
  rcases h with h | ⟨a, vs, ds, rfl, e, _⟩
  · exact h.int
  · cases e
theorem View.str {v : V} {x : Str} (h : View K F H v (.str x)) : v = .str x := by
  rcases h with h | ⟨a, vs, ds, rfl, e, _⟩
  · exact h.str
  · cases e
theorem View.bool {v : V} {b : Bool} (h : View K F H v (.bool b)) : v = .bl b := by
  rcases h with h | ⟨a, vs, ds, rfl, e, _⟩
  · exact h.bool
  · cases e
theorem View.none {v : V} (h : View K F H v .none) : v = .non := by
  rcases h with h | ⟨a, vs, ds, rfl, e, _⟩
  · exact h.none
  · cases e
theorem View.list {v : V} {ds : List D} (fh : Same F H) (h : View K F H v (.list ds)) : ∃ a vs, v = .ref a ∧ SqL K H a vs ∧ Reps K F vs ds := by
  rcases h with h | ⟨a, vs, ds, rfl, e, h1, h2⟩
  · obtain ⟨a, vs, h1, h2, h3⟩ := h.list fh; exact ⟨a, vs, h1, SqL.of h2, h3⟩
  · cases e; exact ⟨a, vs, rfl, fh.seq h1, h2⟩
theorem View.tuple {v : V} {ds : List D} (fh : Same F H) (h : View K F H v (.tuple ds)) : ∃ a vs, v = .ref a ∧ H a = some (.tup vs) ∧ F a = some (.tup vs) ∧ Reps K F vs ds := by
  rcases h with h | ⟨a, vs, ds, rfl, e, h1, h2⟩
  · exact h.tuple fh
  · cases e
theorem View.seq {v : V} {d : D} {ds : List D} (fh : Same F H) (h : View K F H v d) (e : items d = some ds) : ∃ a vs, v = .ref a ∧ (SqL K H a vs ∨ SqT K H a vs) ∧ Reps K F vs ds := by
  cases d with
  | list xs => cases e; obtain ⟨a, vs, h1, h2, h3⟩ := h.list fh; exact ⟨a, vs, h1, .inl h2, h3⟩
  | tuple xs => cases e; obtain ⟨a, vs, h1, h2, _, h3⟩ := h.tuple fh; exact ⟨a, vs, h1, .inr (SqT.of h2), h3⟩
  | none => cases e
  | bool _ => cases e
  | int _ => cases e
  | str _ => cases e
  | dict _ => cases e
theorem Reps.ints : ∀ {vs : List V} {ds : List D} {is : List Int}, Reps K F vs ds → Mlg.intsD ds = some is → vs = is.map V.int ∧ ds = is.map PyData.int
  | _, _, _, .nil, e => by cases e; exact ⟨rfl, rfl⟩
  | _, _, is, .cons (d := d) (ds := ds) h r, e => by
    cases d with
    | int i =>
      cases h
      have e : (Mlg.intsD ds).map (i :: ·) = some is := e
      cases q : Mlg.intsD ds with
      | none => rw [q] at e; cases e
      | some js =>
        rw [q] at e; cases e
        obtain ⟨h1, h2⟩ := Reps.ints r q
        rw [h1, h2]; exact ⟨rfl, rfl⟩
    | none => cases e
    | bool _ => cases e
    | str _ => cases e
    | list _ => cases e
    | tuple _ => cases e
    | dict _ => cases e
theorem Reps.bools : ∀ {vs : List V} {ds : List D} {bs : List Bool}, Reps K F vs ds → Mlg.bools ds = some bs → vs = bs.map V.bl
  | _, _, _, .nil, e => by cases e; rfl
  | _, _, bs, .cons (d := d) (ds := ds) h r, e => by
    cases d with
    | bool b =>
      cases h
      have e : (Mlg.bools ds).map (b :: ·) = some bs := e
      cases q : Mlg.bools ds with
      | none => rw [q] at e; cases e
      | some js => rw [q] at e; cases e; rw [Reps.bools r q]; rfl
    | none => cases e
    | int _ => cases e
    | str _ => cases e
    | list _ => cases e
    | tuple _ => cases e
    | dict _ => cases e

/-! ### results at hand -/
variable {Q : VK}
/-- the state as it is, a value -/
theorem out_val {v : V} {d : D} (S : Sim K ρ F σ H) (h : Out T K W ρ F σ H (relE K σ) (.ok (.val d, ρ)) Q) (r : Rep K F v d) : Q v H := h v F H .refl S r
/-- a new tuple -/
theorem out_tup {p : Addr} {vs : List V} {ds : List D} (S : Sim K ρ F σ H) (h : Out T K W ρ F σ H (relE K σ) (.ok (.val (.tuple ds), ρ)) Q) (r : Reps K F vs ds) (hp : H p = none) : Q (.ref p) (upd H p (.tup vs)) :=
  h _ _ _ (Step.laidF (S.new hp).1 hp) (S.laidF hp) (.tup upd_same (r.mono (same_new (S.new hp).1)))
/-- a new list -/
theorem out_lst {p : Addr} {vs : List V} {ds : List D} (S : Sim K ρ F σ H) (h : Out T K W ρ F σ H (relE K σ) (.ok (.tmp (.lst ds), ρ)) Q) (r : Reps K F vs ds) (hp : H p = none) : Q (.ref p) (upd H p (.lst vs)) :=
  h _ _ _ (Step.laid hp) (S.laid hp) ⟨p, rfl, (S.new hp).1, ⟨vs, upd_same, r⟩, (S.new hp).2, hp⟩
end

/-! ### operators by values -/
section
variable {X : Cx}
theorem OpR.or {f : Value → Value → Sem Value} {r r' : R2} (h : OpR X f r) (h' : OpR X f r') : OpR X f (fun x y H Q => r x y H Q ∨ r' x y H Q) := fun pins s σ H x y v u Q I rx ry q =>
  q.elim (h pins s σ H x y v u Q I rx ry) (h' pins s σ H x y v u Q I rx ry)
theorem CallR.or {f : Value} {r r' : List V → Hp → VK → Prop} (h : CallR X f r) (h' : CallR X f r') : CallR X f (fun x H Q => r x H Q ∨ r' x H Q) := fun pins s σ H x u Q I rx q =>
  q.elim (h pins s σ H x u Q I rx) (h' pins s σ H x u Q I rx)
end
end Msd
/-! SoundU: tuple * 1. -/
namespace Msd
open PySem PySem.Spec PyProof.Rows PySem.W L2
theorem tuple_mul1 (l : Addr) (items : Array Value) (n : Nat) (dd : Option Addr) (sl : Array (Option Value)) (u : Tok) :
    Meets (Builtin.«tuple.__mul__» ⟨[.ref l, .int 1 u], []⟩) (fun _ R s => s.heap.get? l = some { cls := .type "tuple", dict := dd, data := .seq items n, slots := sl } ∧ R (.ok (.ret (Value.ref l))) s) :=
  .of_wp fun prog w A R s h => by
    obtain ⟨hp, g, d, tk, os⟩ := s
    obtain ⟨hl, h⟩ := h
    have f1 := AutoSeq1.idx_int
    have c1 : (items.isEmpty || (1 : Int) == 1) = true := by rw [show ((1 : Int) == 1) = true from rfl, Bool.or_true]
    wp_walk using wpAny_loadPart' hl
    exact ⟨_, rfl, h⟩
def rRep1 (K : Frag) : R2 := fun x y H Q => ∃ l xs, x = .ref l ∧ y = .int 1 ∧ SqT K H l xs ∧ Q (.ref l) H
theorem op_rep1 {X : Cx} : OpR X (binaryOp .Mult) (rRep1 X.K) := by
  intro pins s σ H x y v u Q I rx ry h
  obtain ⟨l, xs, rfl, rfl, hT, q⟩ := h
  cases rx
  obtain ⟨t, rfl⟩ := ry
  obtain ⟨its, r, ⟨⟨cls, dd, data, sl⟩, ho, hc, n, hd⟩, hs⟩ := I.tuple hT
  simp only at hc hd
  subst hc hd
  refine wpAny_binaryOp_repeat_ref (T := "tuple") (U := "int") (by decide) ⟨_, ho, rfl⟩ (fun s' => typeIs_int s' 1 t) noFill_tuple_mul F.fills_int_mul F.slot_int_rmul repeat_tuple F.slot_int_index.lookup
    (call_meets F.slot_int_rmul (typeIs_int s 1 t) F.entry_int_rmul (F.args_int_rmul_2 _ _) (int_rmul_tuple 1 t l its.toArray n dd sl)
      ⟨ho, rfl, ⟨_, ho, rfl⟩, call_meets F.slot_tuple_mul ⟨_, ho, rfl⟩ F.entry_tuple_mul (F.args_tuple_mul_2 _ _) (tuple_mul1 l its.toArray n dd sl t) ⟨ho, ?_⟩⟩)
  exact ⟨.ref l, H, I, rfl, q⟩
end Msd
/-! Sound3: the operators of the small language by the layer's. -/
namespace Msd
open PySem PySem.Spec PyProof.Rows L2 Mlg
theorem lim_le : lim ≤ sizeLine := by decide
section
variable {X : Cx}
def opOf : Bi → Operator
  | .add => .Add | .sub => .Sub | .mul => .Mult | .fdiv => .FloorDiv | .mod => .Mod | .pow => .Pow
def rStrCat : R2 := fun x y H Q => ∃ i j, x = .str i ∧ y = .str j ∧ i.length + j.length ≤ sizeLine ∧ Q (.str (i ++ j)) H
def rBin (K : Frag) : Bi → R2
  | .add => fun x y H Q => rI0 (fun i j => .int (i + j)) x y H Q ∨ rCatA K x y H Q ∨ rCat x y H Q ∨ rStrCat x y H Q
  | .sub => rI0 fun i j => .int (i - j)
  | .mul => fun x y H Q => rI CMul (fun i j => .int (i * j)) x y H Q ∨ rRepT K x y H Q ∨ rRep x y H Q ∨ rRep1 K x y H Q
  | .fdiv => rI CDiv fun i j => .int (i / j)
  | .mod => rI (fun _ j => 0 < j) fun i j => .int (i % j)
  | .pow => rI CPow fun i j => .int (i ^ j.toNat)
theorem op_bin (o : Bi) : OpR X (binaryOp (opOf o)) (rBin X.K o) := by
  cases o with
  | add => exact OpR.or op_add (OpR.or op_catA (OpR.or op_cat op_add_str))
  | sub => exact op_sub
  | mul => exact OpR.or op_mul (OpR.or op_repT (OpR.or op_rep op_rep1))
  | fdiv => exact op_fdiv
  | mod => exact op_mod
  | pow => exact op_pow
end
section
variable {K : Frag} {T : Errs} {W : WX} {ρ : Env} {F H : Hp} {σ : St} {Q : VK}
theorem bin_ok {o : Bi} {x y : V} {dx dy : D} {r : R} (S : Sim K ρ F σ H) (hx : ViewS K F H x dx) (hy : ViewS K F H y dy) (e : bin o dx dy = some r) (h : Out T K W ρ F σ H (relE K σ) (.ok (r, ρ)) Q) : rBin K o x y H Q := by
  cases o with
  | sub =>
    cases dx <;> first | (cases e; done) | skip
    cases dy <;> first | (cases e; done) | skip
    cases e
    exact ⟨_, _, hx.int, hy.int, out_val S h (.int _)⟩
  | fdiv =>
    cases dx <;> first | (cases e; done) | skip
    cases dy <;> first | (cases e; done) | skip
    unfold Mlg.bin at e
    dsimp only at e
    split at e
    · rename_i c
      cases e
      exact ⟨_, _, hx.int, hy.int, ⟨c.1, by omega⟩, out_val S h (.int _)⟩
    · cases e
  | mod =>
    cases dx <;> first | (cases e; done) | skip
    cases dy <;> first | (cases e; done) | skip
    unfold Mlg.bin at e
    dsimp only at e
    split at e
    · rename_i c
      cases e
      exact ⟨_, _, hx.int, hy.int, c, out_val S h (.int _)⟩
    · cases e
  | pow =>
    cases dx <;> first | (cases e; done) | skip
    cases dy <;> first | (cases e; done) | skip
    unfold Mlg.bin at e
    dsimp only at e
    split at e
    · rename_i c
      cases e
      exact ⟨_, _, hx.int, hy.int, ⟨c.1, by omega, by omega⟩, out_val S h (.int _)⟩
    · cases e
  | add =>
    cases dx <;> first | (cases e; done) | skip
    all_goals (cases dy <;> first | (cases e; done) | skip)
    · cases e
      exact .inl ⟨_, _, hx.int, hy.int, out_val S h (.int _)⟩
    · unfold Mlg.bin at e
      dsimp only at e
      split at e
      · rename_i c
        cases e
        refine .inr (.inr (.inr ⟨_, _, hx.str, hy.str, ?_, out_val S h (.str _)⟩))
        exact Nat.le_trans (Nat.le_of_lt c) lim_le
      · cases e
    · unfold Mlg.bin at e
      dsimp only at e
      split at e
      · rename_i c
        cases e
        obtain ⟨a, vs, rfl, h1, h2⟩ := hx.list S.fh
        obtain ⟨b, ws, rfl, h3, h4⟩ := hy.list S.fh
        refine .inr (.inr (.inl ⟨_, _, _, _, rfl, rfl, h1, h3, ?_, fun p hp => out_lst S h (h2.append h4) hp⟩))
        have c : (_ ++ _ : List D).length < lim := of_decide_eq_true c
        rw [List.length_append, ← h2.length, ← h4.length] at c
        exact Nat.le_trans (Nat.le_of_lt c) lim_le
      · cases e
    · unfold Mlg.bin at e
      dsimp only at e
      split at e
      · rename_i c
        cases e
        obtain ⟨a, vs, rfl, h1, f1, h2⟩ := hx.tuple S.fh
        obtain ⟨b, ws, rfl, h3, f3, h4⟩ := hy.tuple S.fh
        refine .inr (.inl ⟨_, _, _, _, rfl, rfl, SqT.of h1, SqT.of h3, ?_, fun z => ?_, fun _ z => ?_, fun _ _ p hp => out_tup S h (h2.append h4) hp⟩)
        · have c : (_ ++ _ : List D).length < lim := of_decide_eq_true c
          rw [List.length_append, ← h2.length, ← h4.length] at c
          exact Nat.le_trans (Nat.le_of_lt c) lim_le
        · subst z
          cases h2
          exact out_val S h (.tup f3 h4)
        · subst z
          cases h4
          rw [List.append_nil] at h
          exact out_val S h (.tup f1 h2)
      · cases e
  | mul =>
    cases dx <;> first | (cases e; done) | skip
    all_goals (cases dy <;> first | (cases e; done) | skip)
    · unfold Mlg.bin at e
      dsimp only at e
      split at e
      · rename_i c
        cases e
        refine .inl ⟨_, _, hx.int, hy.int, ?_, out_val S h (.int _)⟩
        rcases c with c | c
        · exact .inl ⟨by omega, by omega⟩
        · exact .inr ⟨by omega, by omega⟩
      · cases e
    · unfold Mlg.bin at e
      dsimp only at e
      split at e
      · rename_i c
        cases e
        obtain ⟨a, vs, rfl, h1, h2⟩ := hx.list S.fh
        refine .inr (.inr (.inl ⟨_, _, _, rfl, hy.int, h1, by omega, by omega, ?_, fun p hp => out_lst S h (h2.flat _) hp⟩))
        rw [h2.length]
        exact Nat.le_trans (Nat.le_of_lt c.1) lim_le
      · cases e
    · unfold Mlg.bin at e
      dsimp only at e
      split at e
      · rename_i c
        cases e
        obtain ⟨a, vs, rfl, h1, f1, h2⟩ := hx.tuple S.fh
        exact .inr (.inr (.inr ⟨a, vs, rfl, by rw [hy.int, c], SqT.of h1, out_val S h (.tup f1 h2)⟩))
      rename_i c0
      split at e
      · rename_i c
        cases e
        obtain ⟨a, vs, rfl, h1, f1, h2⟩ := hx.tuple S.fh
        refine .inr (.inl ⟨_, _, _, rfl, hy.int, SqT.of h1, fun z => ?_, c.2.1, c.2.2.1, by rw [h2.length]; exact c.2.2.2, fun p hp => out_tup S h (h2.flat _) hp⟩)
        subst z
        cases h2
        exact c.1 rfl
      · cases e
end
end Msd
/-! SoundG: a greater tuple. -/
namespace Msd
open PySem PySem.Spec PyProof.Rows PySem.W L2 Mlg
section
variable {X : Cx}
def rGtD (K : Frag) : R2 := fun x y H Q => ∃ da db, Dp K H x da ∧ Dp K H y db ∧ alike da db = true ∧ da ≠ .none ∧ da.depth ≤ 8 ∧ Q (.bl (dataLt db da)) H
theorem op_gtD (hu : X.A.units + 65 < cLine) : OpR X (compareOp .Gt) (rGtD X.K) := by
  intro pins s σ H x y v u Q I rx ry h
  obtain ⟨d, e, hd, he, al, ne, dp, q⟩ := h
  obtain ⟨as, r1⟩ := Dp.reads I d x v hd rx
  obtain ⟨bs, r2⟩ := Dp.reads I e y u he ry
  exact gt_data r1 r2 al ne (by omega) ⟨.bl _, H, I, rfl, q⟩
end
/-! ### one order -/
theorem ltInts_eq : ∀ a b : List Int, ltInts a b = decide (a < b)
  | [], [] => by simp [ltInts]
  | [], _ :: _ => by simp [ltInts]
  | _ :: _, [] => by simp [ltInts]
  | x :: a, y :: b => by
    unfold ltInts
    rw [ltInts_eq a b]
    by_cases e : x = y
    · subst e; simp
    · rw [if_neg e]
      by_cases l : x < y
      · simp [List.cons_lt_cons_iff, l]
      · simp [List.cons_lt_cons_iff, l, e]
theorem ints_map : ∀ {ds : List PyData} {is : List Int}, Mlg.intsD ds = some is → ds = is.map PyData.int
  | [], _, h => by cases h; rfl
  | d :: r, is, h => by
    cases d <;> first | (cases h; done) | skip
    rename_i i
    have h : (Mlg.intsD r).map (i :: ·) = some is := h
    cases e : Mlg.intsD r with
    | none => rw [e] at h; cases h
    | some js =>
      rw [e] at h
      cases h
      rw [ints_map e]
      rfl
theorem map_ints : ∀ is : List Int, Mlg.intsD (is.map PyData.int) = some is
  | [] => rfl
  | i :: r => by
    show (Mlg.intsD (r.map PyData.int)).map (i :: ·) = _
    rw [map_ints r]
    rfl
theorem kt_lt {a b : List Int} : dataLt (.tuple (a.map .int)) (.tuple (b.map .int)) = ltD (.tuple (a.map .int)) (.tuple (b.map .int)) := by
  rw [dataLt_tuple]
  show rowLt _ _ = _
  rw [dataLt_ints]
  show _ = (match Mlg.intsD (a.map .int), Mlg.intsD (b.map .int) with | some a, some b => ltInts a b | _, _ => false)
  rw [map_ints, map_ints]
  exact (ltInts_eq a b).symm
theorem lt_ints (a b : List Int) : dataLt (.tuple (a.map .int)) (.tuple (b.map .int)) = ltInts a b := by
  rw [kt_lt]
  show (match Mlg.intsD (a.map .int), Mlg.intsD (b.map .int) with | some a, some b => ltInts a b | _, _ => false) = _
  rw [map_ints, map_ints]
theorem eqvAll_int : ∀ a b : List Int, PyData.eqvAll (a.map .int) (b.map .int) = decide (a = b)
  | [], [] => rfl
  | [], _ :: _ => by simp [PyData.eqvAll]
  | _ :: _, [] => by simp [PyData.eqvAll]
  | x :: a, y :: b => by
    show (PyData.eqv (.int x) (.int y) && PyData.eqvAll (a.map .int) (b.map .int)) = _
    rw [eqvAll_int a b]
    show ((x == y) && decide (a = b)) = _
    by_cases h1 : x = y <;> by_cases h2 : a = b <;> simp [h1, h2]
theorem lt_pair (p q : List Int × List Int) : dataLt (.tuple [.tuple (p.1.map .int), .tuple (p.2.map .int)]) (.tuple [.tuple (q.1.map .int), .tuple (q.2.map .int)]) = ltPair p q := by
  rw [dataLt_tuple]
  unfold ltPair
  have al : ∀ a b : List Int, alike (.tuple (a.map .int)) (.tuple (b.map .int)) = true := fun a b => alike_ints a b
  have ev : ∀ a b : List Int, PyData.eqv (.tuple (a.map .int)) (.tuple (b.map .int)) = decide (a = b) := fun a b => eqvAll_int a b
  by_cases e : p.1 = q.1
  · rw [if_pos e, dataLt_all_yes (al _ _) (by rw [ev]; exact decide_eq_true e)]
    by_cases e2 : p.2 = q.2
    · rw [dataLt_all_yes (al _ _) (by rw [ev]; exact decide_eq_true e2), e2, ltInts_eq, decide_eq_false (List.lt_irrefl _)]
      rfl
    · rw [dataLt_all_no (al _ _) (by rw [ev]; exact decide_eq_false e2), lt_ints]
  · rw [if_neg e, dataLt_all_no (al _ _) (by rw [ev]; exact decide_eq_false e), lt_ints]
theorem pairI_ok {ds : List D} {p : List Int × List Int} (h : pairI ds = some p) : ds = [.tuple (p.1.map .int), .tuple (p.2.map .int)] := by
  unfold pairI at h
  split at h
  · rename_i a b
    cases e : Mlg.intsD a with
    | none => rw [e] at h; cases h
    | some x =>
      rw [e] at h
      replace h : (Mlg.intsD b).map (fun y => (x, y)) = some p := h
      cases e2 : Mlg.intsD b with
      | none => rw [e2] at h; cases h
      | some y =>
        rw [e2] at h
        cases h
        rw [ints_map e, ints_map e2]
  · cases h
/-- what stands behind a greater tuple -/
theorem gtT_data {xs ys : List D} {b : Bool} (h : gtT xs ys = some b) : dataLt (.tuple ys) (.tuple xs) = b ∧ alike (.tuple xs) (.tuple ys) = true ∧ shp 8 (.tuple xs) = true ∧ shp 8 (.tuple ys) = true ∧ PyData.depth (.tuple xs) ≤ 8 := by
  have si : ∀ (n : Nat) (l : List Int), shpAll n (l.map .int) = true := by
    intro n l
    induction l with
    | nil => cases n <;> rfl
    | cons i l ih => cases n <;> exact ih
  unfold gtT at h
  split at h
  · rename_i a b h1 h2
    cases h
    rw [ints_map h1, ints_map h2]
    refine ⟨lt_ints _ _, alike_ints a b, si 7 a, si 7 b, ?_⟩
    show PyData.depthAll _ + 1 ≤ 8
    rw [depth_ints]
    decide
  · split at h
    · rename_i p q h1 h2
      cases h
      rw [pairI_ok h1, pairI_ok h2]
      refine ⟨lt_pair _ _, ?_, ?_, ?_, ?_⟩
      · show (alikeAll _ _ && (alikeAll _ _ && true)) = true
        rw [alike_ints, alike_ints]
        rfl
      · show (shpAll 6 _ && (shpAll 6 _ && true)) = true
        rw [si, si]
        rfl
      · show (shpAll 6 _ && (shpAll 6 _ && true)) = true
        rw [si, si]
        rfl
      · show max (PyData.depthAll _ + 1) (max (PyData.depthAll _ + 1) 0) + 1 ≤ 8
        rw [depth_ints, depth_ints]
        decide
    · cases h
end Msd
/-! Sound4: comparisons. -/
namespace Msd
open PySem PySem.Spec PyProof.Rows L2 Mlg
/-! ### equality of data is the library's -/
mutual
theorem eqv_is : ∀ a b : D, Mlg.eqv a b = PyData.eqv a b
  | .none, b => by cases b <;> rfl
  | .bool _, b => by cases b <;> rfl
  | .int _, b => by cases b <;> rfl
  | .str _, b => by cases b <;> rfl
  | .list xs, b => by
    cases b <;> try rfl
    exact eqvAll_is xs _
  | .tuple xs, b => by
    cases b <;> try rfl
    exact eqvAll_is xs _
  | .dict _, b => by cases b <;> rfl
theorem eqvAll_is : ∀ a b : List D, Mlg.eqvAll a b = PyData.eqvAll a b
  | [], b => by cases b <;> rfl
  | x :: xs, [] => rfl
  | x :: xs, y :: ys => by
    show (Mlg.eqv x y && Mlg.eqvAll xs ys) = (PyData.eqv x y && PyData.eqvAll xs ys)
    rw [eqv_is x y, eqvAll_is xs ys]
end
mutual
theorem shp_lay : ∀ (n : Nat) (d : D), shp n d = true → d.canLay0 = true ∧ d.depth ≤ n
  | n, .none, _ => ⟨rfl, Nat.zero_le _⟩
  | n, .bool _, _ => ⟨rfl, Nat.zero_le _⟩
  | n, .int _, _ => ⟨rfl, Nat.zero_le _⟩
  | n, .str x, h => by
    refine ⟨?_, Nat.zero_le _⟩
    have h : (x.cps.toList.all fun c => decide (c < 1114112)) = true := by cases n <;> exact h
    show x.cps.all (fun c => decide (c < 0x110000)) = true
    rw [← Array.all_toList]
    exact h
  | 0, .list xs, h => by cases h
  | 0, .tuple xs, h => by cases h
  | n + 1, .list xs, h => by
    obtain ⟨h1, h2⟩ := shpAll_lay n xs h
    exact ⟨h1, Nat.succ_le_succ h2⟩
  | n + 1, .tuple xs, h => by
    obtain ⟨h1, h2⟩ := shpAll_lay n xs h
    exact ⟨h1, Nat.succ_le_succ h2⟩
  | n, .dict _, h => by cases n <;> cases h
theorem shpAll_lay : ∀ (n : Nat) (ds : List D), shpAll n ds = true → PyData.canLayAll0 ds = true ∧ PyData.depthAll ds ≤ n
  | n, [], _ => ⟨rfl, Nat.zero_le _⟩
  | n, x :: xs, h => by
    have h : (shp n x && shpAll n xs) = true := by cases n <;> exact h
    obtain ⟨h1, h2⟩ := Bool.and_eq_true_iff.mp h
    obtain ⟨a, b⟩ := shp_lay n x h1
    obtain ⟨c, d⟩ := shpAll_lay n xs h2
    refine ⟨?_, ?_⟩
    · show (x.canLay0 && PyData.canLayAll0 xs) = true
      rw [a, c]; rfl
    · show max x.depth (PyData.depthAll xs) ≤ n
      exact Nat.max_le.mpr ⟨b, d⟩
end
theorem shaped_of {n : Nat} {d : D} (h : shp n d = true) (hn : n ≤ 64) : SeqAt.shaped d = true := by
  obtain ⟨a, b⟩ := shp_lay n d h
  unfold SeqAt.shaped
  rw [a, decide_eq_true (Nat.le_trans b hn)]
  rfl
section
variable {K : Frag} {F H : Hp}
mutual
theorem Rep.dp : ∀ {n : Nat} {v : V} {d : D}, shp n d = true → Rep K H v d → Dp K H v d
  | _, _, _, _, .non => .non
  | _, _, _, _, .bl b => .bl b
  | _, _, _, _, .int i => .int i
  | _, _, _, _, .str x => .str x
  | 0, _, _, h, .lst a r => by cases h
  | 0, _, _, h, .tup a r => by cases h
  | n + 1, _, _, h, .lst a r => .lst (SqL.of a) (Reps.dp (n := n) h r)
  | n + 1, _, _, h, .tup a r => .tup (SqT.of a) (Reps.dp (n := n) h r)
  | n, _, _, h, .dk _ _ _ => by cases n <;> cases h
  | n, _, _, h, .dt _ _ _ => by cases n <;> cases h
theorem Reps.dp : ∀ {n : Nat} {vs : List V} {ds : List D}, shpAll n ds = true → Reps K H vs ds → DpAll K H vs ds
  | _, _, _, _, .nil => .nil
  | n, _, _, h, .cons a r => by
    obtain ⟨h1, h2⟩ := Bool.and_eq_true_iff.mp (show (shp n _ && shpAll n _) = true by cases n <;> exact h)
    exact .cons (Rep.dp h1 a) (Reps.dp h2 r)
end
theorem View.dp {n : Nat} {v : V} {d : D} (fh : Same F H) (h : View K F H v d) (hs : shp n d = true) : Dp K H v d := by
  rcases h with h | ⟨a, vs, ds, rfl, rfl, h1, h2⟩
  · exact Rep.dp hs (h.rep fh)
  · cases n with
    | zero => cases hs
    | succ n => exact .lst (fh.seq h1) (Reps.dp (n := n) hs (h2.mono fh))
end
section
variable {X : Cx}
def cmOf : Cm → CmpOp
  | .lt => .Lt | .le => .LtE | .gt => .Gt | .ge => .GtE | .eq => .Eq | .ne => .NotEq | .inn => .In | .nin => .NotIn
def rSign (neg : Bool) : R2 := fun x y H Q => ∃ (c : Nat) (z : Str), x = .str ⟨#[c]⟩ ∧ y = .str z ∧ Q (.bl (if neg then !decide (c ∈ z.cps.toList) else decide (c ∈ z.cps.toList))) H
def rCmp (K : Frag) : Cm → R2
  | .lt => rI0 fun i j => .bl (decide (i < j))
  | .le => rI0 fun i j => .bl (decide (i ≤ j))
  | .gt => fun x y H Q => rI0 (fun i j => .bl (decide (j < i))) x y H Q ∨ rGtD K x y H Q
  | .ge => rI0 fun i j => .bl (decide (j ≤ i))
  | .eq => rEqD K
  | .ne => rNeD K
  | .inn => fun x y H Q => rInD K x y H Q ∨ rIn K false x y H Q ∨ rSign false x y H Q
  | .nin => fun x y H Q => rNotInD K x y H Q ∨ rIn K true x y H Q ∨ rSign true x y H Q
theorem op_cmp (o : Cm) (hu : X.A.units + 65 < cLine) : OpR X (compareOp (cmOf o)) (rCmp X.K o) := by
  cases o with
  | lt => exact op_lt
  | le => exact op_le
  | gt => exact OpR.or op_gt (op_gtD hu)
  | ge => exact op_ge
  | eq => exact op_eqD (by omega)
  | ne => exact op_neD (by omega)
  | inn => exact OpR.or (op_inD hu) (OpR.or op_in_seq op_in_sign)
  | nin => exact OpR.or (op_notInD hu) (OpR.or op_notIn_seq op_notIn_sign)
end
section
variable {K : Frag} {F H : Hp} {Q : VK}
theorem inV_ints (i : Int) (is : List Int) : inV (.int i) (is.map V.int) = is.contains i := by
  unfold inV
  induction is with
  | nil => rfl
  | cons j r ih =>
    rw [List.map_cons, List.any_cons, ih, List.contains_cons]
    congr 1
    show (j == i) = (i == j)
    exact Bool.beq_comm
theorem flat_ints (is : List Int) : (is.map V.int).all flatV = true := by
  induction is with
  | nil => rfl
  | cons j r ih => rw [List.map_cons, List.all_cons, ih]; rfl
theorem cmp_ok {o : Cm} {x y : V} {dx dy : D} {b : Bool} (fh : Same F H) (hx : View K F H x dx) (hy : View K F H y dy) (e : cmp o dx dy = some b) (h : Q (.bl b) H) : rCmp K o x y H Q := by
  have hin : ∀ {ds : List D} {a : D}, (ds.any fun z => Mlg.eqv z a) = ds.any fun z => PyData.eqv z a := fun {ds a} => by
    congr 1; funext z; exact eqv_is z a
  cases o with
  | lt => cases dx <;> first | (cases e; done) | skip
          cases dy <;> first | (cases e; done) | skip
          cases e; exact ⟨_, _, hx.int, hy.int, h⟩
  | le => cases dx <;> first | (cases e; done) | skip
          cases dy <;> first | (cases e; done) | skip
          cases e; exact ⟨_, _, hx.int, hy.int, h⟩
  | gt => cases dx <;> first | (cases e; done) | skip
          all_goals (cases dy <;> first | (cases e; done) | skip)
          · cases e; exact .inl ⟨_, _, hx.int, hy.int, h⟩
          · rename_i xs ys
            obtain ⟨h1, h2, h3, h4, h5⟩ := gtT_data (show gtT xs ys = some b from e)
            exact .inr ⟨_, _, hx.dp fh h3, hy.dp fh h4, h2, (fun z => by cases z), h5, by rw [h1]; exact h⟩
  | ge => cases dx <;> first | (cases e; done) | skip
          cases dy <;> first | (cases e; done) | skip
          cases e; exact ⟨_, _, hx.int, hy.int, h⟩
  | eq =>
    have e : (if (shp 8 dx && shp 8 dy) = true then some (Mlg.eqv dx dy) else none) = some b := by
      cases dx <;> cases dy <;> exact e
    split at e
    · rename_i c
      obtain ⟨c1, c2⟩ := Bool.and_eq_true_iff.mp c
      cases e
      rw [eqv_is] at h
      exact ⟨dx, dy, hx.dp fh c1, hy.dp fh c2, shaped_of c1 (by decide), shaped_of c2 (by decide), h⟩
    · cases e
  | ne =>
    have e : (if (shp 8 dx && shp 8 dy) = true then some (!Mlg.eqv dx dy) else none) = some b := by
      cases dx <;> cases dy <;> exact e
    split at e
    · rename_i c
      obtain ⟨c1, c2⟩ := Bool.and_eq_true_iff.mp c
      cases e
      rw [eqv_is] at h
      exact ⟨dx, dy, hx.dp fh c1, hy.dp fh c2, shaped_of c1 (by decide), shaped_of c2 (by decide), h⟩
    · cases e
  | inn =>
    cases dy with
    | list ys =>
      have e : (if (shp 8 dx && shp 8 (.list ys)) = true then some (ys.any fun z => Mlg.eqv z dx) else none) = some b := by
        cases dx <;> exact e
      split at e
      · rename_i c
        obtain ⟨c1, c2⟩ := Bool.and_eq_true_iff.mp c
        cases e
        rw [hin] at h
        exact .inl ⟨dx, ys, hx.dp fh c1, hy.dp fh c2, shaped_of c1 (by decide), shaped_of c2 (by decide), h⟩
      · cases e
    | tuple ys =>
      cases dx <;> first | (cases e; done) | skip
      rename_i i
      have e : (Mlg.intsD ys).map (fun is => is.contains i) = some b := e
      cases q : Mlg.intsD ys with
      | none => rw [q] at e; cases e
      | some is =>
        rw [q] at e; cases e
        obtain ⟨a, vs, rfl, h1, _, h2⟩ := hy.tuple fh
        obtain ⟨h3, _⟩ := h2.ints q
        subst h3
        refine .inr (.inl ⟨a, _, rfl, .inr (SqT.of h1), by rw [hx.int]; rfl, flat_ints is, ?_⟩)
        rw [hx.int, inV_ints]
        exact h
    | str y =>
      cases dx <;> first | (cases e; done) | skip
      rename_i x'
      have e : (match x'.cps.toList with | [c] => some (decide (c ∈ y.cps.toList)) | _ => none) = some b := e
      split at e
      · rename_i c hc
        cases e
        refine .inr (.inr ⟨c, y, ?_, hy.str, h⟩)
        rw [hx.str]
        obtain ⟨cps⟩ := x'
        have : cps = #[c] := by rw [← Array.toList_inj]; exact hc
        rw [this]
      · cases e
    | none => cases dx <;> cases e
    | bool _ => cases dx <;> cases e
    | int _ => cases dx <;> cases e
    | dict _ => cases dx <;> cases e
  | nin =>
    cases dy with
    | list ys =>
      have e : (if (shp 8 dx && shp 8 (.list ys)) = true then some (!ys.any fun z => Mlg.eqv z dx) else none) = some b := by
        cases dx <;> exact e
      split at e
      · rename_i c
        obtain ⟨c1, c2⟩ := Bool.and_eq_true_iff.mp c
        cases e
        rw [hin] at h
        exact .inl ⟨dx, ys, hx.dp fh c1, hy.dp fh c2, shaped_of c1 (by decide), shaped_of c2 (by decide), h⟩
      · cases e
    | tuple ys =>
      cases dx <;> first | (cases e; done) | skip
      rename_i i
      have e : (Mlg.intsD ys).map (fun is => !is.contains i) = some b := e
      cases q : Mlg.intsD ys with
      | none => rw [q] at e; cases e
      | some is =>
        rw [q] at e; cases e
        obtain ⟨a, vs, rfl, h1, _, h2⟩ := hy.tuple fh
        obtain ⟨h3, _⟩ := h2.ints q
        subst h3
        refine .inr (.inl ⟨a, _, rfl, .inr (SqT.of h1), by rw [hx.int]; rfl, flat_ints is, ?_⟩)
        rw [hx.int, inV_ints]
        exact h
    | str y =>
      cases dx <;> first | (cases e; done) | skip
      rename_i x'
      have e : (match x'.cps.toList with | [c] => some (!decide (c ∈ y.cps.toList)) | _ => none) = some b := e
      split at e
      · rename_i c hc
        cases e
        refine .inr (.inr ⟨c, y, ?_, hy.str, h⟩)
        rw [hx.str]
        obtain ⟨cps⟩ := x'
        have : cps = #[c] := by rw [← Array.toList_inj]; exact hc
        rw [this]
      · cases e
    | none => cases dx <;> cases e
    | bool _ => cases dx <;> cases e
    | int _ => cases dx <;> cases e
    | dict _ => cases dx <;> cases e
end
end Msd
/-! Sound5: a term of the small language and a text's expression; the context; plain expressions. -/
namespace Msd
open PySem PySem.Spec PyProof.Rows L2 Mlg
/-! ### a term tells a text -/
def gnm : Nat → Str
  | 0 => "MOST_CARDS" | 1 => "MOST_LISTED" | 2 => "MOST_PACK" | 3 => "MOST_LABEL" | 4 => "MOST_PAIRED" | 5 => "MOST_SEARCHED" | 6 => "MOST_AGAIN" | 7 => "MOST_TIMES"
  | 8 => "MOST_HELD" | 9 => "MOST_LABELS" | 10 => "FIGURES" | _ => ""
def enm : Nat → Str
  | 0 => "LaceError" | 1 => "BadSize" | 2 => "BadOrder" | 3 => "BadRow" | 4 => "BadCut" | 5 => "BadRunning" | 6 => "BadNumber" | 7 => "BadPack" | 8 => "BadTold" | 9 => "BadPlace"
  | 10 => "BadPlaces" | 11 => "BadTimes" | 12 => "TooGreat" | 13 => "BadText" | _ => ""
/-- the constants of the text -/
def glov : Nat → D
  | 0 => .int 100 | 1 => .int 10 | 2 => .int 24 | 3 => .int 99 | 4 => .int 12 | 5 => .int 7 | 6 => .int 24 | 7 => .int 1000000000000000000000000000000
  | 8 => .int 6 | 9 => .int 4 | 10 => .str ⟨#[48, 49, 50, 51, 52, 53, 54, 55, 56, 57]⟩ | _ => .none
def sameB : D → D → Bool
  | .int i, .int j => decide (i = j)
  | .str x, .str y => decide (x = y)
  | _, _ => false
def visB (sc : Scope) (x : Str) : Bool := match sc.names.lookup x with
  | some .local => true
  | some .cell => true
  | some .free => true
  | _ => false
def locB (sc : Scope) (x : Str) : Bool := match sc.names.lookup x with
  | some .local => true
  | some .cell => true
  | _ => false
def gloB (sc : Scope) (x : Str) : Bool := decide (sc.names.lookup x = some .globalImplicit)
def nameB (x : Str) : Bool := !(x == ("__debug__" : Str)) && !(x == ("__classdict__" : Str)) && !(x == ("__name__" : Str))
def cstB : D → Const → Bool
  | .none, .none => true
  | .bool a, .bool b => a == b
  | .int i, .int j => decide (i = j)
  | .str x, .str y => decide (x = y)
  | _, _ => false
def b1nm : B1 → Str
  | .len => "len" | .abs => "abs" | .int => "int" | .str => "str" | .min => "min" | .max => "max" | .sum => "sum" | .all => "all" | .sorted => "sorted" | .list => "list" | .tuple => "tuple"
  | .lenset => "len" | .sortset => "sorted" | .isi _ => "isinstance" | .values => "list"
def tynm : Ty → Str
  | .int => "int" | .bool => "bool" | .str => "str" | .tuple => "tuple" | .list => "list" | .dict => "dict"
def b2nm : B2 → Str
  | .min => "min" | .max => "max"
def m1nm : M1 → Str
  | .index => "index" | .count => "count" | .join => "join" | .split => "split"
def builtins : List Str := ["len", "abs", "int", "str", "min", "max", "sum", "all", "sorted", "list", "tuple", "set", "isinstance", "bool", "dict", "range", "enumerate"]
/-- a builtin's name, called -/
def bltB (sc : Scope) (n x : Str) : Bool := decide (x = n) && gloB sc x
/-- the own names of a block by their places -/
def ownOf (N : List Str) (vs : List Nat) : List (Str × Nat) := vs.filterMap fun i => (N[i]?).map fun x => (x, i)
def isOrB : Expr → Bool
  | .BoolOp .Or _ _ => true
  | _ => false
def isAndB : Expr → Bool
  | .BoolOp .And _ _ => true
  | _ => false
def plainX : Expr → Bool
  | .Starred _ _ => false
  | .Slice _ _ _ _ => false
  | .Set _ _ _ => false
  | .NamedExpr _ _ _ => false
  | _ => true
def tgB (N : List Str) (sc : Scope) (fx : Nat → Bool) : Tg → Expr → Bool
  | .nm i, .Name x _ => decide (N[i]? = some x) && locB sc x && nameB x && !fx i
  | .tup is, .Tuple xs _ _ => go is xs
  | _, _ => false
where go : List Nat → List Expr → Bool
  | [], [] => true
  | i :: is, .Name x _ :: xs => decide (N[i]? = some x) && locB sc x && nameB x && !fx i && go is xs
  | _, _ => false
/-- enumerate's pairs go to two names -/
def enuB : Mlg.It → Tg → Bool
  | .envar _, .nm _ => false
  | .enu _, .nm _ => false
  | _, _ => true
/-- not a conditional expression: what is asked as a test -/
def tstB : Mlg.E → Bool
  | .var _ => true
  | .cmp _ _ _ => true
  | .din _ _ _ => true
  | .chn _ _ _ _ _ => true
  | .isN _ => true
  | .ntN _ => true
  | .and _ _ => true
  | .or _ _ => true
  | .not _ => true
  | .call _ _ => true
  | .b1 _ _ => true
  | .ix _ _ => true
  | _ => false
def m1B : M1 → Bool
  | .index => false
  | _ => true
/-- no star among the arguments -/
def nst : Mlg.Es → Bool
  | .nil => true
  | .cons _ es => nst es
  | .star _ _ => false
/-- what a method is asked of -/
def atrB : Expr → Bool
  | .Name _ _ => true
  | .Constant _ _ _ => true
  | .Subscript _ _ _ => true
  | _ => false
def b1B : B1 → Bool
  | .len => true | .abs => true | .int => true | .str => true | .list => true | .tuple => true | .sum => true | .all => true | .min => true | .max => true | .sorted => true
  | _ => false
section
variable (fnm : Nat → Option Str) (N : List Str)
mutual
def mE (sc : Scope) : Mlg.E → Expr → Bool
  | .var i, x => match x with
    | .Name x _ => decide (N[i]? = some x) && visB sc x && nameB x
    | _ => false
  | .cst d, x => match x with
    | .Constant c _ _ => cstB d c
    | _ => false
  | .glo g d, x => match x with
    | .Name x _ => decide (fnm (100000 + g) = some x) && (decide (x = gnm g) && sameB d (glov g) && gloB sc x && nameB x)
    | _ => false
  | .bin o a b, x => match x with
    | .BinOp x op y _ => decide (op = opOf o) && (mE sc a x && mE sc b y)
    | _ => false
  | .neg a, x => match x with
    | .UnaryOp .USub x _ => mE sc a x
    | _ => false
  | .not a, x => match x with
    | .UnaryOp .Not x _ => tstB a && mE sc a x
    | _ => false
  | .cmp o a b, x => match x with
    | .Compare x [op] [y] _ => decide (op = cmOf o) && plainX y && (mE sc a x && mE sc b y)
    | _ => false
  | .chn o o2 a b c, x => match x with
    | .Compare x [op, op2] [y, z] _ => decide (op = cmOf o) && decide (op2 = cmOf o2) && plainX z && (mE sc a x && mE sc b y && mE sc c z)
    | _ => false
  | .isN a, x => match x with
    | .Compare x [.Is] [.Constant .none _ _] _ => mE sc a x
    | _ => false
  | .ntN a, x => match x with
    | .Compare x [.IsNot] [.Constant .none _ _] _ => mE sc a x
    | _ => false
  | .and a b, x => match x with
    | .BoolOp .And [x, y] _ => tstB a && tstB b && (mE sc a x && mE sc b y)
    | .BoolOp .And (x :: y :: z :: r) p => tstB a && tstB b && (mE sc a x && mE sc b (.BoolOp .And (y :: z :: r) p))
    | _ => false
  | .or a b, x => match x with
    | .BoolOp .Or [x, y] _ => tstB a && tstB b && (mE sc a x && mE sc b y)
    | .BoolOp .Or (x :: y :: z :: r) p => tstB a && tstB b && (mE sc a x && mE sc b (.BoolOp .Or (y :: z :: r) p))
    | _ => false
  | .ite c a b, x => match x with
    | .IfExp z x y _ => tstB c && (mE sc c z && mE sc a x && mE sc b y)
    | _ => false
  | .call f as, x => match x with
    | .Call (.Name x _) xs [] _ => decide (f < 100000) && decide (fnm f = some x) && gloB sc x && (nameB x && nst as) && mEs sc as xs
    | _ => false
  | .b1 f a, x => match x with
    | .Call (.Name n _) [x] [] _ => (b1B f && bltB sc (b1nm f) n && plainX x && mE sc a x) || (match f, x with
      | .lenset, .Call (.Name m _) [y] [] _ => bltB sc "len" n && bltB sc "set" m && plainX y && mE sc a y
      | _, _ => false)
    | .Call (.Name n _) [x, .Name y _] [] _ => (match f with
      | .isi t => bltB sc "isinstance" n && bltB sc (tynm t) y && plainX x && mE sc a x
      | _ => false)
    | _ => false
  | .b2 f a b, x => match x with
    | .Call (.Name n _) [x, y] [] _ => bltB sc (b2nm f) n && plainX x && plainX y && (mE sc a x && mE sc b y)
    | _ => false
  | .m1 f a b, x => match x with
    | .Call (.Attribute x m p) [y] [] q => (m1B f && decide (m = m1nm f)) && (p.endLine == q.line) && atrB x && plainX y && (mE sc a x && mE sc b y)
    | _ => false
  | .ix a i, x => match x with
    | .Subscript x y _ => plainX y && (mE sc a x && mE sc i y)
    | _ => false
  | .sl a lo hi, x => match x with
    | .Subscript x (.Slice l h none _) _ => mE sc a x && mEo sc lo l && mEo sc hi h
    | _ => false
  | .rev a, x => match x with
    | .Subscript x (.Slice none none (some (.UnaryOp .USub (.Constant (.int 1) _ _) _)) _) _ => mE sc a x
    | _ => false
  | .tup es, x => match x with
    | .Tuple xs _ _ => mEs sc es xs
    | _ => false
  | .lst es, x => match x with
    | .List xs _ => mEs sc es xs
    | _ => false
  | .dnew _, x => match x with
    | .Dict [] [] _ => true
    | _ => false
  | .dsp k v, x => match x with
    | .Dict [some y] [z] _ => mE sc k y && mE sc v z
    | _ => false
  | .dvals i, x => match x with
    | .Call (.Name n _) [.Call (.Attribute (.Name y _) m p) [] [] q] [] _ => bltB sc "list" n && decide (m = ("values" : Str)) && (p.endLine == q.line) && decide (N[i]? = some y) && visB sc y && nameB y
    | _ => false
  | .din neg a i, x => match x with
    | .Compare x [op] [.Name y _] _ => decide (op = if neg = true then CmpOp.NotIn else CmpOp.In) && decide (N[i]? = some y) && visB sc y && nameB y && mE sc a x
    | _ => false
  | .rg1 l a, x => match x with
    | .Call (.Name n _) [.Call (.Name m _) [y] [] _] [] _ => bltB sc (if l = true then "list" else "tuple") n && bltB sc "range" m && plainX y && mE sc a y
    | _ => false
  | .rg2 l a b, x => match x with
    | .Call (.Name n _) [.Call (.Name m _) [y, z] [] _] [] _ => bltB sc (if l = true then "list" else "tuple") n && bltB sc "range" m && plainX y && plainX z && (mE sc a y && mE sc b z)
    | _ => false
  | .lc elt tg it c vs, x => match x with
    | .ListComp x [⟨t, i, ifs, 0⟩] scope _ => blkC N sc scope (ownOf N vs) && decide ((ownOf N vs).map (·.2) = vs) && plainX i && tgB N scope (fun j => !vs.contains j) tg t && enuB it tg && (mIt sc it i && mIf (relS scope sc) c ifs && mE (relS scope sc) elt x)
    | _ => false
  | .lc2 elt tg it tg' it' vs vs1, x => match x with
    | .ListComp x [⟨t, i, [], 0⟩, ⟨t1, i1, [], 0⟩] scope _ => (blkC N sc scope (ownOf N vs) && decide ((ownOf N vs).map (·.2) = vs) && plainX i && tgB N scope (fun j => !vs.contains j) tg t && enuB it tg && (mIt sc it i && true && mE (relS scope sc) elt x)) && (match it' with | .r1 a => plainX i1 && tgB N scope (fun j => !vs1.contains j) tg' t1 && vs1.all (vs.contains ·) && mIt (relS scope sc) (.r1 a) i1 | _ => false)
    | _ => false
  | .dc k v tg it c vs, x => match x with
    | .DictComp y x [⟨t, i, ifs, 0⟩] scope _ => blkC N sc scope (ownOf N vs) && decide ((ownOf N vs).map (·.2) = vs) && plainX i && tgB N scope (fun j => !vs.contains j) tg t && enuB it tg && (mIt sc it i && mIf (relS scope sc) c ifs && mE (relS scope sc) v x) && mE (relS scope sc) k y
    | _ => false
  | .app i a, x => match x with
    | .Call (.Attribute (.Name x _) m p) [y] [] q => decide (m = ("append" : Str)) && decide (N[i]? = some x) && visB sc x && nameB x && (p.endLine == q.line) && plainX y && mE sc a y
    | _ => false
  | .pop i a, x => match x with
    | .Call (.Attribute (.Name x _) m p) [y] [] q => decide (m = ("pop" : Str)) && decide (N[i]? = some x) && visB sc x && nameB x && (p.endLine == q.line) && plainX y && mEo sc a (some y)
    | .Call (.Attribute (.Name x _) m p) [] [] q => decide (m = ("pop" : Str)) && decide (N[i]? = some x) && visB sc x && nameB x && (p.endLine == q.line) && mEo sc a none
    | _ => false
  | .get _ _ _, _ => false
def mEs (sc : Scope) : Mlg.Es → List Expr → Bool
  | .nil, x => match x with
    | [] => true
    | _ => false
  | .cons e es, x => match x with
    | x :: xs => plainX x && (mE sc e x && mEs sc es xs)
    | _ => false
  | .star e es, x => match x with
    | .Starred x _ :: xs => mE sc e x && mEs sc es xs
    | _ => false
def mEo (sc : Scope) : Mlg.Eo → Option Expr → Bool
  | .no, x => match x with
    | none => true
    | _ => false
  | .so e, x => match x with
    | some x => mE sc e x
    | _ => false
def mIf (sc : Scope) : Mlg.Eo → List Expr → Bool
  | .no, x => match x with
    | [] => true
    | _ => false
  | .so e, x => match x with
    | [x] => tstB e && mE sc e x
    | _ => false
def mIt (sc : Scope) : Mlg.It → Expr → Bool
  | .r1 a, x => match x with
    | .Call (.Name n _) [x] [] _ => bltB sc "range" n && plainX x && mE sc a x
    | _ => false
  | .r2 a b, x => match x with
    | .Call (.Name n _) [x, y] [] _ => bltB sc "range" n && plainX x && plainX y && (mE sc a x && mE sc b y)
    | _ => false
  | .r3 a b c, x => match x with
    | .Call (.Name n _) [x, y, z] [] _ => bltB sc "range" n && plainX x && plainX y && plainX z && (mE sc a x && mE sc b y && mE sc c z)
    | _ => false
  | .envar i, x => match x with
    | .Call (.Name n _) [.Name x _] [] _ => bltB sc "enumerate" n && decide (N[i]? = some x) && visB sc x && nameB x
    | _ => false
  | .enu a, x => match x with
    | .Call (.Name n _) [x] [] _ => bltB sc "enumerate" n && plainX x && mE sc a x
    | _ => false
  | .var i, x => match x with
    | .Name x _ => decide (N[i]? = some x) && visB sc x && nameB x
    | _ => false
  | .val a, x => plainX x && mE sc a x
end
end
end Msd
/-! Sound6: the context; the plain expressions. -/
namespace Msd
open PySem PySem.Spec PyProof.Rows L2 Mlg
/-- what a return hands back: a value, an object that is new or that was handed over -/
def RetR (K : Frag) (ρ : Env) (σ : St) (H : Hp) (ρ' : Env) (F' : Hp) (σ' : St) (H' : Hp) (v : V) : R → Prop
  | .val d => Rep K F' v d
  | .tmp o => ∃ p, v = .ref p ∧ F' p = none ∧ ObjR K F' H' p o ∧ ¬ Own ρ' σ' p ∧ (H p = none ∨ Own ρ σ p)
  | .loc _ => False
def OutF (T : Errs) (K : Frag) (E : XK) (ρ : Env) (F : Hp) (σ : St) (H : Hp) (res : Res (R × Env)) (Q : VK) : Prop := match res with
  | .ok p => ∀ v F' H', Step ρ σ F H p.2 σ F' H' → Sim K p.2 F' σ H' → RetR K ρ σ H p.2 F' σ H' v p.1 → Q v H'
  | .exc c f ρ' => ∀ F' H' cls d, Step ρ σ F H ρ' σ F' H' → Sim K ρ' F' σ H' → ExcR T K F' H' c f cls d → E cls d H'
  | .no => False
/-- a def's promise: what the small language's call gives -/
def spF (T : Errs) (K : Frag) (call : CallT) (f : Nat) : Sp := fun vs H Q E => ∃ (as : Env) (F : Hp), Sim K as F (vs.map some) H ∧ OutF T K E as F (vs.map some) H (call f as) Q
/-- an error class of the text -/
structure ExcF (K : Frag) (mg : Str → Option Value) (x : Str) (C : Addr) : Prop where
  gC : mg x = some (.ref C)
  kC : PySem.W.keepIn K (.ref C) = true
  sb : PySem.W.subIn K (.ref C) (.type "BaseException") = some true
  ty : PySem.W.typeIn K (.ref C) = some (.type "type")
abbrev veBase : List Value := [.type "ValueError", .type "Exception", .type "BaseException", .type "object"]
/-- what stands in the text beside its defs -/
structure GlobS (fnm : Nat → Option Str) (T : Errs) (K : Frag) (mg : Str → Option Value) : Prop where
  bl : ∀ x ∈ builtins, mg x = none
  ex : ∀ c x, T.nm c = some x → ExcF K mg x (T.at_ c)
  ex0 : ∀ c x, T.nm c = some x → T.fld c = none → PySem.W.excIn K (T.at_ c) veBase "ValueError.__new__" = true
  fl : ∀ c, (c == 7 || c == 13) = false → T.fld c = none
  em : ∀ c c' x x', T.nm c = some x → T.nm c' = some x' → PySem.W.exmOne K (.ref (T.at_ c)) (.ref (T.at_ c')) = some (decide (c = c'))
  gl : ∀ g d, fnm (100000 + g) = some (gnm g) → sameB d (glov g) = true → ∃ u v, mg (gnm g) = some u ∧ RelV v u ∧ ∀ F, Rep K F v d
structure Glob (fnm : Nat → Option Str) (T : Errs) (call : CallT) (k : Nat) (P : Program) (w : World) (K : Frag) (mg : Str → Option Value) (base : Heap) : Prop extends GlobS fnm T K mg where
  fn : ∀ f x, f < 100000 → fnm f = some x → ∃ a fd ps, mg x = some (.ref a) ∧ PySem.W.keepIn K (.ref a) = true ∧ Binds K fd ps [] ∧ FnOk P w K mg base (L2.CX P w) k a fd ps (spF T K call f)
structure Cok (fnm : Nat → Option Str) (T : Errs) (call : CallT) (k : Nat) (N : List Str) (X : Cx) (sc : Scope) : Prop where
  hN : X.N = N
  nd : N.Nodup
  hsc : X.env.scope = sc
  calm : X.calm = true
  room : Room k X.A
  G : Glob fnm T call k X.prog X.w X.K X.mg X.base

theorem PE.imp {X : Cx} {x : Expr} {t t' : TE} (h : PE X x t) (i : ∀ σ H Q, t' σ H Q → t σ H Q) : PE X x t' := ⟨fun pins s σ H Q I q => h.run pins s σ H Q I (i σ H Q q)⟩
theorem PT.imp {X : Cx} {x : Expr} {t t' : TT} (h : PT X x t) (i : ∀ σ H Q, t' σ H Q → t σ H Q) : PT X x t' := ⟨fun pins s σ H Q I q => h.run pins s σ H Q I (i σ H Q q)⟩
theorem PW.imp {X : Cx} {x : Expr} {t t' : TT} (h : PW X x t) (i : ∀ σ H Q, t' σ H Q → t σ H Q) : PW X x t' := ⟨fun wh pins s σ H Q I q => h.run wh pins s σ H Q I (i σ H Q q)⟩
theorem PA.imp {X : Cx} {x : List Expr} {t t' : TA} (h : PA X x t) (i : ∀ σ H Q, t' σ H Q → t σ H Q) : PA X x t' := ⟨fun pos pins s σ H Q I q => h.run pos pins s σ H Q I (i σ H Q q)⟩

theorem and3 {a b c : Bool} (h : (a && b && c) = true) : a = true ∧ b = true ∧ c = true := by
  cases a <;> cases b <;> cases c <;> first | exact ⟨rfl, rfl, rfl⟩ | cases h
theorem and2 {a b : Bool} (h : (a && b) = true) : a = true ∧ b = true := by
  cases a <;> cases b <;> first | exact ⟨rfl, rfl⟩ | cases h
theorem visB_ok {sc : Scope} {x : Str} (h : visB sc x = true) : Vis sc x := by
  unfold visB at h
  split at h
  · rename_i e; exact .inl e
  · rename_i e; exact .inr (.inl e)
  · rename_i e; exact .inr (.inr e)
  · cases h
theorem locB_ok {sc : Scope} {x : Str} (h : locB sc x = true) : Loc sc x := by
  unfold locB at h
  split at h
  · rename_i e; exact .inl e
  · rename_i e; exact .inr e
  · cases h
theorem nameB_ok {x : Str} (h : nameB x = true) : (x == ("__debug__" : Str)) = false ∧ (x == ("__classdict__" : Str)) = false ∧ x ≠ "__name__" := by
  obtain ⟨h1, h2, h3⟩ := and3 h
  refine ⟨by simpa using h1, by simpa using h2, fun e => ?_⟩
  subst e
  simp at h3
theorem sameB_ok {d e : D} (h : sameB d e = true) : d = e := by
  cases d <;> cases e <;> first | (cases h; done) | skip
  · exact congrArg PyData.int (of_decide_eq_true h)
  · exact congrArg PyData.str (of_decide_eq_true h)
theorem starEach_plain {x : Expr} {xs : List Expr} {env : PySem.Env} (h : plainX x = true) : starEach (x :: xs) env = (false, PySem.eval x env) :: starEach xs env := by
  cases x <;> first | rfl | cases h
theorem backTo_any : ∀ {pos : Pos} {l : List (Bool × Sem Value)}, (backTo pos l).any (·.1) = l.any (·.1) := by
  intro pos l
  unfold backTo
  rw [List.any_map]
  rfl
theorem plain_any {xs : List Expr} {env : PySem.Env} (h : ∀ x ∈ xs, plainX x = true) : (starEach xs env).any (·.1) = false := by
  induction xs with
  | nil => rfl
  | cons x r ih =>
    rw [starEach_plain (h x List.mem_cons_self), List.any_cons, ih fun y hy => h y (List.mem_cons_of_mem _ hy)]
    rfl

section
variable {fnm : Nat → Option Str} {T : Errs} {call : CallT} {k : Nat} {N : List Str}
def PrE (fnm : Nat → Option Str) (T : Errs) (call : CallT) (k : Nat) (N : List Str) (e : Mlg.E) : Prop :=
  ∀ (X : Cx) (W : WX) (sc : Scope) (x : Expr), Cok fnm T call k N X sc → Takes X W → mE fnm N sc e x = true → PE X x (LE T X.K W (Mlg.eval call e))
abbrev relT : St → Hp → Env → Hp → Hp → Bool → Bool → Prop := fun _ _ _ _ _ b c => b = c
abbrev LB (T : Errs) (K : Frag) (W : WX) (m : Env → Res (Bool × Env)) : TT := LX T K W relT m
theorem back_T {σ : St} : Back (relT σ) := fun _ _ _ _ _ _ _ _ h => h
def PrT (fnm : Nat → Option Str) (T : Errs) (call : CallT) (k : Nat) (N : List Str) (e : Mlg.E) : Prop :=
  ∀ (X : Cx) (W : WX) (sc : Scope) (x : Expr), Cok fnm T call k N X sc → Takes X W → tstB e = true → mE fnm N sc e x = true → PT X x (LB T X.K W fun ρ => asB (Mlg.eval call e ρ))
/-- a result that is True or False -/
theorem out_asB {K : Frag} {W : WX} {ρ : Env} {F : Hp} {σ : St} {H : Hp} {res : Res (R × Env)} {Q : Bool → Hp → Prop} (h : Out T K W ρ F σ H (relT σ) (asB res) Q) : Out T K W ρ F σ H (relE K σ) res (fun x H1 => ∃ c, x = .bl c ∧ Q c H1) := by
  cases res with
  | ok p =>
    obtain ⟨r, ρ'⟩ := p
    cases r with
    | val d =>
      cases d with
      | bool b => exact fun v F' H' s S rl => by cases rl; exact ⟨b, rfl, h b F' H' s S rfl⟩
      | none => exact h.elim
      | int _ => exact h.elim
      | str _ => exact h.elim
      | list _ => exact h.elim
      | tuple _ => exact h.elim
      | dict _ => exact h.elim
    | tmp o => exact h.elim
    | loc i => exact h.elim
  | exc c f ρ' => exact h
  | no => exact h
theorem lb_tB {K : Frag} {W : WX} {m : Env → Res (R × Env)} {σ : St} {H : Hp} {Q : Bool → Hp → Prop} (h : LB T K W (fun ρ => asB (m ρ)) σ H Q) : tB (LE T K W m) σ H Q := by
  obtain ⟨ρ, F, S, h⟩ := h
  exact ⟨ρ, F, S, out_asB h⟩
theorem pt_of {X : Cx} {x : Expr} {W : WX} {m : Env → Res (R × Env)} (h : PE X x (LE T X.K W m)) (he : ∀ whole, isTrue x X.env whole = (do let v ← whole; standAt x.pos; holding [v] (truthy v))) : PT X x (LB T X.K W fun ρ => asB (m ρ)) :=
  PT.imp (pt_val h he) fun σ H Q q => lb_tB q

/-! ### names, constants -/
theorem e_var (i : Nat) : PrE fnm T call k N (.var i) := by
  intro X W sc x C tk h
  unfold mE at h
  cases x <;> first | (cases h; done) | skip
  rename_i x p
  obtain ⟨h1, h2, h3⟩ := and3 h
  obtain ⟨n1, n2, _⟩ := nameB_ok h3
  refine PE.imp (pe_var (i := i) (by rw [C.hN]; exact of_decide_eq_true h1) (by rw [C.hsc]; exact visB_ok h2) n1 n2) fun σ H Q q => ?_
  obtain ⟨ρ, F, S, q⟩ := q
  unfold Mlg.eval getV at q
  cases e : ρ[i]? with
  | none => rw [e] at q; exact q.elim
  | some s =>
    rw [e] at q
    have hs := S.slot i s e
    cases s with
    | un => exact q.elim
    | val d => obtain ⟨v, h1, h2⟩ := hs; exact ⟨v, h1, out_val S q h2⟩
    | own o => obtain ⟨p, h1, _⟩ := hs; exact ⟨_, h1, q _ _ _ .refl S ⟨h1, _, rfl⟩⟩
    | lck o => obtain ⟨p, h1, _⟩ := hs; exact ⟨_, h1, q _ _ _ .refl S ⟨h1, _, rfl⟩⟩
    | ro xs => obtain ⟨p, vs, h1, _⟩ := hs; exact ⟨_, h1, q _ _ _ .refl S ⟨h1, _, rfl⟩⟩
theorem e_cst (d : D) : PrE fnm T call k N (.cst d) := by
  intro X W sc x C tk h
  unfold mE at h
  cases x <;> first | (cases h; done) | skip
  rename_i c j p
  replace h : cstB d c = true := h
  cases d <;> first | (cases h; done) | skip
  · cases c <;> first | (cases h; done) | skip
    exact PE.imp pe_non fun σ H Q q => by obtain ⟨ρ, F, S, q⟩ := q; exact out_val S q .non
  · cases c <;> first | (cases h; done) | skip
    rename_i a b
    have : a = b := eq_of_beq h
    subst this
    exact PE.imp pe_bl fun σ H Q q => by obtain ⟨ρ, F, S, q⟩ := q; exact out_val S q (.bl a)
  · cases c <;> first | (cases h; done) | skip
    rename_i a b
    have : a = b := of_decide_eq_true h
    subst this
    exact PE.imp pe_int fun σ H Q q => by obtain ⟨ρ, F, S, q⟩ := q; exact out_val S q (.int a)
  · cases c <;> first | (cases h; done) | skip
    rename_i a b
    have : a = b := of_decide_eq_true h
    subst this
    exact PE.imp pe_str fun σ H Q q => by obtain ⟨ρ, F, S, q⟩ := q; exact out_val S q (.str a)
theorem e_glo (g : Nat) (d : D) : PrE fnm T call k N (.glo g d) := by
  intro X W sc x C tk h
  unfold mE at h
  cases x <;> first | (cases h; done) | skip
  rename_i x p
  obtain ⟨hg, h⟩ := and2 h
  obtain ⟨h0, h2, h3⟩ := and3 h
  obtain ⟨h0, h1⟩ := and2 h0
  obtain ⟨n1, n2, _⟩ := nameB_ok h3
  have e : x = gnm g := of_decide_eq_true h0
  obtain ⟨u, v, m1, m2, m3⟩ := C.G.gl g d (by rw [← e]; exact of_decide_eq_true hg) h1
  refine PE.imp (pe_glob (x := x) (by show X.env.scope.names.lookup x = _; rw [C.hsc]; exact of_decide_eq_true h2) (by rw [e]; exact m1) m2 n1) fun σ H Q q => ?_
  obtain ⟨ρ, F, S, q⟩ := q
  exact out_val S q (m3 F)

/-! ### operators -/
/-- two parts, then an operator -/
theorem le_two {K : Frag} {W : WX} {m1 m2 : Env → Res (R × Env)} {kk : R → R → Env → Res (R × Env)} {r : R2} {σ : St} {H : Hp} {Q : VK}
    (hop : ∀ (ρ : Env) (F H' : Hp) (r1 r2 : R) (x y : V) (H0 : Hp), Sim K ρ F σ H' → RelR K H0 σ ρ F H' x r1 → RelR K H0 σ ρ F H' y r2 → Out T K W ρ F σ H' (relE K σ) (kk r1 r2 ρ) Q → r x y H' Q)
    (h : LE T K W (fun ρ => (m1 ρ).bind fun p => (m2 p.2).bind fun q => kk p.1 q.1 q.2) σ H Q) : tOp r (LE T K W m1) (LE T K W m2) σ H Q := by
  obtain ⟨ρ, F, S, h⟩ := h
  refine ⟨ρ, F, S, Out.bind back_E h fun r1 ρ1 x F1 H1 s1 S1 rl1 h1 => ⟨ρ1, F1, S1, Out.bind back_E h1 fun r2 ρ2 y F2 H2 s2 S2 rl2 h2 => ?_⟩⟩
  exact hop ρ2 F2 H2 r1 r2 x y H S2 (rl1.step S1 S2 s2) (back_E _ _ _ _ _ _ _ s1.dom rl2) h2
theorem out_of {K : Frag} {W : WX} {ρ : Env} {F : Hp} {σ : St} {H : Hp} {Q : VK} {o : Option R} (h : Out T K W ρ F σ H (relE K σ) ((Res.of o).bind fun r => .ok (r, ρ)) Q) : ∃ r, o = some r ∧ Out T K W ρ F σ H (relE K σ) (.ok (r, ρ)) Q := by
  cases o with
  | none => exact h.elim
  | some r => exact ⟨r, rfl, h⟩
theorem e_bin (o : Bi) {a b : Mlg.E} (ia : PrE fnm T call k N a) (ib : PrE fnm T call k N b) : PrE fnm T call k N (.bin o a b) := by
  intro X W sc x C tk h
  unfold mE at h
  cases x <;> first | (cases h; done) | skip
  rename_i x op y p
  obtain ⟨h1, h2⟩ := and2 h
  obtain ⟨h2, h3⟩ := and2 h2
  have e : op = opOf o := of_decide_eq_true h1
  subst e
  refine PE.imp (pe_op (op_bin o) (ia X W sc x C tk h2) (ib X W sc y C tk h3)) fun σ H Q q => ?_
  refine le_two (kk := fun r1 r2 ρ => match lookS ρ r1, lookS ρ r2 with
      | some x, some y => (Res.of (Mlg.bin o x y)).bind fun r => .ok (r, ρ)
      | _, _ => .no) (fun ρ F H' r1 r2 x y H0 S h1 h2 h => ?_) q
  try dsimp only at h
  cases e1 : lookS ρ r1 with
  | none => rw [e1] at h; exact h.elim
  | some dx =>
    cases e2 : lookS ρ r2 with
    | none => rw [e1, e2] at h; exact h.elim
    | some dy =>
      rw [e1, e2] at h
      obtain ⟨r, er, h⟩ := out_of h
      exact bin_ok S (lookS_ok S h1 e1) (lookS_ok S h2 e2) er h
theorem cmp_case {K : Frag} {W : WX} {ρ : Env} {F : Hp} {σ : St} {H H0 : Hp} {Q : VK} {o : Cm} {r1 r2 : R} {x y : V} (S : Sim K ρ F σ H) (h1 : RelR K H0 σ ρ F H x r1) (h2 : RelR K H0 σ ρ F H y r2)
    (h : Out T K W ρ F σ H (relE K σ) (match look ρ r1, look ρ r2 with
      | some x, some y => (Res.of (Mlg.cmp o x y)).bind fun r => .ok (.val (.bool r), ρ)
      | _, _ => .no) Q) : rCmp K o x y H Q := by
  cases e1 : look ρ r1 with
  | none => rw [e1] at h; exact h.elim
  | some dx =>
    cases e2 : look ρ r2 with
    | none => rw [e1, e2] at h; exact h.elim
    | some dy =>
      rw [e1, e2] at h
      dsimp only at h
      cases ec : Mlg.cmp o dx dy with
      | none => rw [ec] at h; exact h.elim
      | some b => rw [ec] at h; exact cmp_ok S.fh (look_ok S h1 e1) (look_ok S h2 e2) ec (out_val S h (.bl b))
theorem plain_marks {op : CmpOp} {y : Expr} (h : plainX y = true) : behindInMarks op y = false := by
  cases y <;> first | rfl | cases h
theorem e_cmp (o : Cm) {a b : Mlg.E} (ia : PrE fnm T call k N a) (ib : PrE fnm T call k N b) : PrE fnm T call k N (.cmp o a b) ∧ PrT fnm T call k N (.cmp o a b) := by
  have key : ∀ (X : Cx) (W : WX) (sc : Scope) (x : Expr), Cok fnm T call k N X sc → Takes X W → mE fnm N sc (.cmp o a b) x = true → ∃ x' y p, x = .Compare x' [cmOf o] [y] p ∧ plainX y = true ∧ PE X x' (LE T X.K W (Mlg.eval call a)) ∧ PE X y (LE T X.K W (Mlg.eval call b)) := by
    intro X W sc x C tk h
    unfold mE at h
    try dsimp only at h
    split at h
    · rename_i x' op y p
      obtain ⟨h1, hp, h2⟩ := and3 h
      obtain ⟨h2, h3⟩ := and2 h2
      have e : op = cmOf o := of_decide_eq_true h1
      subst e
      exact ⟨x', y, p, rfl, hp, ia X W sc x' C tk h2, ib X W sc y C tk h3⟩
    · cases h
  constructor
  · intro X W sc x C tk h
    obtain ⟨x', y, p, rfl, hp, h1, h2⟩ := key X W sc x C tk h
    refine PE.imp (pe_cmpR (op_cmp o (by have := C.room.un; omega)) h1 h2 (plain_marks hp)) fun σ H Q q => ?_
    exact le_two (kk := fun r1 r2 ρ => match look ρ r1, look ρ r2 with
      | some x, some y => (Res.of (Mlg.cmp o x y)).bind fun r => .ok (.val (.bool r), ρ)
      | _, _ => .no) (fun ρ F H' r1 r2 x y H0 S h1 h2 h => cmp_case S h1 h2 h) q
  · intro X W sc x C tk ht h
    obtain ⟨x', y, p, rfl, hp, h1, h2⟩ := key X W sc x C tk h
    refine PT.imp (pt_cmpR (op_cmp o (by have := C.room.un; omega)) h1 h2 (plain_marks hp)) fun σ H Q q => ?_
    exact le_two (kk := fun r1 r2 ρ => match look ρ r1, look ρ r2 with
      | some x, some y => (Res.of (Mlg.cmp o x y)).bind fun r => .ok (.val (.bool r), ρ)
      | _, _ => .no) (fun ρ F H' r1 r2 x y H0 S h1 h2 h => cmp_case S h1 h2 h) (lb_tB q)
end
end Msd
/-! Sound7: tests, conditional expressions, chains. -/
namespace Msd
open PySem PySem.Spec PyProof.Rows L2 Mlg
section
variable {fnm : Nat → Option Str} {T : Errs} {call : CallT} {k : Nat} {N : List Str}
theorem e_neg {a : Mlg.E} (ia : PrE fnm T call k N a) : PrE fnm T call k N (.neg a) := by
  intro X W sc x C tk h
  unfold mE at h
  try dsimp only at h
  split at h
  · rename_i x p
    refine PE.imp (pe_un un_neg (ia X W sc x C tk h)) fun σ H Q q => ?_
    obtain ⟨ρ, F, S, q⟩ := q
    refine ⟨ρ, F, S, Out.bind back_E q fun r1 ρ1 v F1 H1 s1 S1 rl1 h1 => ?_⟩
    cases r1 with
    | val d =>
      cases d <;> first | exact h1.elim | skip
      cases rl1
      exact ⟨_, rfl, out_val S1 h1 (.int _)⟩
    | tmp _ => exact h1.elim
    | loc _ => exact h1.elim
  · cases h
/-- None is told from all else -/
theorem none_iff {K : Frag} {H0 : Hp} {σ : St} {ρ : Env} {F H : Hp} {v : V} {r : R} (h : RelR K H0 σ ρ F H v r) : decide (v = .non) = isNone r := by
  have nn : ∀ {p : Addr}, decide (V.ref p = .non) = false := fun {p} => decide_eq_false (fun z => by cases z)
  cases r with
  | val d =>
    cases d with
    | none => cases h; rfl
    | bool b => cases h; rfl
    | int b => cases h; rfl
    | str b => cases h; rfl
    | list b => cases h; exact nn
    | tuple b => cases h; exact nn
    | dict b =>
      have h : Rep K F v (.dict b) := h
      generalize e : PyData.dict b = d at h
      cases h <;> first | (cases e; done) | exact nn
  | tmp o => obtain ⟨p, rfl, _⟩ := h; exact nn
  | loc i => obtain ⟨_, p, rfl⟩ := h; exact nn
theorem val_isN {a : Mlg.E} {K : Frag} {W : WX} {σ : St} {H : Hp} {Q : VK} (q : LE T K W (Mlg.eval call (.isN a)) σ H Q) : tOp (fun x y H Q => y = .non ∧ Q (.bl (decide (x = .non))) H) (LE T K W (Mlg.eval call a)) (tC .non) σ H Q := by
  obtain ⟨ρ, F, S, q⟩ := q
  refine ⟨ρ, F, S, Out.bind back_E q fun r1 ρ1 v F1 H1 s1 S1 rl1 h1 => ⟨rfl, ?_⟩⟩
  rw [none_iff rl1]
  exact out_val S1 h1 (.bl _)
theorem val_ntN {a : Mlg.E} {K : Frag} {W : WX} {σ : St} {H : Hp} {Q : VK} (q : LE T K W (Mlg.eval call (.ntN a)) σ H Q) : tOp (fun x y H Q => y = .non ∧ Q (.bl (!decide (x = .non))) H) (LE T K W (Mlg.eval call a)) (tC .non) σ H Q := by
  obtain ⟨ρ, F, S, q⟩ := q
  refine ⟨ρ, F, S, Out.bind back_E q fun r1 ρ1 v F1 H1 s1 S1 rl1 h1 => ⟨rfl, ?_⟩⟩
  rw [none_iff rl1]
  exact out_val S1 h1 (.bl _)
theorem e_isN {a : Mlg.E} (ia : PrE fnm T call k N a) : PrE fnm T call k N (.isN a) ∧ PrT fnm T call k N (.isN a) := by
  have key : ∀ (X : Cx) (W : WX) (sc : Scope) (x : Expr), Cok fnm T call k N X sc → Takes X W → mE fnm N sc (.isN a) x = true → ∃ x' j p p', x = .Compare x' [.Is] [.Constant .none j p'] p ∧ PE X x' (LE T X.K W (Mlg.eval call a)) := by
    intro X W sc x C tk h
    unfold mE at h
    try dsimp only at h
    split at h
    · rename_i x' j p' p
      exact ⟨x', j, p, p', rfl, ia X W sc x' C tk h⟩
    · cases h
  constructor
  · intro X W sc x C tk h
    obtain ⟨x', j, p, p', rfl, h1⟩ := key X W sc x C tk h
    exact PE.imp (pe_cmpR op_isN h1 pe_non rfl) fun σ H Q q => val_isN q
  · intro X W sc x C tk ht h
    obtain ⟨x', j, p, p', rfl, h1⟩ := key X W sc x C tk h
    exact PT.imp (pt_cmpR op_isN h1 pe_non rfl) fun σ H Q q => val_isN (lb_tB q)
theorem e_ntN {a : Mlg.E} (ia : PrE fnm T call k N a) : PrE fnm T call k N (.ntN a) ∧ PrT fnm T call k N (.ntN a) := by
  have key : ∀ (X : Cx) (W : WX) (sc : Scope) (x : Expr), Cok fnm T call k N X sc → Takes X W → mE fnm N sc (.ntN a) x = true → ∃ x' j p p', x = .Compare x' [.IsNot] [.Constant .none j p'] p ∧ PE X x' (LE T X.K W (Mlg.eval call a)) := by
    intro X W sc x C tk h
    unfold mE at h
    try dsimp only at h
    split at h
    · rename_i x' j p' p
      exact ⟨x', j, p, p', rfl, ia X W sc x' C tk h⟩
    · cases h
  constructor
  · intro X W sc x C tk h
    obtain ⟨x', j, p, p', rfl, h1⟩ := key X W sc x C tk h
    exact PE.imp (pe_cmpR op_notN h1 pe_non rfl) fun σ H Q q => val_ntN q
  · intro X W sc x C tk ht h
    obtain ⟨x', j, p, p', rfl, h1⟩ := key X W sc x C tk h
    exact PT.imp (pt_cmpR op_notN h1 pe_non rfl) fun σ H Q q => val_ntN (lb_tB q)

/-! ### and, or, not -/
theorem asB_bind {α : Type} (m : Res (α × Env)) (kk : α × Env → Res (R × Env)) : asB (m.bind kk) = m.bind fun p => asB (kk p) := by
  cases m <;> rfl
theorem asB_ite {c : Prop} [Decidable c] (a b : Res (R × Env)) : asB (if c then a else b) = if c then asB a else asB b := by
  split <;> rfl
section
variable {K : Frag} {W : WX} {σ : St} {H : Hp}
theorem lb_and {a b : Mlg.E} {Q : Bool → Hp → Prop} (q : LB T K W (fun ρ => asB (Mlg.eval call (.and a b) ρ)) σ H Q) : tAnd (LB T K W fun ρ => asB (Mlg.eval call a ρ)) (LB T K W fun ρ => asB (Mlg.eval call b ρ)) σ H Q := by
  obtain ⟨ρ, F, S, q⟩ := q
  unfold Mlg.eval at q
  dsimp only at q
  rw [asB_bind] at q
  refine ⟨ρ, F, S, Out.bind back_T q fun r1 ρ1 c F1 H1 s1 S1 rl1 h1 => ?_⟩
  subst rl1
  rw [asB_ite] at h1
  cases c with
  | true => rw [if_pos rfl] at h1 ⊢; exact ⟨ρ1, F1, S1, h1⟩
  | false => rw [if_neg Bool.false_ne_true] at h1 ⊢; exact h1 false F1 H1 .refl S1 rfl
theorem lb_or {a b : Mlg.E} {Q : Bool → Hp → Prop} (q : LB T K W (fun ρ => asB (Mlg.eval call (.or a b) ρ)) σ H Q) : tOr (LB T K W fun ρ => asB (Mlg.eval call a ρ)) (LB T K W fun ρ => asB (Mlg.eval call b ρ)) σ H Q := by
  obtain ⟨ρ, F, S, q⟩ := q
  unfold Mlg.eval at q
  dsimp only at q
  rw [asB_bind] at q
  refine ⟨ρ, F, S, Out.bind back_T q fun r1 ρ1 c F1 H1 s1 S1 rl1 h1 => ?_⟩
  subst rl1
  rw [asB_ite] at h1
  cases c with
  | true => rw [if_pos rfl] at h1 ⊢; exact h1 true F1 H1 .refl S1 rfl
  | false => rw [if_neg Bool.false_ne_true] at h1 ⊢; exact ⟨ρ1, F1, S1, h1⟩
theorem lb_not {a : Mlg.E} {Q : Bool → Hp → Prop} (q : LB T K W (fun ρ => asB (Mlg.eval call (.not a) ρ)) σ H Q) : tNot (LB T K W fun ρ => asB (Mlg.eval call a ρ)) σ H Q := by
  obtain ⟨ρ, F, S, q⟩ := q
  unfold Mlg.eval at q
  dsimp only at q
  rw [asB_bind] at q
  refine ⟨ρ, F, S, Out.bind back_T q fun r1 ρ1 c F1 H1 s1 S1 rl1 h1 => ?_⟩
  subst rl1
  exact h1 (!c) F1 H1 .refl S1 rfl
theorem le_and {a b : Mlg.E} {Q : VK} (q : LE T K W (Mlg.eval call (.and a b)) σ H Q) : tAndV (LE T K W (Mlg.eval call a)) (LE T K W (Mlg.eval call b)) σ H Q := by
  obtain ⟨ρ, F, S, q⟩ := q
  unfold Mlg.eval at q
  refine ⟨ρ, F, S, ?_⟩
  refine out_asB (Q := fun c H1 => if c = true then LE T K W (Mlg.eval call b) σ H1 Q else Q (.bl false) H1) (Out.bind back_E q fun r1 ρ1 c F1 H1 s1 S1 rl1 h1 => ?_)
  subst rl1
  cases c with
  | true => rw [if_pos rfl] at h1 ⊢; exact ⟨ρ1, F1, S1, h1⟩
  | false => rw [if_neg Bool.false_ne_true] at h1 ⊢; exact out_val S1 h1 (.bl false)
theorem le_or {a b : Mlg.E} {Q : VK} (q : LE T K W (Mlg.eval call (.or a b)) σ H Q) : tOrV (LE T K W (Mlg.eval call a)) (LE T K W (Mlg.eval call b)) σ H Q := by
  obtain ⟨ρ, F, S, q⟩ := q
  unfold Mlg.eval at q
  refine ⟨ρ, F, S, ?_⟩
  refine out_asB (Q := fun c H1 => if c = true then Q (.bl true) H1 else LE T K W (Mlg.eval call b) σ H1 Q) (Out.bind back_E q fun r1 ρ1 c F1 H1 s1 S1 rl1 h1 => ?_)
  subst rl1
  cases c with
  | true => rw [if_pos rfl] at h1 ⊢; exact out_val S1 h1 (.bl true)
  | false => rw [if_neg Bool.false_ne_true] at h1 ⊢; exact ⟨ρ1, F1, S1, h1⟩
theorem le_not {a : Mlg.E} {Q : VK} (q : LE T K W (Mlg.eval call (.not a)) σ H Q) : tNotV (LE T K W (Mlg.eval call a)) σ H Q := by
  obtain ⟨ρ, F, S, q⟩ := q
  unfold Mlg.eval at q
  refine ⟨ρ, F, S, ?_⟩
  refine out_asB (Q := fun c H1 => Q (.bl (!c)) H1) (Out.bind back_E q fun r1 ρ1 c F1 H1 s1 S1 rl1 h1 => ?_)
  subst rl1
  exact out_val S1 h1 (.bl _)
theorem le_ite {c a b : Mlg.E} {Q : VK} (q : LE T K W (Mlg.eval call (.ite c a b)) σ H Q) : tIf (LB T K W fun ρ => asB (Mlg.eval call c ρ)) (LE T K W (Mlg.eval call a)) (LE T K W (Mlg.eval call b)) σ H Q := by
  obtain ⟨ρ, F, S, q⟩ := q
  unfold Mlg.eval at q
  refine ⟨ρ, F, S, Out.bind back_E q fun r1 ρ1 c F1 H1 s1 S1 rl1 h1 => ?_⟩
  subst rl1
  cases c with
  | true => rw [if_pos rfl] at h1 ⊢; exact ⟨ρ1, F1, S1, h1⟩
  | false => rw [if_neg Bool.false_ne_true] at h1 ⊢; exact ⟨ρ1, F1, S1, h1⟩
end
/-- a test whatever is around, for and | or -/
def PrW (fnm : Nat → Option Str) (T : Errs) (call : CallT) (k : Nat) (N : List Str) (e : Mlg.E) : Prop :=
  ∀ (X : Cx) (W : WX) (sc : Scope) (op : BoolOp) (xs : List Expr) (p : Pos), Cok fnm T call k N X sc → Takes X W → mE fnm N sc e (.BoolOp op xs p) = true → PW X (.BoolOp op xs p) (LB T X.K W fun ρ => asB (Mlg.eval call e ρ))
theorem e_and {a b : Mlg.E} (ia : PrE fnm T call k N a) (ta : PrT fnm T call k N a) (ib : PrE fnm T call k N b) (tb : PrT fnm T call k N b) (wb : PrW fnm T call k N b) : PrE fnm T call k N (.and a b) ∧ PrT fnm T call k N (.and a b) ∧ PrW fnm T call k N (.and a b) := by
  have w : PrW fnm T call k N (.and a b) := by
    intro X W sc op xs p C tk h
    unfold mE at h
    try dsimp only at h
    split at h
    · rename_i x y p' heq
      cases heq
      obtain ⟨t1, t2, h1⟩ := and3 h
      obtain ⟨h1, h2⟩ := and2 h1
      exact PW.imp (pw_and (ta X W sc x C tk t1 h1) (pw_and1 (tb X W sc y C tk t2 h2))) fun σ H Q q => lb_and q
    · rename_i x y z r p' heq
      cases heq
      obtain ⟨t1, t2, h1⟩ := and3 h
      obtain ⟨h1, h2⟩ := and2 h1
      exact PW.imp (pw_and (ta X W sc x C tk t1 h1) (wb X W sc _ _ _ C tk h2)) fun σ H Q q => lb_and q
    · cases h
  refine ⟨fun X W sc x C tk h => ?_, fun X W sc x C tk ht h => ?_, w⟩
  · unfold mE at h
    try dsimp only at h
    split at h
    · rename_i x y p'
      obtain ⟨t1, t2, h1⟩ := and3 h
      obtain ⟨h1, h2⟩ := and2 h1
      exact PE.imp (pe_and (ia X W sc x C tk h1) (pe_one (ib X W sc y C tk h2))) fun σ H Q q => le_and q
    · rename_i x y z r p'
      obtain ⟨t1, t2, h1⟩ := and3 h
      obtain ⟨h1, h2⟩ := and2 h1
      exact PE.imp (pe_and (ia X W sc x C tk h1) (ib X W sc _ C tk h2)) fun σ H Q q => le_and q
    · cases h
  · have h0 := h
    unfold mE at h
    try dsimp only at h
    split at h
    · exact (w X W sc _ _ _ C tk h0).pt
    · exact (w X W sc _ _ _ C tk h0).pt
    · cases h
theorem e_or {a b : Mlg.E} (ia : PrE fnm T call k N a) (ta : PrT fnm T call k N a) (ib : PrE fnm T call k N b) (tb : PrT fnm T call k N b) (wb : PrW fnm T call k N b) : PrE fnm T call k N (.or a b) ∧ PrT fnm T call k N (.or a b) ∧ PrW fnm T call k N (.or a b) := by
  have w : PrW fnm T call k N (.or a b) := by
    intro X W sc op xs p C tk h
    unfold mE at h
    try dsimp only at h
    split at h
    · rename_i x y p' heq
      cases heq
      obtain ⟨t1, t2, h1⟩ := and3 h
      obtain ⟨h1, h2⟩ := and2 h1
      exact PW.imp (pw_or (ta X W sc x C tk t1 h1) (pw_or1 (tb X W sc y C tk t2 h2))) fun σ H Q q => lb_or q
    · rename_i x y z r p' heq
      cases heq
      obtain ⟨t1, t2, h1⟩ := and3 h
      obtain ⟨h1, h2⟩ := and2 h1
      exact PW.imp (pw_or (ta X W sc x C tk t1 h1) (wb X W sc _ _ _ C tk h2)) fun σ H Q q => lb_or q
    · cases h
  refine ⟨fun X W sc x C tk h => ?_, fun X W sc x C tk ht h => ?_, w⟩
  · unfold mE at h
    try dsimp only at h
    split at h
    · rename_i x y p'
      obtain ⟨t1, t2, h1⟩ := and3 h
      obtain ⟨h1, h2⟩ := and2 h1
      exact PE.imp (pe_or (ia X W sc x C tk h1) (pe_one (ib X W sc y C tk h2))) fun σ H Q q => le_or q
    · rename_i x y z r p'
      obtain ⟨t1, t2, h1⟩ := and3 h
      obtain ⟨h1, h2⟩ := and2 h1
      exact PE.imp (pe_or (ia X W sc x C tk h1) (ib X W sc _ C tk h2)) fun σ H Q q => le_or q
    · cases h
  · have h0 := h
    unfold mE at h
    try dsimp only at h
    split at h
    · exact (w X W sc _ _ _ C tk h0).pt
    · exact (w X W sc _ _ _ C tk h0).pt
    · cases h
theorem e_not {a : Mlg.E} (ia : PrE fnm T call k N a) (ta : PrT fnm T call k N a) : PrE fnm T call k N (.not a) ∧ PrT fnm T call k N (.not a) := by
  refine ⟨fun X W sc x C tk h => ?_, fun X W sc x C tk ht h => ?_⟩
  · unfold mE at h
    try dsimp only at h
    split at h
    · rename_i x p
      obtain ⟨t1, h1⟩ := and2 h
      exact PE.imp (pe_not (ia X W sc x C tk h1)) fun σ H Q q => le_not q
    · cases h
  · unfold mE at h
    try dsimp only at h
    split at h
    · rename_i x p
      obtain ⟨t1, h1⟩ := and2 h
      exact PT.imp (pt_not (ta X W sc x C tk t1 h1)) fun σ H Q q => lb_not q
    · cases h
theorem e_ite {c a b : Mlg.E} (tc : PrT fnm T call k N c) (ia : PrE fnm T call k N a) (ib : PrE fnm T call k N b) : PrE fnm T call k N (.ite c a b) := by
  intro X W sc x C tk h
  unfold mE at h
  try dsimp only at h
  split at h
  · rename_i z x y p
    obtain ⟨t1, h1⟩ := and2 h
    obtain ⟨h1, h2, h3⟩ := and3 h1
    exact PE.imp (pe_ifExp (tc X W sc z C tk t1 h1) (ia X W sc x C tk h2) (ib X W sc y C tk h3)) fun σ H Q q => le_ite q
  · cases h
/-! ### chains -/
theorem le_chain {o o2 : Cm} {a b c : Mlg.E} {K : Frag} {W : WX} {σ : St} {H : Hp} {Q : VK} (q : LE T K W (Mlg.eval call (.chn o o2 a b c)) σ H Q) : tChain (rCmp K o) (rCmp K o2) (LE T K W (Mlg.eval call a)) (LE T K W (Mlg.eval call b)) (LE T K W (Mlg.eval call c)) σ H Q := by
  obtain ⟨ρ, F, S, q⟩ := q
  unfold Mlg.eval at q
  refine ⟨ρ, F, S, Out.bind back_E q fun r1 ρ1 x F1 H1 s1 S1 rl1 h1 => ⟨ρ1, F1, S1, Out.bind back_E h1 fun r2 ρ2 y F2 H2 s2 S2 rl2 h2 => ?_⟩⟩
  have rl1 := rl1.step S1 S2 s2
  try dsimp only at h2
  cases e1 : look ρ2 r1 with
  | none => rw [e1] at h2; exact h2.elim
  | some dx =>
    rw [e1] at h2
    cases r2 with
    | tmp _ => exact h2.elim
    | loc _ => exact h2.elim
    | val dy =>
      try dsimp only at h2
      cases ec : Mlg.cmp o dx dy with
      | none => rw [ec] at h2; exact h2.elim
      | some r =>
        rw [ec] at h2
        refine cmp_ok (Q := fun z H3 => ∃ k, z = .bl k ∧ (if k = true then LE T K W (Mlg.eval call c) σ H3 fun w' H4 => rCmp K o2 y w' H4 Q else Q (.bl false) H3)) S2.fh (look_ok S2 rl1 e1) (.inl (.inl rl2)) ec ⟨r, rfl, ?_⟩
        have h2 : Out T K W ρ2 F2 σ H2 (relE K σ) (if r = true then (Mlg.eval call c ρ2).bind fun s => match look s.2 s.1 with
            | some z => (Res.of (Mlg.cmp o2 dy z)).bind fun r2 => .ok (.val (.bool r2), s.2)
            | none => .no
          else .ok (.val (.bool false), ρ2)) Q := h2
        cases r with
        | false => rw [if_neg (by decide)] at h2 ⊢; exact out_val S2 h2 (.bl false)
        | true =>
          rw [if_pos rfl] at h2 ⊢
          refine ⟨ρ2, F2, S2, Out.bind back_E h2 fun r3 ρ3 z F3 H3 s3 S3 rl3 h3 => ?_⟩
          try dsimp only at h3
          cases e3 : look ρ3 r3 with
          | none => rw [e3] at h3; exact h3.elim
          | some dz =>
            rw [e3] at h3
            try dsimp only at h3
            cases ec3 : Mlg.cmp o2 dy dz with
            | none => rw [ec3] at h3; exact h3.elim
            | some b => rw [ec3] at h3; exact cmp_ok S3.fh (.inl (.inl (Rep.mono s3.ext rl2))) (look_ok S3 rl3 e3) ec3 (out_val S3 h3 (.bl b))
theorem e_chn (o o2 : Cm) {a b c : Mlg.E} (ia : PrE fnm T call k N a) (ib : PrE fnm T call k N b) (ic : PrE fnm T call k N c) : PrE fnm T call k N (.chn o o2 a b c) ∧ PrT fnm T call k N (.chn o o2 a b c) := by
  have key : ∀ (X : Cx) (W : WX) (sc : Scope) (x : Expr), Cok fnm T call k N X sc → Takes X W → mE fnm N sc (.chn o o2 a b c) x = true → ∃ x' y z p, x = .Compare x' [cmOf o, cmOf o2] [y, z] p ∧ plainX z = true ∧ PE X x' (LE T X.K W (Mlg.eval call a)) ∧ PE X y (LE T X.K W (Mlg.eval call b)) ∧ PE X z (LE T X.K W (Mlg.eval call c)) := by
    intro X W sc x C tk h
    unfold mE at h
    try dsimp only at h
    split at h
    · rename_i x' op op2 y z p
      obtain ⟨h1, hp, h2⟩ := and3 h
      obtain ⟨h1, h1'⟩ := and2 h1
      obtain ⟨h2, h3, h4⟩ := and3 h2
      have e : op = cmOf o := of_decide_eq_true h1
      have e' : op2 = cmOf o2 := of_decide_eq_true h1'
      subst e e'
      exact ⟨x', y, z, p, rfl, hp, ia X W sc x' C tk h2, ib X W sc y C tk h3, ic X W sc z C tk h4⟩
    · cases h
  have mk : ∀ {z y : Expr}, plainX z = true → lastMarks [cmOf o, cmOf o2] [y, z] = false := fun hp => plain_marks hp
  constructor
  · intro X W sc x C tk h
    obtain ⟨x', y, z, p, rfl, hp, h1, h2, h3⟩ := key X W sc x C tk h
    exact PE.imp (pe_chain (op_cmp o (by have := C.room.un; omega)) (op_cmp o2 (by have := C.room.un; omega)) h1 h2 h3 (mk hp)) fun σ H Q q => le_chain q
  · intro X W sc x C tk ht h
    obtain ⟨x', y, z, p, rfl, hp, h1, h2, h3⟩ := key X W sc x C tk h
    exact PT.imp (pt_chain (op_cmp o (by have := C.room.un; omega)) (op_cmp o2 (by have := C.room.un; omega)) h1 h2 h3 (mk hp)) fun σ H Q q => le_chain (lb_tB q)
end
end Msd
/-! SoundP: built-ins that the layer lacks: min, max of tuples; len(set(..)); sorted tuples. -/
namespace Msd
open PySem PySem.Spec PyProof.Rows PySem.W L2 Mlg
section
variable {X : Cx}
theorem dp_ints {K : Frag} {H : Hp} : ∀ ns : List Int, DpAll K H (ns.map V.int) (ns.map PyData.int)
  | [] => .nil
  | n :: r => .cons (.int n) (dp_ints r)
theorem alikeAll_ints (ns : List Int) : AlikeAll (ns.map PyData.int) := by
  refine ⟨fun x hx y hy => ?_, fun x hx => ?_⟩
  · obtain ⟨i, _, rfl⟩ := List.mem_map.mp hx
    obtain ⟨j, _, rfl⟩ := List.mem_map.mp hy
    rfl
  · obtain ⟨i, _, rfl⟩ := List.mem_map.mp hx
    exact fun z => by cases z
theorem minI_fold : ∀ (ns : List Int) (n : Int), ns.foldl min n = minI n ns
  | [], _ => rfl
  | k :: r, n => by
    rw [List.foldl_cons, minI_fold r]
    show minI (min n k) r = minI (if k < n then k else n) r
    congr 1
    split <;> omega
theorem maxI_fold : ∀ (ns : List Int) (n : Int), ns.foldl max n = maxI n ns
  | [], _ => rfl
  | k :: r, n => by
    rw [List.foldl_cons, maxI_fold r]
    show maxI (max n k) r = maxI (if k > n then k else n) r
    congr 1
    split <;> omega
def rMinM (K : Frag) (f : Int → List Int → Int) : List V → Hp → VK → Prop := fun xs H Q => ∃ (a : Addr) (n : Int) (ns : List Int), xs = [.ref a] ∧ (SqL K H a ((n :: ns).map V.int) ∨ SqT K H a ((n :: ns).map V.int)) ∧ Q (.int (f n ns)) H
theorem cr_minM (hc : X.calm = true) (hu : X.A.units + 1 < cLine) : CallR X (.builtin "min") (rMinM X.K minI) := by
  intro pins s σ H xs us Q I r h
  obtain ⟨a, n, ns, rfl, hs, q⟩ := h
  rw [Vals.ref1 r]
  have fin : ∀ (v : Value) (h' : Heap) (tk : Nat) (bs : List Addr), Reads h' v (minD (.int n) (ns.map .int)) bs → (∀ b o, s.heap.get? b = some o → h'.get? b = some o) → EP X pins σ Q v { s with heap := h', toks := tk } := by
    intro v h' tk bs rd hk
    rw [minD_ints, minI_fold] at rd
    cases rd
    exact ⟨.int _, H, I.kept hk, ⟨_, rfl⟩, q⟩
  have hd : X.A.units + 1 + PyData.depthAll ((n :: ns).map PyData.int) < cLine := by rw [depth_ints]; exact hu
  rcases hs with hs | hs
  · obtain ⟨its, rv, hl, _⟩ := I.list hs
    obtain ⟨as, ra⟩ := Dp.readsAll I _ _ _ (dp_ints (n :: ns)) rv
    exact min_list_data (I.ok.hd hc) hl.isList (x := .int n) (xs := ns.map .int) (by simpa using ra) (alikeAll_ints (n :: ns)) hd fun i v h' tk bs _ rd hk => fin v h' tk bs rd hk
  · obtain ⟨its, rv, hl, _⟩ := I.tuple hs
    obtain ⟨as, ra⟩ := Dp.readsAll I _ _ _ (dp_ints (n :: ns)) rv
    exact min_tuple_data (I.ok.hd hc) hl (x := .int n) (xs := ns.map .int) (by simpa using ra) (alikeAll_ints (n :: ns)) hd fun i v h' tk bs _ rd hk => fin v h' tk bs rd hk
theorem cr_maxM (hc : X.calm = true) (hu : X.A.units + 1 < cLine) : CallR X (.builtin "max") (rMinM X.K maxI) := by
  intro pins s σ H xs us Q I r h
  obtain ⟨a, n, ns, rfl, hs, q⟩ := h
  rw [Vals.ref1 r]
  have fin : ∀ (v : Value) (h' : Heap) (tk : Nat) (bs : List Addr), Reads h' v (maxD (.int n) (ns.map .int)) bs → (∀ b o, s.heap.get? b = some o → h'.get? b = some o) → EP X pins σ Q v { s with heap := h', toks := tk } := by
    intro v h' tk bs rd hk
    rw [maxD_ints, maxI_fold] at rd
    cases rd
    exact ⟨.int _, H, I.kept hk, ⟨_, rfl⟩, q⟩
  have hd : X.A.units + 1 + PyData.depthAll ((n :: ns).map PyData.int) < cLine := by rw [depth_ints]; exact hu
  rcases hs with hs | hs
  · obtain ⟨its, rv, hl, _⟩ := I.list hs
    obtain ⟨as, ra⟩ := Dp.readsAll I _ _ _ (dp_ints (n :: ns)) rv
    exact max_list_data (I.ok.hd hc) hl.isList (x := .int n) (xs := ns.map .int) (by simpa using ra) (alikeAll_ints (n :: ns)) hd fun i v h' tk bs _ rd hk => fin v h' tk bs rd hk
  · obtain ⟨its, rv, hl, _⟩ := I.tuple hs
    obtain ⟨as, ra⟩ := Dp.readsAll I _ _ _ (dp_ints (n :: ns)) rv
    exact max_tuple_data (I.ok.hd hc) hl (x := .int n) (xs := ns.map .int) (by simpa using ra) (alikeAll_ints (n :: ns)) hd fun i v h' tk bs _ rd hk => fin v h' tk bs rd hk
/-! ### len(set(xs)) -/
theorem dd_mem : ∀ (ns acc : List Int) (k : Int), k ∈ ns.foldl step_dedup acc ↔ k ∈ acc ∨ k ∈ ns
  | [], acc, k => by simp
  | n :: r, acc, k => by
    rw [List.foldl_cons, dd_mem r]
    unfold step_dedup
    split
    · rename_i h
      have : n ∈ acc := by simpa using h
      constructor
      · rintro (h | h)
        · exact .inl h
        · exact .inr (List.mem_cons_of_mem _ h)
      · rintro (h | h)
        · exact .inl h
        · rcases List.mem_cons.mp h with rfl | h
          · exact .inl this
          · exact .inr h
    · simp [List.mem_append, or_assoc]
theorem dd_nodup : ∀ (ns acc : List Int), acc.Nodup → (ns.foldl step_dedup acc).Nodup
  | [], _, h => h
  | n :: r, acc, h => by
    rw [List.foldl_cons]
    refine dd_nodup r _ ?_
    unfold step_dedup
    split
    · exact h
    · rename_i hn
      have hn : n ∉ acc := by simpa using hn
      rw [List.nodup_append]
      exact ⟨h, by simp, fun a ha b hb => by rw [List.mem_singleton] at hb; subst hb; exact fun z => hn (z ▸ ha)⟩
theorem firstMet_all (ns : List Int) : firstMet (fun i => ns.getD i 0) ns.length = ns.foldl step_dedup [] := by
  unfold firstMet
  congr 1
  apply List.ext_getElem?
  intro i
  rw [List.getElem?_map]
  by_cases h : i < ns.length
  · rw [List.getElem?_range h, List.getElem?_eq_getElem h]
    simp [List.getD_eq_getElem?_getD, List.getElem?_eq_getElem h]
  · rw [List.getElem?_eq_none (by simpa using h), List.getElem?_eq_none (by omega)]
    rfl
def tLenSetM (K : Frag) (ta : TE) : TE := fun σ H Q => ta σ H fun x H1 => ∃ (l : Addr) (ns : List Int), x = .ref l ∧ (SqL K H1 l (ns.map V.int) ∨ SqT K H1 l (ns.map V.int)) ∧ ns.length ≤ 4000 ∧ Q (.int (ns.foldl step_dedup []).length) H1
theorem pe_lenSetM {a : Expr} {ta : TE} {p p2 q pos : Pos} (hc : X.calm = true) (hg : Gl X "len") (hm : X.mg "len" = none) (hg2 : Gl X "set") (hm2 : X.mg "set" = none) (ha : PE X a ta)
    (na : starEach [a] X.env = (false, PySem.eval a X.env) :: starEach [] X.env) : PE X (.Call (.Name "len" p) [.Call (.Name "set" p2) [a] [] q] [] pos) (tLenSetM X.K ta) := by
  refine ⟨fun pins s σ H Q I h => ?_⟩
  refine Call_ (ld_blt I hg hm boot_len ?_)
  refine PyProof.Rows.callWith_builtin1 (PyProof.Rows.args_cons ?_ rfl) rfl rfl
  refine Call_ (ld_blt I hg2 hm2 boot_set ?_)
  refine PyProof.Rows.callWith_type1 (PyProof.Rows.args_cons (thn (ha.run pins s σ H _ I h) fun v s1 ⟨x, H1, I1, r1, q1⟩ => PyProof.Rows.args_nil ?_) na) na rfl
  obtain ⟨l, ns, rfl, hq, hl, q1⟩ := q1
  cases r1
  rcases hq with hq | hq
  · obtain ⟨its, r, pl, hz⟩ := I1.list hq
    have hlen : its.toArray.size = ns.length := by rw [List.size_toArray, ← r.length, List.length_map]
    refine call_set_list (I1.ok.hd hc) pl.isList (by simpa using r.ints) (by rw [hlen]; unfold scanBound; omega) fun h' tk hS hk => ?_
    refine PyProof.Rows.args_nil ?_
    rw [hlen, firstMet_all] at hS
    obtain ⟨o, es, ep, t, ho, hex, hd, _, _, hsb, hf, hn⟩ := hS
    have I2 : Inv X pins σ H1 { s1 with heap := h', toks := tk } := I1.kept fun b o e => hk b o (Heap.lt_size e) e
    exact call_len_set ho hex hd hf (by unfold scanBound at hsb; omega) ⟨.int _, H1, I2.tok _, ⟨_, by rw [hn]⟩, q1⟩
  · obtain ⟨its, r, pl, hz⟩ := I1.tuple hq
    refine call_set_tupI ns (I1.ok.hd hc) pl (by simpa using r.ints) (by unfold scanBound; omega) fun h' tk c hS _ hk => ?_
    refine PyProof.Rows.args_nil ?_
    obtain ⟨o, es, ep, t, ho, hex, hd, _, hnd, hmem, hsb, hf, hn, _⟩ := hS
    have I2 : Inv X pins σ H1 { s1 with heap := h', toks := tk } := I1.kept hk
    have hp : (es.toList.map keyOf).Perm (ns.foldl step_dedup []) := by
      rw [List.perm_ext_iff_of_nodup hnd (dd_nodup ns [] List.nodup_nil)]
      intro k
      rw [← hmem k, dd_mem]
      simp
    have hs : es.size = (ns.foldl step_dedup []).length := by
      have := hp.length_eq
      simpa using this
    exact call_len_set ho hex hd hf (by unfold scanBound at hsb; omega) ⟨.int _, H1, I2.tok _, ⟨_, by rw [hs]⟩, q1⟩
/-! ### sorted(xs) of data -/
theorem vals_each : ∀ {vs : List V} {us : List Value} {ds : List PyData}, Vals vs us → vs.length = ds.length → EachIs (fun u (b : V × PyData) => RelV b.1 u) us (vs.zip ds)
  | _, _, [], .nil, _ => .nil
  | _, _, _ :: _, .nil, h => by simp at h
  | _, _, [], .cons _ _, h => by simp at h
  | _, _, _ :: _, .cons r t, h => .cons r (vals_each t (by simpa using h))
theorem each_vals : ∀ {us : List Value} {bs : List (V × PyData)}, EachIs (fun u (b : V × PyData) => RelV b.1 u) us bs → Vals (bs.map (·.1)) us
  | _, _, .nil => .nil
  | _, _, .cons h t => .cons h (each_vals t)
theorem reads_each {h : Heap} : ∀ {vs : List V} {us : List Value} {ds : List PyData} {as : List Addr}, ReadsAll h us ds as → vs.length = ds.length → EachIs (fun u (b : V × PyData) => ∃ as, Reads h u b.2 as) us (vs.zip ds)
  | [], _, _, _, .nil, _ => .nil
  | _ :: _, _, _, _, .nil, h => by simp at h
  | [], _, _, _, .cons _ _, h => by simp at h
  | _ :: vs, _, _, _, .cons r t, h => .cons ⟨_, r⟩ (reads_each (vs := vs) t (by simpa using h))
theorem dpAll_len {K : Frag} {H : Hp} : ∀ {vs : List V} {ds : List PyData}, DpAll K H vs ds → vs.length = ds.length
  | _, _, .nil => rfl
  | _, _, .cons _ t => by simp [dpAll_len t]
theorem zip_snd : ∀ {vs : List V} {ds : List PyData}, vs.length = ds.length → (vs.zip ds).map (·.2) = ds
  | [], [], _ => rfl
  | [], _ :: _, h => by simp at h
  | _ :: _, [], h => by simp at h
  | _ :: vs, _ :: ds, h => by simp [zip_snd (vs := vs) (ds := ds) (by simpa using h)]
def rSortM (K : Frag) : List V → Hp → VK → Prop := fun xs H Q => ∃ (a : Addr) (vs : List V) (ds : List PyData), xs = [.ref a] ∧ SqL K H a vs ∧ DpAll K H vs ds ∧ AllAlike ds ∧ Sortable ds ∧ (∀ d ∈ ds, d.depth ≤ 8) ∧
  ∀ p, H p = none → Q (.ref p) (upd H p (.lst (((vs.zip ds).mergeSort (dataLe false (·.2))).map (·.1))))
theorem cr_sortM (hu : X.A.units + 64 < cLine) : CallR X (.builtin "sorted") (rSortM X.K) := by
  intro pins s σ H xs us Q I r h
  obtain ⟨a, vs, ds, rfl, hs, hd, hal, hso, hdp, q⟩ := h
  rw [Vals.ref1 r]
  obtain ⟨its, rv, hl, hz⟩ := I.list hs
  obtain ⟨as, ra⟩ := Dp.readsAll I _ _ _ hd rv
  have hlen := dpAll_len hd
  have e2 := zip_snd hlen
  refine sorted_data (vs := its) (bs := vs.zip ds) (enc := (·.2)) (R := fun u (b : V × PyData) => RelV b.1 u) hl.isList (vals_each rv hlen) (reads_each ra hlen) (by rw [e2]; exact hal) (by rw [e2]; exact hso) (by rw [List.length_zip, ← hlen, Nat.min_self]; exact hz) (fun b hb => ?_) fun out ho he => ?_
  · have : b.2 ∈ ds := by rw [← e2]; exact List.mem_map_of_mem hb
    have := hdp _ this
    omega
  · obtain ⟨ep, he'⟩ := PyProof.Rows.sortedAll_at s.heap its out.toArray
    have rv' := each_vals he
    have hl2 : (((vs.zip ds).mergeSort (dataLe false (·.2))).map (·.1)).length ≤ sizeLine := by
      rw [List.length_map, List.length_mergeSort, List.length_zip, ← hlen, Nat.min_self]
      exact hz
    exact ⟨.ref _, upd H (s.heap.objs.size + 1) (.lst _), I.laid (t' := s.toks) (fun _ _ => PyProof.Rows.sortedAll_old) (Nat.le_succ _) ⟨hl2, out, ep, rv', he'⟩, rfl, q _ (I.hok.fresh (Nat.le_succ _))⟩
/-- an int, or a tuple of ints that is not empty -/
inductive Ky : PyData → Prop
  | int (i : Int) : Ky (.int i)
inductive Kt : PyData → Prop
  | tup (i : Int) (is : List Int) : Kt (.tuple ((i :: is).map .int))
theorem tupI_ok {d : PyData} (h : tupI d = true) : Kt d := by
  cases d <;> first | (cases h; done) | skip
  rename_i xs
  cases xs with
  | nil => cases h
  | cons x xs =>
    have h : (Mlg.intsD (x :: xs)).isSome = true := h
    obtain ⟨is, e⟩ := Option.isSome_iff_exists.mp h
    have e2 := ints_map e
    cases is with
    | nil => simp at e2
    | cons i is => rw [e2]; exact .tup i is
/-- two of one kind -/
structure Kin (P : PyData → Prop) : Prop where
  lt : ∀ x y, P x → P y → dataLt x y = ltD x y
  anti : ∀ x y, P x → P y → ltD x y = false → ltD y x = false → x = y
  tr : ∀ x y z, P x → P y → P z → ltD y x = false → ltD z y = false → ltD z x = false
  tot : ∀ x y, P x → P y → ltD x y = true → ltD y x = false
theorem kin_int : Kin Ky := by
  refine ⟨?_, ?_, ?_, ?_⟩
  · rintro _ _ ⟨i⟩ ⟨j⟩; exact dataLt_int i j
  · rintro _ _ ⟨i⟩ ⟨j⟩ h1 h2
    have h1 : ¬ i < j := of_decide_eq_false h1
    have h2 : ¬ j < i := of_decide_eq_false h2
    congr 1; omega
  · rintro _ _ _ ⟨i⟩ ⟨j⟩ ⟨k⟩ h1 h2
    have h1 : ¬ j < i := of_decide_eq_false h1
    have h2 : ¬ k < j := of_decide_eq_false h2
    exact decide_eq_false (by omega)
  · rintro _ _ ⟨i⟩ ⟨j⟩ h1
    have h1 : i < j := of_decide_eq_true h1
    exact decide_eq_false (by omega)
theorem ltD_tup (a b : List Int) : ltD (.tuple (a.map .int)) (.tuple (b.map .int)) = decide (a < b) := by
  show (match Mlg.intsD (a.map .int), Mlg.intsD (b.map .int) with | some a, some b => ltInts a b | _, _ => false) = _
  rw [map_ints, map_ints]
  exact ltInts_eq a b
theorem kin_tup : Kin Kt := by
  refine ⟨?_, ?_, ?_, ?_⟩
  · rintro _ _ ⟨i, a⟩ ⟨j, b⟩; exact kt_lt
  · rintro _ _ ⟨i, a⟩ ⟨j, b⟩ h1 h2
    rw [ltD_tup] at h1 h2
    have h1 := List.not_lt.mp (of_decide_eq_false h1)
    have h2 := List.not_lt.mp (of_decide_eq_false h2)
    rw [List.le_antisymm h2 h1]
  · rintro _ _ _ ⟨i, a⟩ ⟨j, b⟩ ⟨k, c⟩ h1 h2
    rw [ltD_tup] at h1 h2 ⊢
    have h1 := List.not_lt.mp (of_decide_eq_false h1)
    have h2 := List.not_lt.mp (of_decide_eq_false h2)
    exact decide_eq_false (List.not_lt.mpr (List.le_trans h1 h2))
  · rintro _ _ ⟨i, a⟩ ⟨j, b⟩ h1
    rw [ltD_tup] at h1 ⊢
    have h1 : (i :: a) < (j :: b) := of_decide_eq_true h1
    exact decide_eq_false (List.lt_asymm h1)
theorem insD_perm {x : PyData} : ∀ ys : List PyData, (insD x ys).Perm (x :: ys)
  | [] => .refl _
  | y :: ys => by
    unfold insD
    split
    · exact ((insD_perm ys).cons y).trans (.swap _ _ _)
    · exact .refl _
theorem sortD_perm : ∀ xs : List PyData, (sortD xs).Perm xs
  | [] => .refl _
  | x :: xs => (insD_perm _).trans ((sortD_perm xs).cons x)
theorem insD_sorted {P : PyData → Prop} (k : Kin P) {x : PyData} (hx : P x) : ∀ {ys : List PyData}, (∀ y ∈ ys, P y) → ys.Pairwise (fun a b => ltD b a = false) → (insD x ys).Pairwise (fun a b => ltD b a = false)
  | [], _, _ => by unfold insD; exact List.pairwise_singleton _ _
  | y :: ys, hP, hs => by
    obtain ⟨h1, h2⟩ := List.pairwise_cons.mp hs
    have hy := hP y List.mem_cons_self
    unfold insD
    split
    · rename_i c
      refine List.pairwise_cons.mpr ⟨fun z hz => ?_, insD_sorted k hx (fun z hz => hP z (List.mem_cons_of_mem _ hz)) h2⟩
      rcases List.mem_cons.mp ((insD_perm ys).mem_iff.mp hz) with rfl | hz
      · exact k.tot _ _ hy hx c
      · exact h1 z hz
    · rename_i c
      have c : ltD y x = false := by simpa using c
      refine List.pairwise_cons.mpr ⟨fun z hz => ?_, hs⟩
      rcases List.mem_cons.mp hz with rfl | hz
      · exact c
      · exact k.tr x y z hx hy (hP z (List.mem_cons_of_mem _ hz)) c (h1 z hz)
theorem sortD_sorted {P : PyData → Prop} (k : Kin P) : ∀ {xs : List PyData}, (∀ x ∈ xs, P x) → (sortD xs).Pairwise (fun a b => ltD b a = false)
  | [], _ => List.Pairwise.nil
  | x :: xs, h => insD_sorted k (h x List.mem_cons_self) (fun y hy => h y (List.mem_cons_of_mem _ ((sortD_perm xs).mem_iff.mp hy))) (sortD_sorted k fun y hy => h y (List.mem_cons_of_mem _ hy))
theorem one_sort {P : PyData → Prop} (k : Kin P) : ∀ {l m : List PyData}, l.Perm m → (∀ x ∈ l, P x) → l.Pairwise (fun a b => ltD b a = false) → m.Pairwise (fun a b => ltD b a = false) → l = m
  | [], m, p, _, _, _ => by rw [List.nil_perm.mp p]
  | x :: l, [], p, _, _, _ => by simpa using p.length_eq
  | x :: l, y :: m, p, hP, hl, hm => by
    obtain ⟨a1, a2⟩ := List.pairwise_cons.mp hl
    obtain ⟨b1, b2⟩ := List.pairwise_cons.mp hm
    have hy : y ∈ x :: l := p.symm.mem_iff.mp List.mem_cons_self
    have hx : x ∈ y :: m := p.mem_iff.mp List.mem_cons_self
    have e : x = y := by
      rcases List.mem_cons.mp hy with h | hy
      · exact h.symm
      · rcases List.mem_cons.mp hx with h | hx
        · exact h
        · exact k.anti x y (hP x List.mem_cons_self) (hP y (List.mem_cons_of_mem _ hy)) (b1 x hx) (a1 y hy)
    subst e
    rw [one_sort k (List.perm_cons x |>.mp p) (fun z hz => hP z (List.mem_cons_of_mem _ hz)) a2 b2]
/-- the layer's sort is this one -/
theorem sort_same {P : PyData → Prop} (k : Kin P) {vs : List V} {ds : List PyData} (hl : vs.length = ds.length) (hP : ∀ d ∈ ds, P d) : ((vs.zip ds).mergeSort (dataLe false (·.2))).map (·.2) = sortD ds := by
  have p1 : (((vs.zip ds).mergeSort (dataLe false (·.2))).map (·.2)).Perm ds := by
    have := (List.mergeSort_perm (vs.zip ds) (dataLe false (·.2))).map (·.2)
    rw [zip_snd hl] at this
    exact this
  have hmem : ∀ b ∈ vs.zip ds, P b.2 := fun b hb => hP _ (by rw [← zip_snd hl]; exact List.mem_map_of_mem hb)
  refine one_sort k (p1.trans (sortD_perm ds).symm) (fun x hx => hP x (p1.mem_iff.mp hx)) ?_ (sortD_sorted k hP)
  rw [List.pairwise_map]
  have q := sort_pairwise (α := V × PyData) (le := dataLe false (·.2)) (sortLe_total _ _ _) (vs.zip ds)
  refine List.Pairwise.imp_of_mem (fun {x y} hx hy h => ?_) q
  have hx := hmem x ((List.mergeSort_perm _ _).mem_iff.mp hx)
  have hy := hmem y ((List.mergeSort_perm _ _).mem_iff.mp hy)
  have h : (!dataLt y.2 x.2) = true := h
  rw [k.lt _ _ hy hx] at h
  simpa using h
end
end Msd
/-! SoundD: dicts. -/
namespace Msd
open PySem PySem.Spec PyProof.Rows L2 Mlg
/-! ### keys -/
def encK : Key → D := keyD
def encT (k : List Key) : D := .tuple (k.map keyD)
theorem eqv_keyD (a b : Key) : Mlg.eqv (keyD a) (keyD b) = decide (b = a) := by
  cases a with
  | inl i =>
    cases b with
    | inl j =>
      show (i == j) = _
      by_cases h : i = j
      · subst h; simp
      · have : ¬ (Sum.inl j : Key) = Sum.inl i := fun z => h (Sum.inl.inj z).symm
        rw [decide_eq_false this]
        simpa using h
    | inr y =>
      have : ¬ (Sum.inr y : Key) = Sum.inl i := fun z => by cases z
      rw [decide_eq_false this]
      rfl
  | inr x =>
    cases b with
    | inl j =>
      have : ¬ (Sum.inl j : Key) = Sum.inr x := fun z => by cases z
      rw [decide_eq_false this]
      rfl
    | inr y =>
      show (x == y) = _
      by_cases h : x = y
      · subst h; simp
      · have : ¬ (Sum.inr y : Key) = Sum.inr x := fun z => h (Sum.inr.inj z).symm
        rw [decide_eq_false this]
        simpa using h
theorem eqv_keysD : ∀ a b : List Key, Mlg.eqvAll (a.map keyD) (b.map keyD) = decide (b = a)
  | [], [] => rfl
  | [], _ :: _ => by simp [Mlg.eqvAll]
  | _ :: _, [] => by simp [Mlg.eqvAll]
  | x :: xs, y :: ys => by
    show (Mlg.eqv (keyD x) (keyD y) && Mlg.eqvAll (xs.map keyD) (ys.map keyD)) = _
    rw [eqv_keyD, eqv_keysD xs ys, ← Bool.decide_and]
    congr 1
    simp
theorem eqv_encT (a b : List Key) : Mlg.eqv (encT a) (encT b) = decide (b = a) := eqv_keysD a b
section
variable {K : Frag} {F H : Hp} {κ : Type} [DecidableEq κ] {enc : κ → D}
theorem assoc_find (hE : ∀ a b, Mlg.eqv (enc a) (enc b) = decide (b = a)) (k : κ) : ∀ {ks : List κ} {vs : List V} {ds : List D}, ks.length = vs.length → Reps K F vs ds →
    (∀ p, ((ks.map enc).zip ds).find? (fun q => Mlg.eqv (enc k) q.1) = some p → ∃ v, valV (ks.zip vs) k = some v ∧ Rep K F v p.2) ∧
    (((ks.map enc).zip ds).any fun q => Mlg.eqv (enc k) q.1) = (valV (ks.zip vs) k).isSome
  | [], [], [], _, .nil => ⟨fun p h => by simp at h, rfl⟩
  | a :: ks, v :: vs, d :: ds, hl, .cons h r => by
    obtain ⟨h1, h2⟩ := assoc_find hE k (ks := ks) (by simpa using hl) r
    rw [List.map_cons, List.zip_cons_cons, List.zip_cons_cons]
    by_cases e : a = k
    · subst e
      rw [valV_pos (p := (a, v)) rfl]
      constructor
      · intro p hp
        rw [List.find?_cons_of_pos (by simp [hE])] at hp
        cases hp
        exact ⟨v, rfl, h⟩
      · simp [hE]
    · rw [valV_neg (p := (a, v)) e]
      constructor
      · intro p hp
        rw [List.find?_cons_of_neg (by simp [hE, e])] at hp
        exact h1 p hp
      · rw [List.any_cons, h2]
        simp [hE, e]
theorem zip_repl {k : κ} {v : V} {d : D} (hE : ∀ a b, Mlg.eqv (enc a) (enc b) = decide (b = a)) (hv : Rep K F v d) : ∀ {ks : List κ} {vs : List V} {ds : List D}, ks.length = vs.length → Reps K F vs ds →
    ∃ (vs' : List V) (ds' : List D), ((ks.zip vs).map fun kv => if kv.1 = k then (kv.1, v) else kv) = ks.zip vs' ∧ ks.length = vs'.length ∧ Reps K F vs' ds' ∧ (((ks.map enc).zip ds).map fun p => if Mlg.eqv (enc k) p.1 = true then (p.1, d) else p) = (ks.map enc).zip ds'
  | [], [], [], _, .nil => ⟨[], [], rfl, rfl, .nil, rfl⟩
  | a :: ks, w :: vs, e :: ds, hl, .cons h r => by
    obtain ⟨vs', ds', h1, h2, h3, h4⟩ := zip_repl hE hv (ks := ks) (by simpa using hl) r
    rw [List.map_cons, List.zip_cons_cons, List.zip_cons_cons, List.map_cons, List.map_cons, h1, h4]
    by_cases ea : a = k
    · subst ea
      refine ⟨v :: vs', d :: ds', ?_, by simp [h2], .cons hv h3, ?_⟩
      · simp
      · simp [hE]
    · refine ⟨w :: vs', e :: ds', ?_, by simp [h2], .cons h h3, ?_⟩
      · simp [ea]
      · simp [hE, ea]
theorem assoc_set (hE : ∀ a b, Mlg.eqv (enc a) (enc b) = decide (b = a)) {ks : List κ} {vs : List V} {ds : List D} {k : κ} {v : V} {d : D} (hl : ks.length = vs.length) (r : Reps K F vs ds) (hv : Rep K F v d) :
    ∃ (ks' : List κ) (vs' : List V) (ds' : List D), putK (ks.zip vs) k v = ks'.zip vs' ∧ ks'.length = vs'.length ∧ Reps K F vs' ds' ∧ setKey ((ks.map enc).zip ds) (enc k) d = (ks'.map enc).zip ds' := by
  have ha := (assoc_find hE k hl r).2
  unfold putK setKey
  rw [valV_any, ← ha]
  by_cases c : ((ks.map enc).zip ds).any (fun q => Mlg.eqv (enc k) q.1) = true
  · rw [if_pos c, if_pos c]
    obtain ⟨vs', ds', h1, h2, h3, h4⟩ := zip_repl (k := k) hE hv hl r
    exact ⟨ks, vs', ds', h1, h2, h3, h4⟩
  · rw [if_neg c, if_neg c]
    refine ⟨ks ++ [k], vs ++ [v], ds ++ [d], ?_, by simp [hl], r.append (.cons hv .nil), ?_⟩
    · rw [List.zip_append hl]; rfl
    · rw [List.map_append, List.zip_append (by rw [List.length_map, hl, r.length])]; rfl
end
/-! ### what a dict is -/
section
variable {K : Frag} {F H : Hp}
/-- a dict at a, by its kind -/
def DicR (K : Frag) (F H : Hp) (a : Addr) (t : Bool) (kvs : List (D × D)) : Prop := ObjR K F H a (.dic t kvs)
theorem View.dict {v : V} {kvs : List (D × D)} (fh : Same F H) (h : View K F H v (.dict kvs)) : ∃ a t, v = .ref a ∧ DicR K F H a t kvs := by
  rcases h with (h | ⟨p, o, rfl, e, h⟩) | ⟨a, vs, ds, rfl, e, _⟩
  · generalize ed : PyData.dict kvs = d at h
    cases h <;> first | (cases ed; done) | skip
    · rename_i a ks vs ds h1 h2 h3
      cases ed
      exact ⟨a, false, rfl, ks, vs, ds, fh _ _ h1, h2, h3, rfl⟩
    · rename_i a ks vs ds h1 h2 h3
      cases ed
      exact ⟨a, true, rfl, ks, vs, ds, fh _ _ h1, h2, h3, rfl⟩
  · cases o with
    | lst _ => cases e
    | dic t kvs' => cases e; exact ⟨p, t, rfl, h⟩
  · cases e
theorem key_int {i : Int} : keyD (.inl i) = .int i := rfl
theorem kV_rep (k : Key) : Rep K F (kV k) (keyD k) := by
  cases k with
  | inl i => exact .int i
  | inr x => exact .str x
theorem kVs_reps : ∀ ks : List Key, Reps K F (ks.map kV) (ks.map keyD)
  | [] => .nil
  | k :: ks => .cons (kV_rep k) (kVs_reps ks)
theorem keyF_ok {d : D} {v : V} (h : keyT false d = true) (r : Rep K F v d) : ∃ k : Key, v = kV k ∧ d = keyD k := by
  cases d <;> first | (cases h; done) | skip
  · cases r; exact ⟨.inl _, rfl, rfl⟩
  · cases r; exact ⟨.inr _, rfl, rfl⟩
theorem intsK : ∀ {xs : List D} {vs : List V}, (xs.all fun d => match d with | .int _ => true | _ => false) = true → Reps K F vs xs → ∃ ks : List Key, vs = ks.map kV ∧ xs = ks.map keyD
  | [], [], _, .nil => ⟨[], rfl, rfl⟩
  | d :: ds, v :: vs, h, .cons hd r => by
    rw [List.all_cons] at h
    obtain ⟨h1, h2⟩ := Bool.and_eq_true_iff.mp h
    obtain ⟨ks, e1, e2⟩ := intsK h2 r
    cases d <;> first | (cases h1; done) | skip
    cases hd
    rename_i i
    exact ⟨.inl i :: ks, by rw [e1]; rfl, by rw [e2]; rfl⟩
theorem keyT_ok {d : D} {v : V} (fh : Same F H) (h : keyT true d = true) (r : Rep K F v d) : ∃ (k : List Key) (b : Addr), v = .ref b ∧ H b = some (.tup (k.map kV)) ∧ d = encT k := by
  cases d <;> first | (cases h; done) | skip
  rename_i xs
  cases r with
  | tup h1 h2 =>
    obtain ⟨ks, e1, e2⟩ := intsK h h2
    subst e1 e2
    exact ⟨ks, _, rfl, fh _ _ h1, rfl⟩
/-- what is found at a key -/
theorem dic_get {a : Addr} {t : Bool} {kvs : List (D × D)} {y : V} {kd : D} (fh : Same F H) (h : DicR K F H a t kvs) (hk : keyT t kd = true) (ry : Rep K F y kd) :
    ∃ o, DGet H a y o ∧ (∀ p, kvs.find? (fun q => Mlg.eqv kd q.1) = some p → ∃ v, o = some v ∧ Rep K F v p.2) ∧ (kvs.any fun q => Mlg.eqv kd q.1) = o.isSome := by
  cases t with
  | false =>
    obtain ⟨ks, vs, ds, h1, h2, h3, rfl⟩ := h
    obtain ⟨k, rfl, rfl⟩ := keyF_ok hk ry
    obtain ⟨g1, g2⟩ := assoc_find (enc := keyD) eqv_keyD k h2 h3
    exact ⟨_, DGet.k h1, fun p hp => g1 p hp, g2⟩
  | true =>
    obtain ⟨ks, vs, ds, h1, h2, h3, rfl⟩ := h
    obtain ⟨k, b, rfl, hb, rfl⟩ := keyT_ok fh hk ry
    obtain ⟨g1, g2⟩ := assoc_find (enc := encT) eqv_encT k h2 h3
    exact ⟨_, DGet.t h1 hb, fun p hp => g1 p hp, g2⟩
/-- .. and the heap behind a store -/
theorem dic_put {a : Addr} {t : Bool} {kvs : List (D × D)} {y v : V} {kd d : D} (fh : Same F H) (h : DicR K F H a t kvs) (hl : kvs.length < lim) (hk : keyT t kd = true) (ry : Rep K F y kd) (hv : Rep K F v d) :
    ∃ u, DPut H a y v (upd H a u) ∧ DicR K F (upd H a u) a t (setKey kvs kd d) := by
  have len : ∀ {α β γ : Type} {x : List α} {y : List β} {z : List γ}, x.length = y.length → y.length = z.length → (x.zip z).length < lim → (x.zip y).length < sizeLine := by
    intro α β γ x y z h1 h2 h3
    have := lim_le
    rw [List.length_zip] at h3 ⊢
    omega
  cases t with
  | false =>
    obtain ⟨ks, vs, ds, h1, h2, h3, rfl⟩ := h
    obtain ⟨k, rfl, rfl⟩ := keyF_ok hk ry
    obtain ⟨ks', vs', ds', e1, e2, e3, e4⟩ := assoc_set (enc := keyD) eqv_keyD (k := k) h2 h3 hv
    refine ⟨_, DPut.k h1 (len h2 h3.length (by simpa using hl)), ks', vs', ds', ?_, e2, e3, e4⟩
    rw [upd_same, e1]
  | true =>
    obtain ⟨ks, vs, ds, h1, h2, h3, rfl⟩ := h
    obtain ⟨k, b, rfl, hb, rfl⟩ := keyT_ok fh hk ry
    obtain ⟨ks', vs', ds', e1, e2, e3, e4⟩ := assoc_set (enc := encT) eqv_encT (k := k) h2 h3 hv
    refine ⟨_, DPut.t h1 hb (len h2 h3.length (by simpa using hl)), ks', vs', ds', ?_, e2, e3, e4⟩
    rw [upd_same, e1]
/-! ### tuples that stand are tracked -/
theorem track1 {ρ : Env} {σ : St} (S : Sim K ρ F σ H) {b : Addr} {vs : List V} (h : H b = some (.tup vs)) : ∃ F', F' b = some (.tup vs) ∧ Sim K ρ F' σ H ∧ Step ρ σ F H ρ σ F' H := by
  cases e : F b with
  | some u =>
    have := S.fh _ _ e
    rw [h] at this
    cases this
    exact ⟨F, e, S, .refl⟩
  | none =>
    have hn : ¬ Own ρ σ b := fun q => S.ownNT q vs h
    refine ⟨_, upd_same, S.freezeNew h e hn, same_new e, fun _ _ q _ => q, fun _ q => q, fun _ q => .inl q, fun _ q => .inl q, fun q f _ _ nt => ?_⟩
    rw [upd_ne (show q ≠ b from fun z => nt vs (z ▸ h))]
    exact f
theorem track {ρ : Env} {σ : St} {kvs : List (List Key × V)} {bs : List Addr} (S : Sim K ρ F σ H) (h : IsKeys H kvs bs) : ∃ F', Reps K F' (bs.map V.ref) (kvs.map fun p => encT p.1) ∧ Sim K ρ F' σ H ∧ Step ρ σ F H ρ σ F' H := by
  unfold IsKeys at h
  induction h generalizing F with
  | nil => exact ⟨F, .nil, S, .refl⟩
  | cons h1 t ih =>
    obtain ⟨F1, a1, a2, a3⟩ := track1 S h1
    obtain ⟨F2, b1, b2, b3⟩ := ih a2
    exact ⟨F2, .cons (.tup (b3.ext _ _ a1) (kVs_reps _)) b1, b2, a3.trans b3⟩
end
/-! ### d[y] -/
section
variable {X : Cx}
def rIxDc : R2 := fun x y H Q => ∃ a v, x = .ref a ∧ DGet H a y (some v) ∧ Q v H
theorem ix_dic (hu : X.A.units + 1 < cLine) : IxR X rIxDc := by
  intro value slice pins s σ H x y v u Q I rx ry h hs
  obtain ⟨a, z, rfl, g, q⟩ := h
  obtain rfl : v = Value.ref a := rx
  exact tail_any (dict_typeIs I g) PySem.F.slot_dict_getitem.lookup (d_getItem hu I g ry fun w' s' I' rw' => ⟨z, H, I', rw', q⟩) hs
end
/-! ### list(d) -/
section
variable {T : Errs} {K : Frag} {W : WX} {ρ : Env} {F H : Hp} {σ : St} {Q : VK}
def rListT : List V → Hp → VK → Prop := fun xs H Q => ∃ d kvs, xs = [V.ref d] ∧ Rd H d (.dT kvs) ∧ ∀ p bs, H p = none → IsKeys H kvs bs → Q (.ref p) (upd H p (.lst (bs.map V.ref)))
theorem list_dic {v : V} {kvs : List (D × D)} (S : Sim K ρ F σ H) (hv : View K F H v (.dict kvs)) (h : Out T K W ρ F σ H (relE K σ) (.ok (.tmp (.lst (kvs.map (·.1))), ρ)) Q) : rListD [v] H Q ∨ rListT [v] H Q := by
  obtain ⟨a, t, rfl, hd⟩ := hv.dict S.fh
  have fst : ∀ {α β : Type} {x : List α} {y : List β}, x.length = y.length → (x.zip y).map (·.1) = x := by
    intro α β x y e
    rw [List.map_fst_zip (by omega)]
  cases t with
  | false =>
    obtain ⟨ks, vs, ds, h1, h2, h3, rfl⟩ := hd
    refine .inl ⟨a, _, rfl, h1, fun q hq => ?_⟩
    rw [fst (by rw [List.length_map, h2, h3.length])] at h
    have e : (ks.zip vs).map (fun kv => kV kv.1) = ks.map kV := by
      rw [show (fun kv : Key × V => kV kv.1) = kV ∘ (·.1) from rfl, ← List.map_map, fst h2]
    rw [e]
    exact out_lst S h (kVs_reps ks) hq
  | true =>
    obtain ⟨ks, vs, ds, h1, h2, h3, rfl⟩ := hd
    refine .inr ⟨a, _, rfl, .inl h1, fun p bs hp hb => ?_⟩
    rw [fst (by rw [List.length_map, h2, h3.length])] at h
    obtain ⟨F', r, S', st⟩ := track S hb
    have e : (ks.zip vs).map (fun p => encT p.1) = ks.map encT := by
      rw [show (fun kv : List Key × V => encT kv.1) = encT ∘ (·.1) from rfl, ← List.map_map, fst h2]
    rw [e] at r
    exact out_lst S' (Out.rebase back_E st h) r hp
end
/-! ### list(d.values()) -/
theorem atr_base {o : Expr} {m : Str} {env : PySem.Env} {x : Sem Value} (h : atrB o = true) : attributeBase o m env x = x := by
  cases o <;> first | rfl | cases h
section
variable {X : Cx} {o : Expr} {p pos apos mpos : Pos} {td : TE}
def tListVals (td : TE) : TE := fun σ H Q => td σ H fun x H1 => ∃ a kvs, x = V.ref a ∧ H1 a = some (.dK kvs) ∧ ∀ q, H1 q = none → Q (.ref q) (upd H1 q (.lst (kvs.map (·.2))))
theorem kv_vals : ∀ {kvs : List (Key × V)} {vs : List (Key × Value)}, KV kvs vs → Vals (kvs.map (·.2)) (vs.map (·.2)) := by
  intro kvs vs r
  unfold KV at r
  induction r with
  | nil => exact .nil
  | cons h t ih => exact .cons h.2 ih
theorem pe_listVals (hc : X.calm = true) (hg : Gl X "list") (hm : X.mg "list" = none) (hd : PE X o td) (hbase : attributeBase o "values" X.env (PySem.eval o X.env) = PySem.eval o X.env) (hline : (apos.endLine == mpos.line) = true)
    (na : starEach [Expr.Call (.Attribute o "values" apos) [] [] mpos] X.env = (false, PySem.eval (Expr.Call (.Attribute o "values" apos) [] [] mpos) X.env) :: starEach [] X.env := by rfl) :
    PE X (.Call (.Name "list" p) [.Call (.Attribute o "values" apos) [] [] mpos] [] pos) (tListVals td) := by
  refine ⟨fun pins s σ H Q I h => ?_⟩
  refine Call_ (ld_blt I hg hm boot_list (PyProof.Rows.callWith_type1 (args_cons (wpAny_Call_method0_late hbase hline (thn (hd.run pins s σ H _ I h) fun v s1 ⟨x, H1, I1, r1, a, kvs, ex, ha, q⟩ => ?_)) na) na))
  subst ex
  obtain rfl : v = Value.ref a := r1
  obtain ⟨hz, hsys, vs, rel, dof⟩ := dk_of I1.hok ha
  obtain ⟨ep, dat⟩ := dof.dictAt
  have dat' := dat
  obtain ⟨ob, es, ho, ex, hdat, hko, hpr, hnd⟩ := dat'
  refine ⟨"dict", "dict.values", F.plainAttrs_dict, F.slot_dict_values, F.type_dict_values, ⟨ob, ho, ex.1⟩, fun b e => ?_, Calls.callWith_builtin rfl (PySem.evalArgs_none ?_)⟩
  · cases e
    exact ⟨ob, ho, ex.2.1⟩
  refine call_meetsIn F.slot_dict_values ⟨ob, ho, ex.1⟩ F.entry_dict_values (F.args_dict_values_1 _) (meets_dict_values (mixKind X.prog X.w) a hsys) ⟨⟨vs, dof⟩, ?_⟩
  refine args_nil ?_
  have k1 : ∀ b u, s1.heap.get? b = some u → (s1.heap.push { cls := .type "dict_values", data := .fields #[.ref a] }).get? b = some u := fun b u e => Heap.get?_push_of_some _ e
  have I2 := I1.kept (t' := s1.toks) k1
  have dat1 : (s1.heap.push { cls := .type "dict_values", data := .fields #[.ref a] }).DictAt (mixKind X.prog X.w) a vs ep := dat.keep k1
  refine PySem.W.kdl_call (PySem.W.kdl_values (knd := mixKind X.prog X.w) (kvs := vs) (ep := ep) (r := s1.heap.objs.size)) (I1.ok.hd hc) ⟨⟨_, Heap.get?_push_size _ rfl, rfl, rfl⟩, dat1⟩ (by rw [← rel.length]; exact hz) fun h' tk acc' c' kp e it => ?_
  have ea : acc'.toList = vs.map (·.2) := PySem.W.kdl_vals_eq acc'.toList (by rw [Array.length_toList]; exact it.1) fun j v hj => it.2 j v (by rw [← Array.getElem?_toList]; exact hj)
  refine ⟨.ref _, _, I2.laid (t' := tk) (o := .lst (kvs.map (·.2))) kp (Nat.le_refl _) ?_, rfl, q _ (I2.hok.fresh (Nat.le_refl _))⟩
  exact ⟨by rw [List.length_map]; exact hz, acc'.toList, c', by rw [ea]; exact kv_vals rel, by rw [Array.toArray_toList]; exact e⟩
end
/-! ### {k: v}, the key a tuple -/
section
variable {X : Cx} {kx vx : Expr} {pos : Pos} {tk tv : TE}
def tDsp (tk tv : TE) : TE := fun σ H Q => ∀ p, H p = none → tk σ (upd H p (.dT [])) fun x H1 => tv σ H1 fun y H2 => ∃ b key, x = V.ref b ∧ H2 b = some (.tup (key.map kV)) ∧ H2 p = some (.dT []) ∧ Q (.ref p) (upd H2 p (.dT [(key, y)]))
theorem pe_dsp (hu : X.A.units < cLine) (hk : PE X kx tk) (hv : PE X vx tv) : PE X (.Dict [some kx] [vx] pos) (tDsp tk tv) := by
  refine ⟨fun pins s σ H Q I q => ?_⟩
  have hn := I.hok.fresh (Nat.le_refl s.heap.objs.size)
  have I1 := I.laid (a := s.heap.objs.size) (o := .dT []) (h' := s.heap.push { cls := .type "dict", data := .dict #[] }) (t' := s.toks) (fun _ _ q => Heap.get?_push_of_some _ q) (Nat.le_refl _) (dt_empty s.heap I.big)
  refine wpAny_Dict_any rfl rfl (fun z => nomatch z) (show 1 ≤ 15 by decide) (pairTrees_cons_walk (thn (hk.run pins _ σ _ _ I1 (q _ hn)) fun u s1 ⟨x, H1, I2, rx, q1⟩ => thn (hv.run pins s1 σ H1 _ I2 q1) fun w s2 ⟨y, H2, I3, ry, b, key, ex, hb, hp, q2⟩ => pairTrees_nil_walk ?_))
  subst ex
  obtain rfl : u = Value.ref b := rx
  obtain ⟨z, hd, xs, rel, dd⟩ := dt_of I3.hok hp
  cases rel
  unfold storeAll
  rw [List.forIn_cons]
  refine wpAny_bind (wpAny_bind (wpAny_dictSet_heap (hsz := Nat.zero_le _) (knd := tupleKind (mixKind X.prog X.w)) hu (key_of I3.hok hb) dd fun h' dd' hs => wpAny_pure ?_))
  show wpAny _ _ (forIn ([] : List (Value × Value)) PUnit.unit _) _ _ _
  rw [List.forIn_nil]
  refine wpAny_pure ?_
  obtain ⟨o, es, ep, ho, h2, h3, h4, _, h5⟩ := dd'
  have rel' : KT H2 [(key, y)] (storedH [] key b w) := (KT.put (kvs := []) .nil key hb ry)
  refine ⟨.ref s.heap.objs.size, _, d_write (ob := .dT [(key, y)]) I3 (by rw [hp]; exact True.intro) hs ⟨o, ho⟩ ⟨by rw [sizeLine_eq]; show 1 ≤ 16777216; decide, hd, _, rel'.keeps fun c ys ec => ?_, o, es, ep, ho, h2, h3, h4, h5⟩, rfl, q2⟩
  rw [upd_ne (ne_of ec hp (fun z => nomatch z))]
  exact ec
end
end Msd
/-! SoundS: sorted(t), t a tuple of ints. -/
namespace Msd
open PySem PySem.Spec PyProof.Rows PySem.W L2 Mlg
section
variable {X : Cx}
theorem reads_int0 {h : Heap} {u : Value} {i : Int} (r : RelV (.int i) u) : Reads h u (.int i) [] := by
  obtain ⟨t, rfl⟩ := r
  exact .int _ _
theorem each_int0 {h : Heap} {a : Addr} : ∀ {ns : List Int} {us : List Value}, Vals (ns.map V.int) us → EachIs (fun u (b : V × PyData) => ∃ as, Reads h u b.2 as ∧ a ∉ as) us ((ns.map V.int).zip (ns.map PyData.int))
  | [], _, .nil => .nil
  | _ :: _, _, .cons r t => .cons ⟨[], reads_int0 r, by simp⟩ (each_int0 t)
def rSortT (K : Frag) : List V → Hp → VK → Prop := fun xs H Q => ∃ (a : Addr) (ns : List Int), xs = [.ref a] ∧ SqT K H a (ns.map V.int) ∧
  ∀ p, H p = none → Q (.ref p) (upd H p (.lst ((((ns.map V.int).zip (ns.map PyData.int)).mergeSort (dataLe false (·.2))).map (·.1))))
theorem cr_sortT (hu : X.A.units + 64 < cLine) : CallR X (.builtin "sorted") (rSortT X.K) := by
  intro pins s σ H xs us Q I r h
  obtain ⟨a, ns, rfl, hs, q⟩ := h
  rw [Vals.ref1 r]
  obtain ⟨its, rv, hl, hz⟩ := I.tuple hs
  obtain ⟨o, ho, hc, n, hd⟩ := hl
  have hlen : its.length = ns.length := by have := rv.length; simpa using this.symm
  refine Calls.call_function_entry kind_sorted plain_sorted entry_sorted (args_sorted1 _) ?_
  unfold Builtin.«sorted»
  refine wpAny_bind (m := checkCount "sorted" 1 1 _) (wpAny_pure ?_)
  refine wpAny_bind (wpAny_collect_seq a (.inr rfl) ho hc hd (fun h' hk => ?_) (by simp only [List.length_map] at hz; simpa [hlen] using hz))
  refine wpAny_bind (wpAny_newList ?_)
  have I1 := I.kept (t' := s.toks) hk
  have hoL : (h'.push (seqObj "list" its.toArray 0)).get? h'.objs.size = some (seqObj "list" its.toArray 0) := Heap.get?_push_size _ rfl
  have hel : (ns.map V.int).length = (ns.map PyData.int).length := by simp
  have e2 := zip_snd hel
  refine wpAny_bind (wpAny_holding (list_sort_data (s := { s with heap := h'.push (seqObj "list" its.toArray 0) }) (vs := its) (bs := (ns.map V.int).zip (ns.map PyData.int)) (enc := (·.2)) (R := fun u (b : V × PyData) => RelV b.1 u) hoL (vals_each rv hel) (each_int0 rv) ?_ ?_ ?_ (fun b hb => ?_) fun out hout he => ?_))
  · rw [e2]
    intro d hd d' hd'
    obtain ⟨i, _, rfl⟩ := List.mem_map.mp hd
    obtain ⟨j, _, rfl⟩ := List.mem_map.mp hd'
    rfl
  · rw [e2]
    refine .inr fun d hd => ?_
    obtain ⟨i, _, rfl⟩ := List.mem_map.mp hd
    exact ⟨(fun z => by cases z), (fun xs z => by cases z)⟩
  · simpa using hz
  · have : b.2 ∈ ns.map PyData.int := by rw [← e2]; exact List.mem_map_of_mem hb
    obtain ⟨i, _, e⟩ := List.mem_map.mp this
    rw [← e]
    show _ + 1 + 0 < cLine
    have : (X.A.in1).units ≤ X.A.units + 1 := by first | exact Nat.le_refl _ | simp [Around.in1, Around.units] | omega
    omega
  · obtain ⟨ep, he'⟩ := sortedHeap_at (out := out.toArray) hoL
    have rv' := each_vals he
    have hl2 : ((((ns.map V.int).zip (ns.map PyData.int)).mergeSort (dataLe false (·.2))).map (·.1)).length ≤ sizeLine := by
      rw [List.length_map, List.length_mergeSort, List.length_zip]
      simp at hz ⊢
      exact hz
    refine wpAny_pure ⟨_, rfl, ?_⟩
    refine ⟨.ref _, upd H h'.objs.size (.lst _), I1.laid (t' := s.toks) (fun b u hb => ?_) (Nat.le_refl _) ⟨hl2, out, ep, rv', he'⟩, rfl, q _ (I1.hok.fresh (Nat.le_refl _))⟩
    have hlt := Heap.lt_size hb
    show (sortedHeap _ _ _ _).get? b = some u
    rw [sortedHeap_old (Nat.ne_of_lt hlt) (by rw [size_push']; exact Nat.lt_succ_of_lt hlt)]
    exact Heap.get?_push_of_some _ hb
/-! ### len(set(xs)), xs a list of tuples of ints -/
theorem dl_mem : ∀ (ns acc : List (List Int)) (k : List Int), k ∈ ns.foldl oneMoreT acc ↔ k ∈ acc ∨ k ∈ ns
  | [], acc, k => by simp
  | n :: r, acc, k => by
    rw [List.foldl_cons, dl_mem r]
    unfold oneMoreT
    split
    · rename_i h
      constructor
      · rintro (h | h)
        · exact .inl h
        · exact .inr (List.mem_cons_of_mem _ h)
      · rintro (h' | h')
        · exact .inl h'
        · rcases List.mem_cons.mp h' with rfl | h'
          · exact .inl h
          · exact .inr h'
    · simp [List.mem_append, or_assoc]
theorem dl_nodup : ∀ (ns acc : List (List Int)), acc.Nodup → (ns.foldl oneMoreT acc).Nodup
  | [], _, h => h
  | n :: r, acc, h => by
    rw [List.foldl_cons]
    refine dl_nodup r _ ?_
    unfold oneMoreT
    split
    · exact h
    · rename_i hn
      rw [List.nodup_append]
      exact ⟨h, by simp, fun a ha b hb => by rw [List.mem_singleton] at hb; subst hb; exact fun z => hn (z ▸ ha)⟩
def kLenSetT (K : Frag) (Q : VK) : V → Hp → Prop := fun x H1 => ∃ (l : Addr) (ks : List (Addr × List Int)), x = .ref l ∧ SqL K H1 l (ks.map fun p => V.ref p.1) ∧ (∀ p ∈ ks, SqT K H1 p.1 (p.2.map V.int)) ∧ ks.length < 64 ∧ Q (.int (dedupL (ks.map (·.2))).length) H1
def tLenSetT (K : Frag) (ta : TE) : TE := fun σ H Q => ta σ H fun x H1 => (∃ (l : Addr) (ns : List Int), x = .ref l ∧ (SqL K H1 l (ns.map V.int) ∨ SqT K H1 l (ns.map V.int)) ∧ ns.length ≤ 4000 ∧ Q (.int (ns.foldl step_dedup []).length) H1) ∨ kLenSetT K Q x H1
theorem pe_lenSetT {a : Expr} {ta : TE} {p p2 q pos : Pos} (hc : X.calm = true) (hu : X.A.units + 64 < cLine) (hg : Gl X "len") (hm : X.mg "len" = none) (hg2 : Gl X "set") (hm2 : X.mg "set" = none) (ha : PE X a ta)
    (na : starEach [a] X.env = (false, PySem.eval a X.env) :: starEach [] X.env) : PE X (.Call (.Name "len" p) [.Call (.Name "set" p2) [a] [] q] [] pos) (tLenSetT X.K ta) := by
  refine ⟨fun pins s σ H Q I h => ?_⟩
  refine Call_ (ld_blt I hg hm boot_len ?_)
  refine PyProof.Rows.callWith_builtin1 (PyProof.Rows.args_cons ?_ rfl) rfl rfl
  refine Call_ (ld_blt I hg2 hm2 boot_set ?_)
  refine PyProof.Rows.callWith_type1 (PyProof.Rows.args_cons (thn (ha.run pins s σ H _ I h) fun v s1 ⟨x, H1, I1, r1, q1⟩ => PyProof.Rows.args_nil ?_) na) na rfl
  rcases q1 with q1 | q1
  · obtain ⟨l, ns, rfl, hq, hl, q1⟩ := q1
    cases r1
    rcases hq with hq | hq
    · obtain ⟨its, r, pl, hz⟩ := I1.list hq
      have hlen : its.toArray.size = ns.length := by rw [List.size_toArray, ← r.length, List.length_map]
      refine call_set_list (I1.ok.hd hc) pl.isList (by simpa using r.ints) (by rw [hlen]; unfold scanBound; omega) fun h' tk hS hk => ?_
      refine PyProof.Rows.args_nil ?_
      rw [hlen, firstMet_all] at hS
      obtain ⟨o, es, ep, t, ho, hex, hd, _, _, hsb, hf, hn⟩ := hS
      have I2 : Inv X pins σ H1 { s1 with heap := h', toks := tk } := I1.kept fun b o e => hk b o (Heap.lt_size e) e
      exact call_len_set ho hex hd hf (by unfold scanBound at hsb; omega) ⟨.int _, H1, I2.tok _, ⟨_, by rw [hn]⟩, q1⟩
    · obtain ⟨its, r, pl, hz⟩ := I1.tuple hq
      refine call_set_tupI ns (I1.ok.hd hc) pl (by simpa using r.ints) (by unfold scanBound; omega) fun h' tk c hS _ hk => ?_
      refine PyProof.Rows.args_nil ?_
      obtain ⟨o, es, ep, t, ho, hex, hd, _, hnd, hmem, hsb, hf, hn, _⟩ := hS
      have I2 : Inv X pins σ H1 { s1 with heap := h', toks := tk } := I1.kept hk
      have hp : (es.toList.map keyOf).Perm (ns.foldl step_dedup []) := by
        rw [List.perm_ext_iff_of_nodup hnd (dd_nodup ns [] List.nodup_nil)]
        intro k
        rw [← hmem k, dd_mem]
        simp
      have hs : es.size = (ns.foldl step_dedup []).length := by
        have := hp.length_eq
        simpa using this
      exact call_len_set ho hex hd hf (by unfold scanBound at hsb; omega) ⟨.int _, H1, I2.tok _, ⟨_, by rw [hs]⟩, q1⟩
  · obtain ⟨l, ks, rfl, hl, hk, hf, q1⟩ := q1
    cases r1
    obtain ⟨its, rv, pl, hz⟩ := I1.list hl
    refine call_set_tups (P := X.prog) (w := X.w) ks (I1.ok.hd hc) pl.isList (by simpa using refs_of_vals rv) (fun p hp => I1.isT (hk p hp)) hf (by have : (X.A.in1).units ≤ X.A.units + 1 := (by first | exact Nat.le_refl _ | simp [Around.in1, Around.units]); omega) fun h' tk L es ep t R g k => ?_
    refine PyProof.Rows.args_nil ?_
    have I2 : Inv X pins σ H1 { s1 with heap := h', toks := tk } := I1.kept k
    have hp : (L.map (·.2)).Perm (dedupL (ks.map (·.2))) := by
      unfold dedupL
      rw [List.perm_ext_iff_of_nodup R.nd (dl_nodup _ [] List.nodup_nil)]
      intro m
      rw [dl_mem]
      constructor
      · intro hm
        obtain ⟨p, hp, rfl⟩ := List.mem_map.mp hm
        exact .inr (List.mem_map_of_mem (List.mem_of_mem_take (g.sub p hp)))
      · rintro (hm | hm)
        · cases hm
        · obtain ⟨p, hp, rfl⟩ := List.mem_map.mp hm
          exact g.all p (by rw [List.take_length]; exact hp)
    have hs : es.size = (dedupL (ks.map (·.2))).length := by
      have h1 := hp.length_eq
      have h2 := SetTR.size (s := { s1 with heap := h', toks := tk }) R
      rw [List.length_map] at h1
      omega
    obtain ⟨o, ho, hex, hd⟩ := R.ob
    have hb := R.few
    have hsz := SetTR.size (s := { s1 with heap := h', toks := tk }) R
    exact call_len_set ho hex hd (SetTR.fits (s := { s1 with heap := h', toks := tk }) R) (by omega) ⟨.int _, H1, I2.tok _, ⟨_, by rw [hs]⟩, q1⟩
end
end Msd
/-! Sound8: built-in functions of one and two arguments, isinstance. -/
namespace Msd
open PySem PySem.Spec PyProof.Rows PySem.W L2 Mlg
theorem bltB_ok {sc : Scope} {n x : Str} (h : bltB sc n x = true) : x = n ∧ sc.names.lookup x = some .globalImplicit := by
  obtain ⟨h1, h2⟩ := and2 h
  exact ⟨of_decide_eq_true h1, of_decide_eq_true h2⟩
section
variable {fnm : Nat → Option Str} {T : Errs} {call : CallT} {k : Nat} {N : List Str}
/-- a call of a built-in function by its name -/
theorem callB_of {X : Cx} {sc : Scope} {n y : Str} {p pos : Pos} {x : Expr} {xs : List Expr} {id : String} {r : List V → Hp → VK → Prop} {t : TA} (C : Cok fnm T call k N X sc) (hn : bltB sc n y = true) (hm : n ∈ builtins) (hc : CallR X (.builtin id) r) (hv : bootBuiltins n = some (.builtin id))
    (hp : ∀ z ∈ x :: xs, plainX z = true) (ha : PA X (x :: xs) t) (hnm : n ≠ "__name__") (hdb : (n == ("__debug__" : Str)) = false) : PE X (.Call (.Name y p) (x :: xs) [] pos) (tCB r t) := by
  obtain ⟨rfl, hg⟩ := bltB_ok hn
  exact pe_callB hc (by show X.env.scope.names.lookup y = _; rw [C.hsc]; exact hg) (C.G.bl y hm) hv ha hnm hdb (starEach_plain (hp x List.mem_cons_self)) (by rw [backTo_any]; exact plain_any fun z hz => hp z (List.mem_cons_of_mem _ hz))
theorem callT_of {X : Cx} {sc : Scope} {n y : Str} {p pos : Pos} {x : Expr} {xs : List Expr} {id : String} {r : List V → Hp → VK → Prop} {t : TA} (C : Cok fnm T call k N X sc) (hn : bltB sc n y = true) (hm : n ∈ builtins) (hc : CallR X (.type id) r) (hv : bootBuiltins n = some (.type id))
    (hp : ∀ z ∈ x :: xs, plainX z = true) (ha : PA X (x :: xs) t) (hnm : n ≠ "__name__") (hdb : (n == ("__debug__" : Str)) = false) : PE X (.Call (.Name y p) (x :: xs) [] pos) (tCB r t) := by
  obtain ⟨rfl, hg⟩ := bltB_ok hn
  exact pe_callTy hc (by show X.env.scope.names.lookup y = _; rw [C.hsc]; exact hg) (C.G.bl y hm) hv ha hnm hdb (starEach_plain (hp x List.mem_cons_self)) (by rw [backTo_any]; exact plain_any fun z hz => hp z (List.mem_cons_of_mem _ hz))
def rB1 (K : Frag) : B1 → List V → Hp → VK → Prop
  | .len => fun xs H Q => (∃ p ys, xs = [.ref p] ∧ (SqL K H p ys ∨ SqT K H p ys) ∧ Q (.int ys.length) H) ∨ ∃ z, xs = [.str z] ∧ z.length ≤ sizeLine ∧ Q (.int z.length) H
  | .abs => fun xs H Q => ∃ i, xs = [.int i] ∧ Q (.int (if i < 0 then -i else i)) H
  | .int => fun xs H Q => ((∃ i, xs = [.int i] ∧ Q (.int i) H) ∨ ∃ k, xs = [.bl k] ∧ Q (.int (if k then 1 else 0)) H) ∨ ∃ a n, xs = [.str a] ∧ PySem.intText? a = some n ∧ a.length ≤ 640 ∧ Q (.int n) H
  | .list => fun xs H Q => (∃ p ys, xs = [.ref p] ∧ (SqL K H p ys ∨ SqT K H p ys) ∧ ∀ l, H l = none → Q (.ref l) (upd H l (.lst ys))) ∨ rListD xs H Q ∨ rListT xs H Q
  | .str => fun xs H Q => ∃ i : Int, xs = [.int i] ∧ i.natAbs.log2 < 1920 ∧ Q (.str (toString i)) H
  | .tuple => fun xs H Q => ∃ p ys, xs = [.ref p] ∧ ((SqL K H p ys ∧ ∀ l, H l = none → Q (.ref l) (upd H l (.tup ys))) ∨ (SqT K H p ys ∧ Q (.ref p) H))
  | .sum => rSum K
  | .all => rAll K
  | .min => rMinM K minI
  | .max => rMinM K maxI
  | .sorted => fun xs H Q => rSortM K xs H Q ∨ rSortT K xs H Q
  | _ => fun _ _ _ => False
theorem pe_b1 {X : Cx} {sc : Scope} {y : Str} {p pos : Pos} {x : Expr} {f : B1} {t : TE} (C : Cok fnm T call k N X sc) (hf : b1B f = true) (hn : bltB sc (b1nm f) y = true) (hp : plainX x = true) (h : PE X x t) : PE X (.Call (.Name y p) [x] [] pos) (tCB (rB1 X.K f) (tCons t tNil)) := by
  have ha : PA X [x] (tCons t tNil) := pa_cons h pa_nil (starEach_plain hp)
  have hps : ∀ z ∈ [x], plainX z = true := fun z hz => by rw [List.mem_singleton] at hz; rw [hz]; exact hp
  cases f <;> first | (cases hf; done) | skip
  · exact callB_of C hn (by decide) (CallR.or call_len_seq call_len_str) PySem.boot_len hps ha (by decide) (by decide)
  · exact callB_of C hn (by decide) call_abs (by decide +kernel) hps ha (by decide) (by decide)
  · exact callT_of C hn (by decide) (CallR.or call_int1 call_int_str) (by decide +kernel) hps ha (by decide) (by decide)
  · exact callT_of C hn (by decide) call_str_int (by decide +kernel) hps ha (by decide) (by decide)
  · exact callB_of C hn (by decide) (cr_minM C.calm (by have := C.room.un; omega)) (by decide +kernel) hps ha (by decide) (by decide)
  · exact callB_of C hn (by decide) (cr_maxM C.calm (by have := C.room.un; omega)) (by decide +kernel) hps ha (by decide) (by decide)
  · exact callB_of C hn (by decide) (cr_sum C.calm) (by decide +kernel) hps ha (by decide) (by decide)
  · exact callB_of C hn (by decide) (cr_all C.calm) (by decide +kernel) hps ha (by decide) (by decide)
  · exact callB_of C hn (by decide) (CallR.or (cr_sortM (by have := C.room.un; omega)) (cr_sortT (by have := C.room.un; omega))) (by decide +kernel) hps ha (by decide) (by decide)
  · exact callT_of C hn (by decide) (CallR.or call_list_of (CallR.or (call_list_dK C.calm) (call_list_dT C.calm))) (by decide +kernel) hps ha (by decide) (by decide)
  · exact callT_of C hn (by decide) call_tuple_of (by decide +kernel) hps ha (by decide) (by decide)
theorem int_one : ∀ a : Fin 10, PySem.intText? ⟨#[48 + a.val]⟩ = some ((a.val : Nat) : Int) := by decide +kernel
theorem int_two : ∀ a b : Fin 10, PySem.intText? ⟨#[48 + a.val, 48 + b.val]⟩ = some ((10 * a.val + b.val : Nat) : Int) := by decide +kernel
theorem str_all : ∀ n : Fin 1000, ((toString (n.val : Int) : String) : PySem.Str) = strOf n.val := by decide +kernel
theorem str_small {i : Int} (h0 : 0 ≤ i) (h1 : i < 1000) : ((toString i : String) : PySem.Str) = strOf i.toNat := by
  have := str_all ⟨i.toNat, by omega⟩
  rw [← this]
  show ((toString i : String) : PySem.Str) = ((toString ((i.toNat : Nat) : Int) : String) : PySem.Str)
  rw [Int.toNat_of_nonneg h0]
section
variable {K : Frag} {W : WX} {ρ : Env} {F H : Hp} {σ : St} {Q : VK}
theorem mm_ok {g : Int → List Int → Int} {v : V} {d : D} {r : R} (S : Sim K ρ F σ H) (hx : View K F H v d) (e : ((items d).bind Mlg.intsD).bind (fun is => match is with | [] => none | x :: r => some (R.val (.int (g x r)))) = some r) (h : Out T K W ρ F σ H (relE K σ) (.ok (r, ρ)) Q) : rMinM K g [v] H Q := by
  cases d <;> first | (cases e; done) | skip
  · rename_i ds
    replace e : (Mlg.intsD ds).bind (fun is => match is with | [] => none | x :: r => some (R.val (.int (g x r)))) = some r := e
    cases q : Mlg.intsD ds with
    | none => rw [q] at e; cases e
    | some is =>
      rw [q] at e
      cases is with
      | nil => cases e
      | cons n ns =>
        cases e
        obtain ⟨a, vs, rfl, h1, h2⟩ := hx.list S.fh
        obtain ⟨h3, _⟩ := h2.ints q
        subst h3
        exact ⟨a, n, ns, rfl, .inl h1, out_val S h (.int _)⟩
  · rename_i ds
    replace e : (Mlg.intsD ds).bind (fun is => match is with | [] => none | x :: r => some (R.val (.int (g x r)))) = some r := e
    cases q : Mlg.intsD ds with
    | none => rw [q] at e; cases e
    | some is =>
      rw [q] at e
      cases is with
      | nil => cases e
      | cons n ns =>
        cases e
        obtain ⟨a, vs, rfl, h1, _, h2⟩ := hx.tuple S.fh
        obtain ⟨h3, _⟩ := h2.ints q
        subst h3
        exact ⟨a, n, ns, rfl, .inr (SqT.of h1), out_val S h (.int _)⟩
theorem reps_zip : ∀ {vs : List V} {ds : List D}, Reps K F vs ds → ∀ b ∈ vs.zip ds, Rep K F b.1 b.2
  | _, _, .nil, b, hb => by simp at hb
  | _, _, .cons h t, b, hb => by
    rcases List.mem_cons.mp (show b ∈ (_, _) :: _ from hb) with rfl | hb
    · exact h
    · exact reps_zip t b hb
theorem zip_reps : ∀ {bs : List (V × D)}, (∀ b ∈ bs, Rep K F b.1 b.2) → Reps K F (bs.map (·.1)) (bs.map (·.2))
  | [], _ => .nil
  | b :: bs, h => .cons (h b List.mem_cons_self) (zip_reps fun c hc => h c (List.mem_cons_of_mem _ hc))
theorem shp_each {n : Nat} : ∀ {ds : List D}, (∀ d ∈ ds, shp n d = true) → shpAll n ds = true
  | [], _ => by cases n <;> rfl
  | d :: ds, h => by
    have h1 := h d List.mem_cons_self
    have h2 := shp_each (n := n) (ds := ds) fun x hx => h x (List.mem_cons_of_mem _ hx)
    have e : shpAll n (d :: ds) = (shp n d && shpAll n ds) := by cases n <;> rfl
    rw [e, h1, h2]
    rfl
theorem kt_shp {d : D} (h : Kt d) : shp 1 d = true := by
  obtain ⟨i, is⟩ := h
  show shpAll 0 _ = true
  refine shp_each fun d hd => ?_
  obtain ⟨j, _, rfl⟩ := List.mem_map.mp hd
  rfl
theorem bools_shp {d : D} (h : boolsT d = true) : shp 1 d = true ∧ PyData.depth d ≤ 1 ∧ ∀ d', boolsT d' = true → alike d d' = true := by
  cases d <;> first | (cases h; done) | skip
  rename_i bs
  obtain ⟨ks, e⟩ := Option.isSome_iff_exists.mp h
  have hb : ∀ {bs : List D} {ks : List Bool}, bools bs = some ks → bs = ks.map PyData.bool := by
    intro bs
    induction bs with
    | nil => intro ks e; cases e; rfl
    | cons b bs ih =>
      intro ks e
      cases b <;> first | (cases e; done) | skip
      rename_i k
      replace e : (bools bs).map (k :: ·) = some ks := e
      cases q : bools bs with
      | none => rw [q] at e; cases e
      | some k2 => rw [q] at e; cases e; rw [ih q]; rfl
  have al : ∀ a b : List Bool, alikeAll (a.map PyData.bool) (b.map PyData.bool) = true := by
    intro a
    induction a with
    | nil => intro b; cases b <;> rfl
    | cons x a ih =>
      intro b
      cases b with
      | nil => rfl
      | cons y b => exact ih b
  have dp : ∀ a : List Bool, PyData.depthAll (a.map PyData.bool) = 0 := by
    intro a
    induction a with
    | nil => rfl
    | cons x a ih => show max 0 (PyData.depthAll (a.map PyData.bool)) = 0; rw [ih]; rfl
  rw [hb e]
  refine ⟨?_, ?_, fun d' h' => ?_⟩
  · show shpAll 0 _ = true
    refine shp_each fun d hd => ?_
    obtain ⟨k, _, rfl⟩ := List.mem_map.mp hd
    rfl
  · show PyData.depthAll _ + 1 ≤ 1
    rw [dp]
    decide
  · cases d' <;> first | (cases h'; done) | skip
    obtain ⟨k2, e2⟩ := Option.isSome_iff_exists.mp h'
    rw [hb e2]
    exact al ks k2
theorem sort_up {v : V} {ds : List D} (S : Sim K ρ F σ H) (hx : View K F H v (.list ds)) (c : upP ds = true) (h : Out T K W ρ F σ H (relE K σ) (.ok (R.tmp (.lst ds), ρ)) Q) : rSortM K [v] H Q := by
  obtain ⟨x, b, y, d, rfl, hlt, hb, hd⟩ : ∃ x b y d, ds = [.tuple [.int x, b], .tuple [.int y, d]] ∧ x < y ∧ boolsT b = true ∧ boolsT d = true := by
    unfold upP at c
    split at c
    · rename_i x b y d
      obtain ⟨c1, c3⟩ := (Bool.and_eq_true _ _ ▸ c)
      obtain ⟨c1, c2⟩ := (Bool.and_eq_true _ _ ▸ c1)
      exact ⟨x, b, y, d, rfl, of_decide_eq_true c1, c2, c3⟩
    · cases c
  obtain ⟨b1, b2, b3⟩ := bools_shp hb
  obtain ⟨d1, d2, d3⟩ := bools_shp hd
  obtain ⟨a, vs, rfl, h1, h2⟩ := hx.list S.fh
  have hlen := h2.length
  have mem : ∀ z ∈ ([.tuple [.int x, b], .tuple [.int y, d]] : List D), ∃ i e, z = .tuple [.int i, e] ∧ boolsT e = true := fun z hz => by
    rcases List.mem_cons.mp hz with rfl | hz
    · exact ⟨_, _, rfl, hb⟩
    · rw [List.mem_singleton.mp hz]; exact ⟨_, _, rfl, hd⟩
  refine ⟨a, vs, [.tuple [.int x, b], .tuple [.int y, d]], rfl, h1, ?_, fun z hz z' hz' => ?_, .inl fun z hz => ?_, fun z hz => ?_, fun p hp => ?_⟩
  · refine Reps.dp (n := 2) (shp_each fun z hz => ?_) (h2.mono S.fh)
    obtain ⟨i, e, rfl, he⟩ := mem z hz
    show shpAll 1 [.int i, e] = true
    refine shp_each fun z hz => ?_
    rcases List.mem_cons.mp hz with rfl | hz
    · rfl
    · rw [List.mem_singleton.mp hz]; exact (bools_shp he).1
  · obtain ⟨i, e, rfl, he⟩ := mem z hz
    obtain ⟨i', e', rfl, he'⟩ := mem z' hz'
    show (true && (alike e e' && true)) = true
    rw [(bools_shp he).2.2 e' he']
    rfl
  · obtain ⟨i, e, rfl, he⟩ := mem z hz
    exact ⟨_, _, rfl⟩
  · obtain ⟨i, e, rfl, he⟩ := mem z hz
    have := (bools_shp he).2.1
    show max 0 (max (PyData.depth e) 0) + 1 ≤ 8
    omega
  · have hr : Reps K F (((vs.zip [.tuple [.int x, b], .tuple [.int y, d]]).mergeSort (dataLe false (·.2))).map (·.1)) [.tuple [.int x, b], .tuple [.int y, d]] := by
      have e1 : (vs.zip [.tuple [.int x, b], .tuple [.int y, d]]).mergeSort (dataLe false (·.2)) = vs.zip [.tuple [.int x, b], .tuple [.int y, d]] := by
        refine List.mergeSort_of_pairwise ?_
        have hv : vs.length = 2 := hlen
        match vs, hv with
        | [v1, v2], _ =>
          show List.Pairwise _ [(v1, _), (v2, _)]
          refine List.pairwise_cons.mpr ⟨fun q hq => ?_, List.pairwise_singleton _ _⟩
          rw [List.mem_singleton.mp hq]
          show (!dataLt (.tuple [.int y, d]) (.tuple [.int x, b])) = true
          rw [dataLt_tuple, dataLt_all_no rfl (show PyData.eqv (.int y) (.int x) = false by show ((y == x) = false); exact beq_eq_false_iff_ne.mpr (by omega)), dataLt_int, decide_eq_false (by omega)]
          rfl
      rw [e1, List.map_fst_zip (by rw [hlen]; exact Nat.le_refl _)]
      exact h2
    exact out_lst S h hr hp
theorem sort_okL {v : V} {ds : List D} {r : R} (S : Sim K ρ F σ H) (hx : View K F H v (.list ds)) (e : b1 .sorted (.list ds) = some r) (h : Out T K W ρ F σ H (relE K σ) (.ok (r, ρ)) Q) : rSortM K [v] H Q := by
  replace e : (if sortable ds = true then some (R.tmp (.lst (sortD ds))) else if upP ds = true then some (R.tmp (.lst ds)) else none) = some r := e
  split at e
  · rename_i c
    cases e
    obtain ⟨a, vs, rfl, h1, h2⟩ := hx.list S.fh
    have hlen := h2.length
    have fin : ∀ {P : PyData → Prop}, Kin P → (∀ d ∈ ds, P d) → AllAlike ds → Sortable ds → (∀ d ∈ ds, d.depth ≤ 8) → DpAll K H vs ds → rSortM K [.ref a] H Q := by
      intro P k hP hal hso hdp hd
      refine ⟨a, vs, ds, rfl, h1, hd, hal, hso, hdp, fun p hp => ?_⟩
      have hr : Reps K F (((vs.zip ds).mergeSort (dataLe false (·.2))).map (·.1)) (sortD ds) := by
        rw [← sort_same k hlen hP]
        exact zip_reps fun b hb => reps_zip h2 b ((List.mergeSort_perm _ _).mem_iff.mp hb)
      exact out_lst S h hr hp
    rcases (Bool.or_eq_true _ _).mp c with c | c
    · obtain ⟨is, ei⟩ := Option.isSome_iff_exists.mp c
      obtain ⟨e1, e2⟩ := h2.ints ei
      subst e1 e2
      refine fin kin_int (fun d hd => ?_) (fun d hd d' hd' => ?_) (.inr fun d hd => ?_) (fun d hd => ?_) (dp_ints is)
      · obtain ⟨i, _, rfl⟩ := List.mem_map.mp hd; exact .int i
      · obtain ⟨i, _, rfl⟩ := List.mem_map.mp hd
        obtain ⟨j, _, rfl⟩ := List.mem_map.mp hd'
        rfl
      · obtain ⟨i, _, rfl⟩ := List.mem_map.mp hd
        exact ⟨(fun z => by cases z), (fun xs z => by cases z)⟩
      · obtain ⟨i, _, rfl⟩ := List.mem_map.mp hd
        exact Nat.zero_le _
    · have hk : ∀ d ∈ ds, Kt d := fun d hd => tupI_ok (List.all_eq_true.mp c d hd)
      refine fin kin_tup hk (fun d hd d' hd' => ?_) (.inl fun d hd => ?_) (fun d hd => ?_) ?_
      · obtain ⟨i, is⟩ := hk d hd
        obtain ⟨j, js⟩ := hk d' hd'
        exact alike_ints (i :: is) (j :: js)
      · obtain ⟨i, is⟩ := hk d hd
        exact ⟨_, _, rfl⟩
      · obtain ⟨i, is⟩ := hk d hd
        show PyData.depthAll _ + 1 ≤ 8
        rw [depth_ints]
        decide
      · exact Reps.dp (n := 1) (shp_each fun d hd => kt_shp (hk d hd)) (h2.mono S.fh)
  · split at e
    · rename_i c0 c
      cases e
      exact sort_up S hx c h
    · cases e
theorem sort_ok {v : V} {d : D} {r : R} (S : Sim K ρ F σ H) (hx : View K F H v d) (e : b1 .sorted d = some r) (h : Out T K W ρ F σ H (relE K σ) (.ok (r, ρ)) Q) : rSortM K [v] H Q ∨ rSortT K [v] H Q := by
  cases d <;> first | (cases e; done) | skip
  · rename_i ds
    exact .inl (sort_okL S hx e h)
  · rename_i ds
    replace e : (if (intsD ds).isSome = true then some (R.tmp (.lst (sortD ds))) else none) = some r := e
    split at e
    · rename_i c
      cases e
      obtain ⟨a, vs, rfl, h1, _, h2⟩ := hx.tuple S.fh
      obtain ⟨is, ei⟩ := Option.isSome_iff_exists.mp c
      have hlen := h2.length
      obtain ⟨e1, e2⟩ := h2.ints ei
      subst e1 e2
      refine .inr ⟨a, is, rfl, SqT.of h1, fun p hp => ?_⟩
      have hr : Reps K F ((((is.map V.int).zip (is.map PyData.int)).mergeSort (dataLe false (·.2))).map (·.1)) (sortD (is.map PyData.int)) := by
        rw [← sort_same kin_int hlen (fun d hd => by obtain ⟨i, _, rfl⟩ := List.mem_map.mp hd; exact .int i)]
        exact zip_reps fun b hb => reps_zip h2 b ((List.mergeSort_perm _ _).mem_iff.mp hb)
      exact out_lst S h hr hp
    · cases e
theorem b1_ok {f : B1} {v : V} {d : D} {r : R} (hf : b1B f = true) (S : Sim K ρ F σ H) (hx : View K F H v d) (e : b1 f d = some r) (h : Out T K W ρ F σ H (relE K σ) (.ok (r, ρ)) Q) : rB1 K f [v] H Q := by
  cases f <;> first | (cases hf; done) | skip
  · -- len
    cases d <;> first | (cases e; done) | skip
    · rename_i x
      unfold Mlg.b1 at e
      dsimp only at e
      split at e
      · rename_i c
        cases e
        rw [hx.str]
        exact .inr ⟨x, rfl, Nat.le_trans (Nat.le_of_lt c) lim_le, out_val S h (.int _)⟩
      · cases e
    · cases e
      obtain ⟨a, vs, rfl, h1, h2⟩ := hx.list S.fh
      refine .inl ⟨a, vs, rfl, .inl h1, ?_⟩
      rw [h2.length]
      exact out_val S h (.int _)
    · cases e
      obtain ⟨a, vs, rfl, h1, _, h2⟩ := hx.tuple S.fh
      refine .inl ⟨a, vs, rfl, .inr (SqT.of h1), ?_⟩
      rw [h2.length]
      exact out_val S h (.int _)
  · -- abs
    cases d <;> first | (cases e; done) | skip
    cases e
    rw [hx.int]
    exact ⟨_, rfl, out_val S h (.int _)⟩
  · -- int
    cases d <;> first | (cases e; done) | skip
    · cases e
      rw [hx.bool]
      exact .inl (.inr ⟨_, rfl, out_val S h (.int _)⟩)
    · cases e
      rw [hx.int]
      exact .inl (.inl ⟨_, rfl, out_val S h (.int _)⟩)
    · rename_i x
      rw [hx.str]
      replace e : (match x.cps.toList with
        | [c] => if 48 ≤ c ∧ c ≤ 57 then some (R.val (.int (c - 48 : Nat))) else none
        | [c, d] => if 48 ≤ c ∧ c ≤ 57 ∧ 48 ≤ d ∧ d ≤ 57 then some (R.val (.int (10 * (c - 48) + (d - 48) : Nat))) else none
        | _ => none) = some r := e
      obtain ⟨cps⟩ := x
      split at e
      · rename_i c hc
        split at e
        · rename_i hd
          cases e
          have ex : cps = #[c] := by rw [← Array.toList_inj]; exact hc
          subst ex
          refine .inr ⟨_, ((c - 48 : Nat) : Int), rfl, ?_, by show 1 ≤ 640; decide, out_val S h (.int _)⟩
          have := int_one ⟨c - 48, by omega⟩
          rw [show 48 + (c - 48) = c by omega] at this
          exact this
        · cases e
      · rename_i c d hc
        split at e
        · rename_i hd
          cases e
          have ex : cps = #[c, d] := by rw [← Array.toList_inj]; exact hc
          subst ex
          refine .inr ⟨_, ((10 * (c - 48) + (d - 48) : Nat) : Int), rfl, ?_, by show 2 ≤ 640; decide, out_val S h (.int _)⟩
          have := int_two ⟨c - 48, by omega⟩ ⟨d - 48, by omega⟩
          rw [show 48 + (c - 48) = c by omega, show 48 + (d - 48) = d by omega] at this
          exact this
        · cases e
      · cases e
  · -- str
    cases d <;> first | (cases e; done) | skip
    rename_i i
    unfold Mlg.b1 at e
    dsimp only at e
    split at e
    · rename_i c
      cases e
      rw [hx.int]
      refine ⟨i, rfl, ?_, ?_⟩
      · have : i.natAbs < 2 ^ 1920 := Nat.lt_of_lt_of_le (show i.natAbs < 2 ^ 10 by omega) (Nat.pow_le_pow_right (by decide) (by decide))
        by_cases z : i.natAbs = 0
        · rw [z]; decide
        · exact (Nat.log2_lt z).mpr this
      · rw [str_small (i := i) (by omega) (by omega)]
        exact out_val S h (.str _)
    · cases e
  · -- min
    exact mm_ok S hx e h
  · -- max
    exact mm_ok S hx e h
  · -- sum
    cases d <;> first | (cases e; done) | skip
    rename_i ds
    have e : (Mlg.intsD ds).map (fun is => R.val (.int is.sum)) = some r := e
    cases q2 : Mlg.intsD ds with
    | none => rw [q2] at e; cases e
    | some is =>
      rw [q2] at e
      cases e
      obtain ⟨a, vs, rfl, h1, h2⟩ := hx.list S.fh
      obtain ⟨h3, _⟩ := h2.ints q2
      subst h3
      exact ⟨a, is, rfl, h1, out_val S h (.int _)⟩
  · -- all
    cases d <;> first | (cases e; done) | skip
    rename_i ds
    have e : (Mlg.bools ds).map (fun bs => R.val (.bool (bs.all id))) = some r := e
    cases q2 : Mlg.bools ds with
    | none => rw [q2] at e; cases e
    | some bs =>
      rw [q2] at e
      cases e
      obtain ⟨a, vs, rfl, h1, h2⟩ := hx.list S.fh
      have h3 := h2.bools q2
      subst h3
      exact ⟨a, bs, rfl, h1, out_val S h (.bl _)⟩
  · -- sorted
    exact sort_ok S hx e h
  · -- list
    cases d <;> first | (cases e; done) | skip
    · cases e
      obtain ⟨a, vs, rfl, h1, h2⟩ := hx.list S.fh
      exact .inl ⟨a, vs, rfl, .inl h1, fun p hp => out_lst S h h2 hp⟩
    · cases e
      obtain ⟨a, vs, rfl, h1, _, h2⟩ := hx.tuple S.fh
      exact .inl ⟨a, vs, rfl, .inr (SqT.of h1), fun p hp => out_lst S h h2 hp⟩
    · cases e
      exact .inr (list_dic S hx h)
  · -- tuple
    cases d <;> first | (cases e; done) | skip
    · cases e
      obtain ⟨a, vs, rfl, h1, h2⟩ := hx.list S.fh
      exact ⟨a, vs, rfl, .inl ⟨h1, fun p hp => out_tup S h h2 hp⟩⟩
    · cases e
      obtain ⟨a, vs, rfl, h1, f1, h2⟩ := hx.tuple S.fh
      exact ⟨a, vs, rfl, .inr ⟨SqT.of h1, out_val S h (.tup f1 h2)⟩⟩
end
/-- one argument of a built-in -/
theorem le_one {K : Frag} {W : WX} {m : Env → Res (R × Env)} {kk : R → Env → Res (R × Env)} {r : List V → Hp → VK → Prop} {σ : St} {H : Hp} {Q : VK}
    (hop : ∀ (ρ : Env) (F H' : Hp) (r1 : R) (x : V) (H0 : Hp), Sim K ρ F σ H' → RelR K H0 σ ρ F H' x r1 → Out T K W ρ F σ H' (relE K σ) (kk r1 ρ) Q → r [x] H' Q)
    (h : LE T K W (fun ρ => (m ρ).bind fun p => kk p.1 p.2) σ H Q) : tCB r (tCons (LE T K W m) tNil) σ H Q := by
  obtain ⟨ρ, F, S, h⟩ := h
  exact ⟨ρ, F, S, Out.bind back_E h fun r1 ρ1 x F1 H1 s1 S1 rl1 h1 => hop ρ1 F1 H1 r1 x H S1 rl1 h1⟩
def kB1 (f : B1) (r : R) (ρ : Env) : Res (R × Env) := match look ρ r with
  | some x => (Res.of (b1 f x)).bind fun r => .ok (r, ρ)
  | none => .no
theorem kB1_ok {K : Frag} {W : WX} {f : B1} {ρ : Env} {F H H0 : Hp} {σ : St} {Q : VK} {r : R} {v : V} (S : Sim K ρ F σ H) (rl : RelR K H0 σ ρ F H v r) (h : Out T K W ρ F σ H (relE K σ) (kB1 f r ρ) Q) : ∃ d r', View K F H v d ∧ b1 f d = some r' ∧ Out T K W ρ F σ H (relE K σ) (.ok (r', ρ)) Q := by
  unfold kB1 at h
  cases e : look ρ r with
  | none => rw [e] at h; exact h.elim
  | some d =>
    rw [e] at h
    obtain ⟨r', er, h⟩ := out_of h
    exact ⟨d, r', look_ok S rl e, er, h⟩
/-! ### isinstance -/
def tyStr : Ty → String
  | .int => "int" | .bool => "bool" | .str => "str" | .tuple => "tuple" | .list => "list" | .dict => "dict"
def tyOf : D → String
  | .none => "NoneType" | .bool _ => "bool" | .int _ => "int" | .str _ => "str" | .list _ => "list" | .tuple _ => "tuple" | .dict _ => "dict"
theorem boot_ty (t : Ty) : bootBuiltins (tynm t) = some (.type (tyStr t)) := by
  cases t <;> decide +kernel
theorem mem_ty (t : Ty) : tynm t ∈ builtins := by cases t <;> decide
/-- a datum's kind, by one of its kind -/
def kdOf : Fin 7 → D
  | 0 => .none | 1 => .bool true | 2 => .int 0 | 3 => .str ⟨#[]⟩ | 4 => .list [] | 5 => .tuple [] | 6 => .dict []
theorem kit_kd (t : Ty) (i : Fin 7) : kitB (tyOf (kdOf i)) (tyStr t) = some (isTy t (kdOf i)) := by
  revert i
  cases t <;> decide +kernel
theorem kit_of_ty (K : Frag) (t : Ty) (d : D) : PySem.W.kitOne K (.type (tyOf d)) (.type (tyStr t)) = some (isTy t d) := by
  cases d
  · exact kit_ty (kit_kd t 0)
  · have h := kit_kd t 1; cases t <;> exact kit_ty h
  · have h := kit_kd t 2; cases t <;> exact kit_ty h
  · have h := kit_kd t 3; cases t <;> exact kit_ty h
  · have h := kit_kd t 4; cases t <;> exact kit_ty h
  · have h := kit_kd t 5; cases t <;> exact kit_ty h
  · have h := kit_kd t 6; cases t <;> exact kit_ty h
theorem View.tyx {K : Frag} {F H : Hp} {v : V} {d : D} (fh : Same F H) (h : View K F H v d) : TyX K H v (.type (tyOf d)) := by
  rcases h with h | ⟨a, vs, ds, rfl, rfl, h1, _⟩
  · have h := h.rep fh
    cases h with
    | non => exact .base .non
    | bl b => exact .base (.bl b)
    | int i => exact .base (.int i)
    | str x => exact .base (.str x)
    | lst a _ => exact .base (.lst a)
    | tup a _ => exact .base (.tup a)
    | dk a _ _ => exact .base (.dK a)
    | dt a _ _ => exact .base (.dT a)
  · rcases fh.seq h1 with (h1 | ⟨o, h1⟩) | ⟨o, its, n, h1, h2, _⟩
    · exact .base (.lst h1)
    · exact .base (.frz h1)
    · exact .kList h1 h2
theorem tups_ok {K : Frag} {F H : Hp} (fh : Same F H) : ∀ {vs : List V} {ds : List D} {ls : List (List Int)}, Reps K F vs ds → tupsD ds = some ls → ∃ ks : List (Addr × List Int), vs = ks.map (fun p => V.ref p.1) ∧ ls = ks.map (·.2) ∧ ∀ p ∈ ks, SqT K H p.1 (p.2.map V.int)
  | _, _, ls, .nil, e => by cases e; exact ⟨[], rfl, rfl, fun p hp => by cases hp⟩
  | _, _, ls, .cons (d := d) (ds := ds) h r, e => by
    cases d <;> first | (cases e; done) | skip
    rename_i xs
    replace e : (Mlg.intsD xs).bind (fun is => (tupsD ds).map (is :: ·)) = some ls := e
    cases q : Mlg.intsD xs with
    | none => rw [q] at e; cases e
    | some is =>
      rw [q] at e
      replace e : (tupsD ds).map (is :: ·) = some ls := e
      cases q2 : tupsD ds with
      | none => rw [q2] at e; cases e
      | some l2 =>
        rw [q2] at e
        cases e
        obtain ⟨ks, e1, e2, g⟩ := tups_ok fh r q2
        cases h with
        | tup ha hr =>
          rename_i a ws
          obtain ⟨g3, _⟩ := hr.ints q
          subst g3 e1 e2
          refine ⟨(a, is) :: ks, rfl, rfl, fun p hp => ?_⟩
          rcases List.mem_cons.mp hp with rfl | hp
          · exact sqT_mono fh (SqT.of ha)
          · exact g p hp
theorem ls_ok {f : B1} {a : Mlg.E} (ia : PrE fnm T call k N a) {X : Cx} {W : WX} {sc : Scope} {n : Str} {p pos : Pos} {x : Expr} (C : Cok fnm T call k N X sc) (tk : Takes X W) (h : (match f, x with
      | .lenset, .Call (.Name m _) [y] [] _ => bltB sc "len" n && bltB sc "set" m && plainX y && mE fnm N sc a y
      | _, _ => false) = true) : PE X (.Call (.Name n p) [x] [] pos) (LE T X.K W (Mlg.eval call (.b1 f a))) ∧ ∃ y ys p' pos', (Expr.Call (.Name n p) [x] [] pos) = .Call (.Name y p') ys [] pos' := by
  refine ⟨?_, _, _, _, _, rfl⟩
  split at h
  · rename_i m pm y py
    obtain ⟨h1, hp, h2⟩ := and3 h
    obtain ⟨hn, hm⟩ := and2 h1
    obtain ⟨rfl, hg⟩ := bltB_ok hn
    obtain ⟨rfl, hg2⟩ := bltB_ok hm
    refine PE.imp (pe_lenSetT C.calm (by have := C.room.un; omega) (by show X.env.scope.names.lookup _ = _; rw [C.hsc]; exact hg) (C.G.bl _ (by decide)) (by show X.env.scope.names.lookup _ = _; rw [C.hsc]; exact hg2) (C.G.bl _ (by decide)) (ia X W sc y C tk h2) (starEach_plain hp)) fun σ H Q q => ?_
    obtain ⟨ρ, F, S, q⟩ := q
    refine ⟨ρ, F, S, Out.bind back_E q fun r1 ρ1 v F1 H1 s1 S1 rl1 h1 => ?_⟩
    obtain ⟨d, r', hv, er, h⟩ := kB1_ok (f := .lenset) S1 rl1 h1
    replace er : (((items d).bind Mlg.intsD).bind (fun is => if is.length ≤ 4000 then some (R.val (.int (dedupI is).length)) else none)).or (lsT d) = some r' := er
    have split2 : ((items d).bind Mlg.intsD).bind (fun is => if is.length ≤ 4000 then some (R.val (.int (dedupI is).length)) else none) = some r' ∨ lsT d = some r' := by
      revert er
      generalize ((items d).bind Mlg.intsD).bind (fun is => if is.length ≤ 4000 then some (R.val (.int (dedupI is).length)) else none) = z
      intro er
      cases z with
      | none => exact .inr er
      | some y => exact .inl er
    clear er
    rcases split2 with er | er
    rotate_left
    · right
      cases d <;> first | (cases er; done) | skip
      rename_i ds
      replace er : (tupsD ds).bind (fun ls => if ls.length < 64 then some (R.val (.int (dedupL ls).length)) else none) = some r' := er
      cases q : tupsD ds with
      | none => rw [q] at er; cases er
      | some ls =>
        rw [q] at er
        replace er : (if ls.length < 64 then some (R.val (.int (dedupL ls).length)) else none) = some r' := er
        split at er
        · rename_i c
          cases er
          obtain ⟨a, vs, rfl, g1, g2⟩ := hv.list S1.fh
          obtain ⟨ks, e1, e2, g3⟩ := tups_ok S1.fh g2 q
          subst e1 e2
          exact ⟨a, ks, rfl, g1, g3, by simpa using c, out_val S1 h (.int _)⟩
        · cases er
    left
    have fin : ∀ {ds : List D}, (Mlg.intsD ds).bind (fun is => if is.length ≤ 4000 then some (R.val (.int (dedupI is).length)) else none) = some r' → ∃ is, Mlg.intsD ds = some is ∧ is.length ≤ 4000 ∧ r' = .val (.int (dedupI is).length) := by
      intro ds e
      cases q : Mlg.intsD ds with
      | none => rw [q] at e; cases e
      | some is =>
        rw [q] at e
        replace e : (if is.length ≤ 4000 then some (R.val (.int (dedupI is).length)) else none) = some r' := e
        split at e
        · rename_i c; cases e; exact ⟨is, rfl, c, rfl⟩
        · cases e
    cases d <;> first | (cases er; done) | skip
    · obtain ⟨is, ei, hl, rfl⟩ := fin er
      obtain ⟨a, vs, rfl, g1, g2⟩ := hv.list S1.fh
      obtain ⟨g3, _⟩ := g2.ints ei
      subst g3
      exact ⟨a, is, rfl, .inl g1, hl, out_val S1 h (.int _)⟩
    · obtain ⟨is, ei, hl, rfl⟩ := fin er
      obtain ⟨a, vs, rfl, g1, _, g2⟩ := hv.tuple S1.fh
      obtain ⟨g3, _⟩ := g2.ints ei
      subst g3
      exact ⟨a, is, rfl, .inr (SqT.of g1), hl, out_val S1 h (.int _)⟩
  · cases h
theorem e_b1 (f : B1) {a : Mlg.E} (ia : PrE fnm T call k N a) : PrE fnm T call k N (.b1 f a) ∧ PrT fnm T call k N (.b1 f a) := by
  have key : ∀ (X : Cx) (W : WX) (sc : Scope) (x : Expr), Cok fnm T call k N X sc → Takes X W → mE fnm N sc (.b1 f a) x = true → PE X x (LE T X.K W (Mlg.eval call (.b1 f a))) ∧ ∃ y ys p pos, x = .Call (.Name y p) ys [] pos := by
    intro X W sc x C tk h
    unfold mE at h
    try dsimp only at h
    split at h
    · rename_i n p x pos
      rcases (Bool.or_eq_true _ _).mp h with h | h
      rotate_left
      · exact ls_ok ia C tk h
      obtain ⟨h1, hp, h2⟩ := and3 h
      obtain ⟨hf, hn⟩ := and2 h1
      refine ⟨PE.imp (pe_b1 C hf hn hp (ia X W sc x C tk h2)) fun σ H Q q => ?_, _, _, _, _, rfl⟩
      refine le_one (kk := kB1 f) (fun ρ F H' r1 x H0 S rl h => ?_) q
      obtain ⟨d, r', hv, er, h⟩ := kB1_ok S rl h
      exact b1_ok hf S hv er h
    · rename_i n p x y p2 pos
      split at h
      · rename_i t
        obtain ⟨h1, hp, h2⟩ := and3 h
        obtain ⟨hn, hy⟩ := and2 h1
        obtain ⟨rfl, hg⟩ := bltB_ok hy
        have hb : PE X (.Name (tynm t) p2) (tC (.ty (tyStr t))) := pe_bltn (by show X.env.scope.names.lookup _ = _; rw [C.hsc]; exact hg) (C.G.bl _ (mem_ty t)) (boot_ty t) rfl (by cases t <;> decide) (by cases t <;> decide)
        have ha : PA X [x, .Name (tynm t) p2] (tCons (LE T X.K W (Mlg.eval call a)) (tCons (tC (.ty (tyStr t))) tNil)) := pa_cons (ia X W sc x C tk h2) (pa_cons hb pa_nil) (starEach_plain hp)
        have hps : ∀ z ∈ [x, .Name (tynm t) p2], plainX z = true := fun z hz => by
          rcases List.mem_cons.mp hz with rfl | hz
          · exact hp
          · rw [List.mem_singleton] at hz; rw [hz]; rfl
        refine ⟨PE.imp (callB_of C hn (by decide) call_isi (by decide +kernel) hps ha (by decide) (by decide)) fun σ H Q q => ?_, _, _, _, _, rfl⟩
        obtain ⟨ρ, F, S, q⟩ := q
        refine ⟨ρ, F, S, Out.bind back_E q fun r1 ρ1 v F1 H1 s1 S1 rl1 h1 => ?_⟩
        obtain ⟨d, r', hv, er, h⟩ := kB1_ok (f := .isi t) S1 rl1 h1
        cases d <;> (cases er; exact ⟨v, _, _, _, _, rfl, .ty _, hv.tyx S1.fh, kit_of_ty _ t _, out_val S1 h (.bl _)⟩)
      · cases h
    · cases h
  refine ⟨fun X W sc x C tk h => (key X W sc x C tk h).1, fun X W sc x C tk ht h => ?_⟩
  obtain ⟨h1, y, ys, p, pos, rfl⟩ := key X W sc x C tk h
  exact pt_of h1 (by intro _; rfl)
def rB2 : B2 → List V → Hp → VK → Prop
  | .min => fun xs H Q => ∃ i j, xs = [.int i, .int j] ∧ Q (.int (if j < i then j else i)) H
  | .max => fun xs H Q => ∃ i j, xs = [.int i, .int j] ∧ Q (.int (if j > i then j else i)) H
theorem e_b2 (f : B2) {a b : Mlg.E} (ia : PrE fnm T call k N a) (ib : PrE fnm T call k N b) : PrE fnm T call k N (.b2 f a b) := by
  intro X W sc x C tk h
  unfold mE at h
  try dsimp only at h
  split at h
  · rename_i n p x y pos
    obtain ⟨h1, hpy, h2⟩ := and3 h
    obtain ⟨hn, hpx⟩ := and2 h1
    obtain ⟨h2, h3⟩ := and2 h2
    have ha : PA X [x, y] (tCons (LE T X.K W (Mlg.eval call a)) (tCons (LE T X.K W (Mlg.eval call b)) tNil)) := pa_cons (ia X W sc x C tk h2) (pa_cons (ib X W sc y C tk h3) pa_nil (starEach_plain hpy)) (starEach_plain hpx)
    have hps : ∀ z ∈ [x, y], plainX z = true := fun z hz => by
      rcases List.mem_cons.mp hz with rfl | hz
      · exact hpx
      · rw [List.mem_singleton] at hz; rw [hz]; exact hpy
    have hc : PE X (.Call (.Name n p) [x, y] [] pos) (tCB (rB2 f) (tCons (LE T X.K W (Mlg.eval call a)) (tCons (LE T X.K W (Mlg.eval call b)) tNil))) := by
      cases f with
      | min => exact callB_of C hn (by decide) (call_min2 C.calm) (by decide +kernel) hps ha (by decide) (by decide)
      | max => exact callB_of C hn (by decide) (call_max2 C.calm) (by decide +kernel) hps ha (by decide) (by decide)
    refine PE.imp hc fun σ H Q q => ?_
    obtain ⟨ρ, F, S, q⟩ := q
    refine ⟨ρ, F, S, Out.bind back_E q fun r1 ρ1 v F1 H1 s1 S1 rl1 h1 => ⟨ρ1, F1, S1, Out.bind back_E h1 fun r2 ρ2 u F2 H2 s2 S2 rl2 h2 => ?_⟩⟩
    have rl1 := rl1.step S1 S2 s2
    cases r1 with
    | tmp _ => exact h2.elim
    | loc _ => exact h2.elim
    | val dx =>
      cases r2 with
      | tmp _ => exact h2.elim
      | loc _ => exact h2.elim
      | val dy =>
        obtain ⟨r, er, h⟩ := out_of h2
        cases f <;> (cases dx <;> first | (cases er; done) | skip) <;> (cases dy <;> first | (cases er; done) | skip)
        · cases er; cases rl1; cases rl2; exact ⟨_, _, rfl, out_val S2 h (.int _)⟩
        · cases er; cases rl1; cases rl2; exact ⟨_, _, rfl, out_val S2 h (.int _)⟩
  · cases h
end
end Msd
/-! Sound9: subscripts, slices, displays, methods of lists. -/
namespace Msd
open PySem PySem.Spec PyProof.Rows L2 Mlg
section
variable {K : Frag} {F H : Hp}
theorem plain_ix {y : Expr} (h : plainX y = true) : PlainIx y := by
  intro o i
  cases y <;> first | rfl | cases h
theorem Reps.atI {vs : List V} {ds : List D} (r : Reps K F vs ds) {i : Int} {d : D} (h : (place ds.length i).bind (fun j => ds[j]?) = some d) : ∃ v, atI vs i = some v ∧ Rep K F v d := by
  have e : place ds.length i = ixN vs.length i := by rw [r.length]; rfl
  rw [e] at h
  unfold L2.atI
  cases q : ixN vs.length i with
  | none => rw [q] at h; cases h
  | some j =>
    rw [q] at h
    exact r.get' h
end
section
variable {fnm : Nat → Option Str} {T : Errs} {call : CallT} {k : Nat} {N : List Str}
section
variable {K : Frag} {W : WX} {ρ : Env} {F H : Hp} {σ : St} {Q : VK}
theorem ix_ok {x y : V} {dx dy : D} {r : R} (S : Sim K ρ F σ H) (hx : View K F H x dx) (hy : Rep K F y dy) (e : ixD dx dy = some r) (h : Out T K W ρ F σ H (relE K σ) (.ok (r, ρ)) Q) : rIx K x y H Q ∨ rIxDc x y H Q := by
  cases dx <;> first | (cases e; done) | skip
  · -- a text
    cases dy <;> first | (cases e; done) | skip
    rename_i z i
    unfold ixD at e
    dsimp only at e
    split at e
    · rename_i c
      cases q : place z.cps.toList.length i with
      | none => rw [q] at e; cases e
      | some j =>
        rw [q] at e
        have e : (z.cps.toList[j]?).map (fun c => R.val (.str ⟨#[c]⟩)) = some r := e
        cases q2 : z.cps.toList[j]? with
        | none => rw [q2] at e; cases e
        | some ch =>
          rw [q2] at e
          cases e
          cases hy
          rw [hx.str]
          refine .inl (.inr (.inr ⟨z, i, ch, rfl, rfl, Nat.le_trans (Nat.le_of_lt c) lim_le, ?_, out_val S h (.str _)⟩))
          unfold L2.atI
          rw [show ixN z.cps.toList.length i = some j from q]
          exact q2
    · cases e
  · cases dy <;> first | (cases e; done) | skip
    rename_i xs i
    have e : (place xs.length i).bind (fun j => (xs[j]?).map R.val) = some r := e
    obtain ⟨a, vs, rfl, h1, h2⟩ := hx.list S.fh
    cases q : (place xs.length i).bind fun j => xs[j]? with
    | none =>
      cases q2 : place xs.length i with
      | none => rw [q2] at e; cases e
      | some j => rw [q2] at e q; have q : xs[j]? = none := q; have e : (xs[j]?).map R.val = some r := e; rw [q] at e; cases e
    | some d =>
      have er : r = .val d := by
        cases q2 : place xs.length i with
        | none => rw [q2] at q; cases q
        | some j => rw [q2] at e q; have q : xs[j]? = some d := q; have e : (xs[j]?).map R.val = some r := e; rw [q] at e; cases e; rfl
      subst er
      obtain ⟨v, h3, h4⟩ := h2.atI q
      cases hy
      exact .inl (.inl ⟨a, vs, i, v, rfl, rfl, h1, h3, out_val S h h4⟩)
  · cases dy <;> first | (cases e; done) | skip
    rename_i xs i
    have e : (place xs.length i).bind (fun j => (xs[j]?).map R.val) = some r := e
    obtain ⟨a, vs, rfl, h1, f1, h2⟩ := hx.tuple S.fh
    cases q : (place xs.length i).bind fun j => xs[j]? with
    | none =>
      cases q2 : place xs.length i with
      | none => rw [q2] at e; cases e
      | some j => rw [q2] at e q; have q : xs[j]? = none := q; have e : (xs[j]?).map R.val = some r := e; rw [q] at e; cases e
    | some d =>
      have er : r = .val d := by
        cases q2 : place xs.length i with
        | none => rw [q2] at q; cases q
        | some j => rw [q2] at e q; have q : xs[j]? = some d := q; have e : (xs[j]?).map R.val = some r := e; rw [q] at e; cases e; rfl
      subst er
      obtain ⟨v, h3, h4⟩ := h2.atI q
      cases hy
      exact .inl (.inr (.inl ⟨a, vs, i, v, rfl, rfl, SqT.of h1, h3, out_val S h h4⟩))
  · rename_i kvs
    have e : (if keyOk dy = true then (kvs.find? (Mlg.eqv dy ·.1)).map (fun p => R.val p.2) else none) = some r := by
      cases dy <;> exact e
    split at e
    · rename_i ck
      cases q : kvs.find? (Mlg.eqv dy ·.1) with
      | none => rw [q] at e; cases e
      | some p =>
        rw [q] at e
        cases e
        obtain ⟨a, t, rfl, hd⟩ := hx.dict S.fh
        have hk : keyT t dy = true := by
          have hp := List.mem_of_find?_eq_some q
          have he := List.find?_some q
          cases t with
          | false =>
            obtain ⟨ks, vs, ds, h1, h2, h3, rfl⟩ := hd
            obtain ⟨k', _, ek⟩ := List.mem_map.mp (List.of_mem_zip (show (p.1, p.2) ∈ _ from hp)).1
            rw [← ek] at he
            cases dy <;> first | (cases ck; done) | rfl | skip
            cases k' <;> cases he
          | true =>
            obtain ⟨ks, vs, ds, h1, h2, h3, rfl⟩ := hd
            obtain ⟨k', _, ek⟩ := List.mem_map.mp (List.of_mem_zip (show (p.1, p.2) ∈ _ from hp)).1
            rw [← ek] at he
            cases dy <;> first | (cases ck; done) | (cases he; done) | skip
            exact ck
        obtain ⟨o, g1, g2, g3⟩ := dic_get S.fh hd hk hy
        obtain ⟨v, rfl, hv⟩ := g2 p q
        exact .inr ⟨a, v, rfl, g1, out_val S h hv⟩
    · cases e
end
theorem e_ix {a i : Mlg.E} (ia : PrE fnm T call k N a) (ii : PrE fnm T call k N i) : PrE fnm T call k N (.ix a i) ∧ PrT fnm T call k N (.ix a i) := by
  have key : ∀ (X : Cx) (W : WX) (sc : Scope) (x : Expr), Cok fnm T call k N X sc → Takes X W → mE fnm N sc (.ix a i) x = true → PE X x (LE T X.K W (Mlg.eval call (.ix a i))) ∧ ∃ y z p, x = .Subscript y z p := by
    intro X W sc x C tk h
    unfold mE at h
    try dsimp only at h
    split at h
    · rename_i x y p
      obtain ⟨hp, h1⟩ := and2 h
      obtain ⟨h1, h2⟩ := and2 h1
      refine ⟨PE.imp (pe_ix (IxR.or ix_seq (ix_dic (by have := C.room.un; omega))) (ia X W sc x C tk h1) (ii X W sc y C tk h2) (plain_ix hp)) fun σ H Q q => ?_, _, _, _, rfl⟩
      refine le_two (kk := fun r1 r2 ρ => match look ρ r1, r2 with
        | some x, .val y => (Res.of (ixD x y)).bind fun r => .ok (r, ρ)
        | _, _ => .no) (fun ρ F H' r1 r2 x y H0 S h1 h2 h => ?_) q
      try dsimp only at h
      cases e1 : look ρ r1 with
      | none => rw [e1] at h; exact h.elim
      | some dx =>
        rw [e1] at h
        cases r2 with
        | tmp _ => exact h.elim
        | loc _ => exact h.elim
        | val dy =>
          obtain ⟨r, er, h⟩ := out_of h
          exact ix_ok S (look_ok S h1 e1) h2 er h
    · cases h
  refine ⟨fun X W sc x C tk h => (key X W sc x C tk h).1, fun X W sc x C tk ht h => ?_⟩
  obtain ⟨h1, y, z, p, rfl⟩ := key X W sc x C tk h
  exact pt_of h1 (by intro _; rfl)

/-! ### slices -/
theorem sIx_is (n d : Nat) (o : Option Int) : HT.sIx n d o = Mlg.sIx n d o := by cases o <;> rfl
theorem Reps.cut {K : Frag} {F : Hp} {vs : List V} {ds : List D} (r : Reps K F vs ds) (lo hi : Option Int) : Reps K F (cutV vs lo hi) (cutL ds lo hi) := by
  unfold cutV cutL
  rw [r.length, sIx_is, sIx_is]
  exact (r.drop _).take _
abbrev relOI : St → Hp → Env → Hp → Hp → Option Int → Option Int → Prop := fun _ _ _ _ _ a b => a = b
theorem back_OI {σ : St} : Back (relOI σ) := fun _ _ _ _ _ _ _ _ h => h
def PrO (fnm : Nat → Option Str) (T : Errs) (call : CallT) (k : Nat) (N : List Str) (e : Mlg.Eo) : Prop :=
  ∀ (X : Cx) (W : WX) (sc : Scope) (x : Option Expr), Cok fnm T call k N X sc → Takes X W → mEo fnm N sc e x = true → PO X x (LX T X.K W relOI (Mlg.evalo call e))
theorem PO.imp {X : Cx} {x : Option Expr} {t t' : TO} (h : PO X x t) (i : ∀ σ H Q, t' σ H Q → t σ H Q) : PO X x t' := ⟨fun pins s σ H Q I q => h.run pins s σ H Q I (i σ H Q q)⟩
theorem o_no : PrO fnm T call k N .no := by
  intro X W sc x C tk h
  unfold mEo at h
  try dsimp only at h
  split at h
  · exact PO.imp po_none fun σ H Q q => by obtain ⟨ρ, F, S, q⟩ := q; exact q none F H .refl S rfl
  · cases h
theorem o_so {e : Mlg.E} (ie : PrE fnm T call k N e) : PrO fnm T call k N (.so e) := by
  intro X W sc x C tk h
  unfold mEo at h
  try dsimp only at h
  split at h
  · rename_i x
    refine PO.imp (po_some (ie X W sc x C tk h)) fun σ H Q q => ?_
    obtain ⟨ρ, F, S, q⟩ := q
    refine ⟨ρ, F, S, Out.bind back_OI q fun r1 ρ1 v F1 H1 s1 S1 rl1 h1 => ?_⟩
    cases r1 with
    | tmp _ => exact h1.elim
    | loc _ => exact h1.elim
    | val d =>
      cases d <;> first | exact h1.elim | skip
      cases rl1
      exact ⟨_, rfl, h1 _ F1 H1 .refl S1 rfl⟩
  · cases h
def rSlAll (K : Frag) : V → Option Int → Option Int → Hp → VK → Prop := fun x lo hi H Q => rSlL K x lo hi H Q ∨ rSlA K x lo hi H Q ∨ L2.rSlS x lo hi H Q
theorem cut_whole {α : Type} {xs : List α} {lo hi : Option Int} (h : Mlg.sIx xs.length 0 lo = 0 ∧ Mlg.sIx xs.length xs.length hi = xs.length) : cutL xs lo hi = xs := by
  unfold cutL
  rw [h.1, h.2, List.drop_zero, Nat.sub_zero, List.take_length]
theorem e_sl {a : Mlg.E} {lo hi : Mlg.Eo} (ia : PrE fnm T call k N a) (il : PrO fnm T call k N lo) (ih : PrO fnm T call k N hi) : PrE fnm T call k N (.sl a lo hi) := by
  intro X W sc x C tk h
  unfold mE at h
  try dsimp only at h
  split at h
  · rename_i x l u p2 pos
    obtain ⟨h1, h2, h3⟩ := and3 h
    refine PE.imp (pe_slice (r := rSlAll X.K) (SlR.or sl_list (SlR.or sl_tupA sl_str)) (ia X W sc x C tk h1) (il X W sc l C tk h2) (ih X W sc u C tk h3)) fun σ H Q q => ?_
    obtain ⟨ρ, F, S, q⟩ := q
    refine ⟨ρ, F, S, Out.bind back_E q fun r1 ρ1 x F1 H1 s1 S1 rl1 h1 => ⟨ρ1, F1, S1, Out.bind back_E h1 fun o2 ρ2 o2' F2 H2 s2 S2 rl2 h2 => ⟨ρ2, F2, S2, Out.bind back_E h2 fun o3 ρ3 o3' F3 H3 s3 S3 rl3 h3 => ?_⟩⟩⟩
    have rl1 := (rl1.step S1 S2 s2).step S2 S3 s3
    subst rl2 rl3
    try dsimp only at h3
    cases e1 : look ρ3 r1 with
    | none => rw [e1] at h3; exact h3.elim
    | some d =>
      rw [e1] at h3
      obtain ⟨r, er, h⟩ := out_of h3
      have hv := look_ok S3 rl1 e1
      cases d <;> first | (cases er; done) | skip
      · rename_i z
        replace er : (if z.cps.size < lim then some (R.val (.str ⟨(cutL z.cps.toList o2' o3').toArray⟩)) else none) = some r := er
        split at er
        · rename_i cz
          cases er
          rw [hv.str]
          refine .inr (.inr ⟨z, rfl, Nat.le_trans (Nat.le_of_lt cz) lim_le, ?_⟩)
          have ec : cutS z o2' o3' = ⟨(cutL z.cps.toList o2' o3').toArray⟩ := by
            unfold cutS cutL
            rw [sIx_is, sIx_is]
            rfl
          rw [ec]
          exact out_val S3 h (.str _)
        · cases er
      · cases er
        obtain ⟨a, vs, rfl, h4, h5⟩ := hv.list S3.fh
        exact .inl ⟨a, vs, rfl, h4, fun p hp => out_lst S3 h (h5.cut _ _) hp⟩
      · cases er
        obtain ⟨a, vs, rfl, h4, f4, h5⟩ := hv.tuple S3.fh
        refine .inr (.inl ⟨a, vs, rfl, SqT.of h4, fun c => ?_, fun c p hp => out_tup S3 h (h5.cut _ _) hp⟩)
        rw [sIx_is, sIx_is, h5.length] at c
        rw [cut_whole c] at h
        exact out_val S3 h (.tup f4 h5)
  · cases h

/-! ### displays -/
theorem fix_ok {K : Frag} {ρ ρ' : Env} {F H H0 : Hp} {σ : St} {v : V} {r : R} {d : D} (S : Sim K ρ F σ H) (rl : RelR K H0 σ ρ F H v r) (e : fix ρ r = some (d, ρ')) :
    ∃ F', Sim K ρ' F' σ H ∧ Rep K F' v d ∧ Same F F' ∧ (∀ p, Own ρ' σ p → Own ρ σ p) ∧ (∀ p, OwnU ρ' σ p → OwnU ρ σ p) ∧ (∀ p, F p = none → (H0 p ≠ none ∧ ¬ OwnU ρ σ p) → F' p = none) := by
  cases r with
  | val d' => cases e; exact ⟨F, S, rl, .refl _, fun _ h => h, fun _ h => h, fun _ h _ => h⟩
  | tmp o =>
    cases e
    obtain ⟨p, rfl, hF, ho, hn, h0⟩ := rl
    obtain ⟨u, hu, hr⟩ := ho.rep hF
    exact ⟨_, S.freezeNew hu hF hn, hr, same_new hF, fun _ h => h, fun _ h => h, fun q h ⟨h1, _⟩ => by rw [upd_ne (show q ≠ p from fun z => h1 (z ▸ h0))]; exact h⟩
  | loc i =>
    obtain ⟨rl, _⟩ := rl
    unfold fix at e
    dsimp only at e
    split at e
    · rename_i d' hi
      cases e
      obtain ⟨v', h1, h2⟩ := S.slot i _ hi
      rw [rl] at h1
      cases h1
      exact ⟨F, S, h2, .refl _, fun _ h => h, fun _ h => h, fun _ h _ => h⟩
    · rename_i o hi
      cases e
      obtain ⟨p, u, h1, h2, h3, h4, h5, h6⟩ := S.freeze hi
      rw [rl] at h1
      cases h1
      refine ⟨_, h5, h4, same_new h3, fun q hq => ?_, fun q hq => ?_, fun q h ⟨_, hn⟩ => ?_⟩
      · refine own_sub (fun j s o' hj ho => ?_) q hq
        rcases isOwn_set (lt_of_get hi) hj ho with ⟨_, z⟩ | ⟨_, hj⟩
        · cases z
        · exact ⟨s, o', hj, ho⟩
      · obtain ⟨j, o', hj, ej⟩ := hq
        rcases isOwn_set (lt_of_get hi) hj rfl with ⟨_, z⟩ | ⟨_, hj⟩
        · cases z
        · exact ⟨j, o', hj, ej⟩
      · rw [upd_ne (show q ≠ p from fun z => hn ⟨i, o, hi, z ▸ rl⟩)]; exact h
    · cases e
/-- a value made of a result, over the state ahead -/
theorem fix_step {K : Frag} {ρ ρ1 ρ' : Env} {F F1 H H1 : Hp} {σ : St} {v : V} {r : R} {d : D} (st : Step ρ σ F H ρ1 σ F1 H1) (S : Sim K ρ1 F1 σ H1) (rl : RelR K H σ ρ1 F1 H1 v r) (e : fix ρ1 r = some (d, ρ')) :
    ∃ F', Step ρ σ F H ρ' σ F' H1 ∧ Sim K ρ' F' σ H1 ∧ Rep K F' v d := by
  obtain ⟨F', S', hr, ex, ow, owU, fr⟩ := fix_ok S rl e
  refine ⟨F', ⟨st.ext.trans ex, st.keep, st.dom, fun p q => st.own p (ow p q), fun p q => st.ownU p (owU p q), fun p h1 h2 h3 h4 => ?_⟩, S', hr⟩
  exact fr p (st.frz p h1 h2 h3 h4) ⟨h2, fun q => (st.ownU p q).elim h3 h2⟩
abbrev relV (K : Frag) : St → Hp → Env → Hp → Hp → List V → List D → Prop := fun _ _ _ F' _ vs ds => Reps K F' vs ds
theorem back_V {K : Frag} {σ : St} : Back (relV K σ) := fun _ _ _ _ _ _ _ _ h => h
def PrV (fnm : Nat → Option Str) (T : Errs) (call : CallT) (k : Nat) (N : List Str) (es : Mlg.Es) : Prop :=
  ∀ (X : Cx) (W : WX) (sc : Scope) (xs : List Expr), Cok fnm T call k N X sc → Takes X W → mEs fnm N sc es xs = true → PA X xs (LX T X.K W (relV X.K) (Mlg.evalv call es))
theorem v_nil : PrV fnm T call k N .nil := by
  intro X W sc x C tk h
  unfold mEs at h
  try dsimp only at h
  split at h
  · exact PA.imp pa_nil fun σ H Q q => by obtain ⟨ρ, F, S, q⟩ := q; exact q [] F H .refl S .nil
  · cases h
theorem v_cons {e : Mlg.E} {es : Mlg.Es} (ie : PrE fnm T call k N e) (is : PrV fnm T call k N es) : PrV fnm T call k N (.cons e es) := by
  intro X W sc x C tk h
  unfold mEs at h
  try dsimp only at h
  split at h
  · rename_i x xs
    obtain ⟨hp, h1⟩ := and2 h
    obtain ⟨h1, h2⟩ := and2 h1
    refine PA.imp (pa_cons (ie X W sc x C tk h1) (is X W sc xs C tk h2) (starEach_plain hp)) fun σ H Q q => ?_
    obtain ⟨ρ, F, S, q⟩ := q
    refine ⟨ρ, F, S, Out.bind0 q fun r1 ρ1 v F1 H1 s1 S1 rl1 h1 => ?_⟩
    try dsimp only at h1
    cases ef : fix ρ1 r1 with
    | none => rw [ef] at h1; exact h1.elim
    | some p =>
      obtain ⟨d, ρ'⟩ := p
      rw [ef] at h1
      obtain ⟨F', st', S', hr⟩ := fix_step s1 S1 rl1 ef
      refine ⟨ρ', F', S', Out.bind back_V (Out.rebase back_V st' h1) fun ds ρ2 vs F2 H2 s2 S2 rl2 h2 => ?_⟩
      exact h2 _ F2 H2 .refl S2 (.cons (hr.mono s2.ext) rl2)
  · cases h
theorem v_star {e : Mlg.E} {es : Mlg.Es} (ie : PrE fnm T call k N e) (is : PrV fnm T call k N es) : PrV fnm T call k N (.star e es) := by
  intro X W sc x C tk h
  unfold mEs at h
  try dsimp only at h
  split at h
  · rename_i x p xs
    obtain ⟨h1, h2⟩ := and2 h
    refine PA.imp (StX.pa_star (ie X W sc x C tk h1) (is X W sc xs C tk h2)) fun σ H Q q => ?_
    obtain ⟨ρ, F, S, q⟩ := q
    refine ⟨ρ, F, S, Out.bind back_V q fun r1 ρ1 v F1 H1 s1 S1 rl1 h1 => ?_⟩
    cases r1 with
    | tmp _ => exact h1.elim
    | loc _ => exact h1.elim
    | val d =>
      replace h1 : Out T X.K W ρ1 F1 σ H1 (relV X.K σ) ((Res.of (items d)).bind fun xs => (Mlg.evalv call es ρ1).bind fun q => .ok (xs ++ q.1, q.2)) Q := h1
      cases ei : items d with
      | none => rw [ei] at h1; exact h1.elim
      | some ds =>
        rw [ei] at h1
        have hv : View X.K F1 H1 v d := .inl (.inl rl1)
        obtain ⟨a, vs, ev, hs, hr⟩ := hv.seq S1.fh ei
        refine ⟨a, vs, ev, hs.symm, ρ1, F1, S1, Out.bind back_V (show Out T X.K W ρ1 F1 σ H1 (relV X.K σ) ((Mlg.evalv call es ρ1).bind fun q => .ok (ds ++ q.1, q.2)) Q from h1) fun ds2 ρ2 vs2 F2 H2 s2 S2 rl2 h2 => ?_⟩
        exact h2 _ F2 H2 .refl S2 ((hr.mono s2.ext).append rl2)
  · cases h
theorem small_le {ds : List D} (h : small ds = true) : ds.length ≤ sizeLine := Nat.le_trans (Nat.le_of_lt (of_decide_eq_true h)) lim_le
theorem e_tup {es : Mlg.Es} (is : PrV fnm T call k N es) : PrE fnm T call k N (.tup es) := by
  intro X W sc x C tk h
  unfold mE at h
  try dsimp only at h
  split at h
  · rename_i xs j pos
    refine PE.imp (pe_tup (is X W sc xs C tk h)) fun σ H Q q => ?_
    obtain ⟨ρ, F, S, q⟩ := q
    refine ⟨ρ, F, S, Out.bind back_E q fun ds ρ1 vs F1 H1 s1 S1 rl1 h1 => ?_⟩
    try dsimp only at h1
    split at h1
    · rename_i c
      exact ⟨by rw [Reps.length rl1]; exact small_le c, fun p hp => out_tup S1 h1 rl1 hp⟩
    · exact h1.elim
  · cases h
theorem e_lst {es : Mlg.Es} (is : PrV fnm T call k N es) : PrE fnm T call k N (.lst es) := by
  intro X W sc x C tk h
  unfold mE at h
  try dsimp only at h
  split at h
  · rename_i xs pos
    refine PE.imp (pe_lst (is X W sc xs C tk h)) fun σ H Q q => ?_
    obtain ⟨ρ, F, S, q⟩ := q
    refine ⟨ρ, F, S, Out.bind back_E q fun ds ρ1 vs F1 H1 s1 S1 rl1 h1 => ?_⟩
    try dsimp only at h1
    split at h1
    · rename_i c
      exact ⟨by rw [Reps.length rl1]; exact small_le c, fun p hp => out_lst S1 h1 rl1 hp⟩
    · exact h1.elim
  · cases h
/-! ### xs.append(e), xs.pop(..) -/
theorem ownL_ok {ρ : Env} {i : Nat} {xs : List D} (h : ownL ρ i = some xs) : ρ[i]? = some (.own (.lst xs)) := by
  unfold ownL at h
  split at h
  · rename_i ys e; cases h; exact e
  · cases h
theorem ownL_at {K : Frag} {ρ : Env} {F H : Hp} {σ : St} {i : Nat} (S : Sim K ρ F σ H) (h : (ownL ρ i).isSome = true) : ∃ p vs, σ[i]? = some (some (.ref p)) ∧ H p = some (.lst vs) := by
  cases e : ownL ρ i with
  | none => rw [e] at h; cases h
  | some xs =>
    obtain ⟨p, h1, _, vs, h2, _⟩ := S.slot i _ (ownL_ok e)
    exact ⟨p, vs, h1, h2⟩
theorem few_one {y : Expr} {cpos : Pos} {env : PySem.Env} (hp : plainX y = true) : ((backTo cpos (starEach [y] env)).all (fun x => !x.1) && (backToKw cpos (keywordEach [] env)).all (fun x => x.1.isSome)
      && decide ([y].length + ([] : List Keyword).length + (if ([] : List Keyword).isEmpty then 0 else 1) < 30)) = true := by
  rw [starEach_plain hp]; rfl
theorem e_app (i : Nat) {a : Mlg.E} (ia : PrE fnm T call k N a) : PrE fnm T call k N (.app i a) := by
  intro X W sc x C tk h
  unfold mE at h
  try dsimp only at h
  split at h
  · rename_i x p m apos y cpos
    obtain ⟨h1, hp, h2⟩ := and3 h
    obtain ⟨h1, hn, hl⟩ := and3 h1
    obtain ⟨hm, hN, hv⟩ := and3 h1
    obtain ⟨n1, n2, _⟩ := nameB_ok hn
    have e : m = ("append" : Str) := of_decide_eq_true hm
    subst e
    have po : PE X (.Name x p) (tVar i) := pe_var (i := i) (by rw [C.hN]; exact of_decide_eq_true hN) (by rw [C.hsc]; exact visB_ok hv) n1 n2
    have pa : PA X [y] (tCons (LE T X.K W (Mlg.eval call a)) tNil) := pa_cons (ia X W sc y C tk h2) pa_nil (starEach_plain hp)
    refine PE.imp (pe_bm PySem.F.plainAttrs_list PySem.F.slot_list_append PySem.F.type_list_append mt_append po pa (by rfl) (few_one hp) hl (starEach_plain hp) (by rfl)) fun σ H Q q => ?_
    obtain ⟨ρ, F, S, q⟩ := q
    unfold Mlg.eval at q
    split at q
    · rename_i c
      obtain ⟨pa0, vs0, g1, g2⟩ := ownL_at S c
      refine ⟨_, g1, .inl ⟨rfl, vs0, SqL.of g2⟩, ρ, F, S, Out.bind0 q fun r1 ρ1 v F1 H1 s1 S1 rl1 h1 => ?_⟩
      try dsimp only at h1
      cases ef : fix ρ1 r1 with
      | none => rw [ef] at h1; exact h1.elim
      | some pr =>
        obtain ⟨d, ρ'⟩ := pr
        rw [ef] at h1
        try dsimp only at h1
        obtain ⟨F', st', S', hr⟩ := fix_step s1 S1 rl1 ef
        have h1 := Out.rebase back_E st' h1
        cases eo : ownL ρ' i with
        | none => rw [eo] at h1; exact h1.elim
        | some xs =>
          rw [eo] at h1
          try dsimp only at h1
          split at h1
          · rename_i cs
            obtain ⟨p', k1, kF, vs, k2, k3⟩ := S'.slot i _ (ownL_ok eo)
            rw [g1] at k1
            cases k1
            obtain ⟨S2, st2⟩ := S'.change (u := .lst (vs ++ [v])) (o' := .lst (xs ++ [d])) (ownL_ok eo) g1 ⟨_, upd_same, k3.append (.cons hr .nil)⟩
            refine ⟨pa0, vs, v, rfl, rfl, k2, ?_, h1 .non F' _ st2 S2 .non⟩
            rw [k3.length]
            exact Nat.lt_of_lt_of_le (of_decide_eq_true cs) lim_le
          · exact h1.elim
    · exact q.elim
  · cases h
theorem e_pop (i : Nat) {a : Mlg.Eo} (ia : ∀ e, a = .so e → PrE fnm T call k N e) : PrE fnm T call k N (.pop i a) := by
  intro X W sc x C tk h
  unfold mE at h
  try dsimp only at h
  split at h
  · rename_i x p m apos y cpos
    obtain ⟨h1, hp, h2⟩ := and3 h
    obtain ⟨h1, hn, hl⟩ := and3 h1
    obtain ⟨hm, hN, hv⟩ := and3 h1
    obtain ⟨n1, n2, _⟩ := nameB_ok hn
    have e : m = ("pop" : Str) := of_decide_eq_true hm
    subst e
    cases a with
    | no => unfold mEo at h2; cases h2
    | so e =>
      have h2 : mE fnm N sc e y = true := by unfold mEo at h2; exact h2
      have po : PE X (.Name x p) (tVar i) := pe_var (i := i) (by rw [C.hN]; exact of_decide_eq_true hN) (by rw [C.hsc]; exact visB_ok hv) n1 n2
      have pa : PA X [y] (tCons (LE T X.K W (Mlg.eval call e)) tNil) := pa_cons (ia e rfl X W sc y C tk h2) pa_nil (starEach_plain hp)
      refine PE.imp (pe_bm PySem.F.plainAttrs_list PySem.F.slot_list_pop PySem.F.type_list_pop mt_popAt po pa (by rfl) (few_one hp) hl (starEach_plain hp) (by rfl)) fun σ H Q q => ?_
      obtain ⟨ρ, F, S, q⟩ := q
      unfold Mlg.eval at q
      split at q
      · rename_i c
        obtain ⟨pa0, vs0, g1, g2⟩ := ownL_at S c
        refine ⟨_, g1, .inl ⟨rfl, vs0, SqL.of g2⟩, ρ, F, S, ?_⟩
        unfold Mlg.evalo at q
        have q : Out T X.K W ρ F σ H (relE X.K σ) ((Mlg.eval call e ρ).bind fun p => (match p.1 with
            | .val (.int i) => Res.ok (some i, p.2)
            | _ => .no).bind fun p => match ownL p.2 i with
          | some xs => (match p.1 with
            | none => (match xs[xs.length - 1]? with | some x => .ok (.val x, p.2.set i (.own (.lst xs.dropLast))) | none => .no)
            | some j => if 0 ≤ j ∧ j < 1000000 then (match xs[j.toNat]? with | some x => .ok (.val x, p.2.set i (.own (.lst (xs.eraseIdx j.toNat)))) | none => .no) else .no)
          | none => .no) Q := by
          cases hq : Mlg.eval call e ρ with
          | no => rw [hq] at q; exact q
          | exc c f ρ' => rw [hq] at q; exact q
          | ok p => rw [hq] at q; exact q
        refine Out.bind back_E q fun r1 ρ1 v F1 H1 s1 S1 rl1 h1 => ?_
        cases r1 with
        | tmp _ => exact h1.elim
        | loc _ => exact h1.elim
        | val d =>
          cases d <;> first | exact h1.elim | skip
          rename_i j
          cases rl1
          have h1 : Out T X.K W ρ1 F1 σ H1 (relE X.K σ) (match ownL ρ1 i with
            | some xs => (if 0 ≤ j ∧ j < 1000000 then (match xs[j.toNat]? with | some x => .ok (.val x, ρ1.set i (.own (.lst (xs.eraseIdx j.toNat)))) | none => .no) else .no)
            | none => .no) Q := h1
          cases eo : ownL ρ1 i with
          | none => rw [eo] at h1; exact h1.elim
          | some xs =>
            rw [eo] at h1
            try dsimp only at h1
            split at h1
            · rename_i cj
              cases ex : xs[j.toNat]? with
              | none => rw [ex] at h1; exact h1.elim
              | some x =>
                rw [ex] at h1
                obtain ⟨p', k1, kF, vs, k2, k3⟩ := S1.slot i _ (ownL_ok eo)
                rw [g1] at k1
                cases k1
                obtain ⟨v, ev, hv⟩ := k3.get' ex
                obtain ⟨S2, st2⟩ := S1.change (u := .lst (vs.eraseIdx j.toNat)) (o' := .lst (xs.eraseIdx j.toNat)) (ownL_ok eo) g1 ⟨_, upd_same, k3.eraseIdx _⟩
                refine ⟨pa0, vs, j, j.toNat, v, rfl, rfl, k2, by omega, by omega, ?_, ev, h1 v F1 _ st2 S2 hv⟩
                have hlt := lt_of_get ev
                unfold seqIndex?
                have n1 : ¬ j < 0 := by omega
                simp only [n1, if_false]
                rw [if_pos]
                have a1 : decide (0 ≤ j) = true := decide_eq_true cj.1
                have a2 : decide (j < (vs.length : Int)) = true := decide_eq_true (by omega)
                rw [a1, a2]
                rfl
            · exact h1.elim
      · exact q.elim
  · rename_i x p m apos cpos
    obtain ⟨h1, hl, h2⟩ := and3 h
    obtain ⟨h1, hv, hn⟩ := and3 h1
    obtain ⟨hm, hN⟩ := and2 h1
    obtain ⟨n1, n2, _⟩ := nameB_ok hn
    have e : m = ("pop" : Str) := of_decide_eq_true hm
    subst e
    cases a with
    | so e => unfold mEo at h2; cases h2
    | no =>
      have po : PE X (.Name x p) (tVar i) := pe_var (i := i) (by rw [C.hN]; exact of_decide_eq_true hN) (by rw [C.hsc]; exact visB_ok hv) n1 n2
      refine PE.imp (pe_bm0 PySem.F.plainAttrs_list PySem.F.slot_list_pop PySem.F.type_list_pop mt_pop po (by rfl) hl) fun σ H Q q => ?_
      obtain ⟨ρ, F, S, q⟩ := q
      unfold Mlg.eval at q
      split at q
      · rename_i c
        obtain ⟨pa0, vs0, g1, g2⟩ := ownL_at S c
        refine ⟨_, g1, .inl ⟨rfl, vs0, SqL.of g2⟩, ?_⟩
        have q : Out T X.K W ρ F σ H (relE X.K σ) (match ownL ρ i with
          | some xs => (match xs[xs.length - 1]? with | some x => .ok (.val x, ρ.set i (.own (.lst xs.dropLast))) | none => .no)
          | none => .no) Q := q
        cases eo : ownL ρ i with
        | none => rw [eo] at q; exact q.elim
        | some xs =>
          rw [eo] at q
          try dsimp only at q
          cases ex : xs[xs.length - 1]? with
          | none => rw [ex] at q; exact q.elim
          | some x =>
            rw [ex] at q
            obtain ⟨p', k1, kF, vs, k2, k3⟩ := S.slot i _ (ownL_ok eo)
            rw [g1] at k1
            cases k1
            rw [← k3.length] at ex
            obtain ⟨v, ev, hv⟩ := k3.get' ex
            have hd : Reps X.K F vs.dropLast xs.dropLast := by
              rw [List.dropLast_eq_take, List.dropLast_eq_take, k3.length]
              exact k3.take _
            obtain ⟨S2, st2⟩ := S.change (u := .lst vs.dropLast) (o' := .lst xs.dropLast) (ownL_ok eo) g1 ⟨_, upd_same, hd⟩
            exact ⟨pa0, vs, v, rfl, rfl, k2, ev, q v F _ st2 S2 hv⟩
      · exact q.elim
  · cases h
end
end Msd
/-! Sound10: calls of the text's defs. -/
namespace Msd
open PySem PySem.Spec PyProof.Rows L2 Mlg
/-! ### what is handed over, what comes back -/
inductive Conv : Slot → Slot → Prop
  | own (o : O) : Conv (.own o) (.own o)
  | lck (o : O) : Conv (.lck o) (.own o)
  | val (d : D) : Conv (.val d) (.val d)
theorem argsOf_spec {ρ : Env} : ∀ {rs : List R} {ss : List Slot}, argsOf ρ rs = some ss → ss.length = rs.length ∧ ∀ (i : Nat) (r : R), rs[i]? = some r → ∃ s, ss[i]? = some s ∧ argOf ρ r = some s
  | [], ss, h => by cases h; exact ⟨rfl, fun i r e => by simp at e⟩
  | r :: rs, ss, h => by
    have h : (argOf ρ r).bind (fun s => (argsOf ρ rs).map (s :: ·)) = some ss := h
    cases e1 : argOf ρ r with
    | none => rw [e1] at h; cases h
    | some s =>
      rw [e1] at h
      have h : (argsOf ρ rs).map (s :: ·) = some ss := h
      cases e2 : argsOf ρ rs with
      | none => rw [e2] at h; cases h
      | some ss' =>
        rw [e2] at h
        cases h
        obtain ⟨h1, h2⟩ := argsOf_spec e2
        refine ⟨by simp [h1], fun i r' e => ?_⟩
        cases i with
        | zero => simp at e; subst e; exact ⟨s, by simp, e1⟩
        | succ i => simp at e; obtain ⟨s', a, b⟩ := h2 i r' e; exact ⟨s', by simpa using a, b⟩
theorem lent_mem {ρ : Env} : ∀ {rs : List R} {i j : Nat} {o : O}, rs[i]? = some (.loc j) → ρ[j]? = some (.own o) → j ∈ lent ρ rs
  | [], i, j, o, h, _ => by simp at h
  | r :: rs, i, j, o, h, ho => by
    cases i with
    | zero =>
      simp at h
      subst h
      unfold lent
      rw [ho]
      exact List.mem_append_left _ (by simp)
    | succ i =>
      simp at h
      have := lent_mem (ρ := ρ) h ho
      cases r with
      | val _ => exact this
      | tmp _ => exact this
      | loc _ => exact List.mem_append_right _ this
theorem lent_nodup {ρ : Env} : ∀ {rs : List R} {i i' j : Nat} {o : O}, nodupN (lent ρ rs) = true → rs[i]? = some (.loc j) → rs[i']? = some (.loc j) → ρ[j]? = some (.own o) → i = i'
  | [], i, _, j, o, _, h, _, _ => by simp at h
  | r :: rs, i, i', j, o, hn, h, h', ho => by
    have tail : nodupN (lent ρ rs) = true := by
      cases r with
      | val _ => exact hn
      | tmp _ => exact hn
      | loc a =>
        unfold lent at hn
        split at hn
        · exact (and2 hn).2
        · exact hn
    cases i with
    | zero =>
      cases i' with
      | zero => rfl
      | succ i' =>
        simp at h h'
        subst h
        have hm := lent_mem h' ho
        unfold lent at hn
        rw [ho] at hn
        have := (and2 hn).1
        simp [List.contains_iff_mem] at this
        exact absurd hm this
    | succ i =>
      cases i' with
      | zero =>
        simp at h h'
        subst h'
        have hm := lent_mem h ho
        unfold lent at hn
        rw [ho] at hn
        have := (and2 hn).1
        simp [List.contains_iff_mem] at this
        exact absurd hm this
      | succ i' =>
        simp at h h'
        rw [lent_nodup tail h h' ho]
theorem backArgs_spec : ∀ {rs : List R} {ss : List Slot} {ρ ρ' : Env}, backArgs ρ rs ss = some ρ' → ρ'.length = ρ.length ∧ ∀ j : Nat,
    (∀ o, ρ[j]? = some (.own o) → (∃ i : Nat, rs[i]? = some (.loc j)) → ∃ (i : Nat) (s t : Slot), rs[i]? = some (.loc j) ∧ ss[i]? = some s ∧ Conv s t ∧ ρ'[j]? = some t) ∧
    (((∀ o, ρ[j]? ≠ some (.own o)) ∨ ∀ i : Nat, rs[i]? ≠ some (.loc j)) → ρ'[j]? = ρ[j]?)
  | [], ss, ρ, ρ', h => by
    cases ss with
    | nil => cases h; exact ⟨rfl, fun j => ⟨fun o _ ⟨i, e⟩ => by simp at e, fun _ => rfl⟩⟩
    | cons _ _ => cases h
  | r :: rs, [], ρ, ρ', h => by cases r <;> cases h
  | r :: rs, s :: ss, ρ, ρ', h => by
    -- nothing of this one comes back
    have skip : backArgs ρ rs ss = some ρ' → (∀ j o, r = .loc j → ρ[j]? ≠ some (.own o)) → ρ'.length = ρ.length ∧ ∀ j : Nat,
        (∀ o, ρ[j]? = some (.own o) → (∃ i : Nat, (r :: rs)[i]? = some (.loc j)) → ∃ (i : Nat) (s' t : Slot), (r :: rs)[i]? = some (.loc j) ∧ (s :: ss)[i]? = some s' ∧ Conv s' t ∧ ρ'[j]? = some t) ∧
        (((∀ o, ρ[j]? ≠ some (.own o)) ∨ ∀ i : Nat, (r :: rs)[i]? ≠ some (.loc j)) → ρ'[j]? = ρ[j]?) := by
      intro h hr
      obtain ⟨h1, h2⟩ := backArgs_spec h
      refine ⟨h1, fun j => ⟨fun o ho ⟨i, e⟩ => ?_, fun c => ?_⟩⟩
      · cases i with
        | zero => simp at e; exact absurd ho (hr j o e)
        | succ i =>
          simp at e
          obtain ⟨i', s', t, a, b, c, d⟩ := (h2 j).1 o ho ⟨i, e⟩
          exact ⟨i' + 1, s', t, by simpa using a, by simpa using b, c, d⟩
      · refine (h2 j).2 (c.elim .inl fun c => .inr fun i e => c (i + 1) (by simpa using e))
    -- a lent one
    have put : ∀ a o t, r = .loc a → ρ[a]? = some (.own o) → Conv s t → backArgs (ρ.set a t) rs ss = some ρ' → ρ'.length = ρ.length ∧ ∀ j : Nat,
        (∀ o, ρ[j]? = some (.own o) → (∃ i : Nat, (r :: rs)[i]? = some (.loc j)) → ∃ (i : Nat) (s' t : Slot), (r :: rs)[i]? = some (.loc j) ∧ (s :: ss)[i]? = some s' ∧ Conv s' t ∧ ρ'[j]? = some t) ∧
        (((∀ o, ρ[j]? ≠ some (.own o)) ∨ ∀ i : Nat, (r :: rs)[i]? ≠ some (.loc j)) → ρ'[j]? = ρ[j]?) := by
      intro a o t er ha cv h
      have la := lt_of_get ha
      obtain ⟨h1, h2⟩ := backArgs_spec h
      refine ⟨by rw [h1, List.length_set], fun j => ⟨fun o' ho ⟨i, e⟩ => ?_, fun c => ?_⟩⟩
      · by_cases hj : j = a
        · subst hj
          cases t with
          | own o2 =>
            by_cases hx : ∃ i : Nat, rs[i]? = some (.loc j)
            · obtain ⟨i', s', t', a', b', c', d'⟩ := (h2 j).1 o2 (by rw [List.getElem?_set_self la]) hx
              exact ⟨i' + 1, s', t', by simpa using a', by simpa using b', c', d'⟩
            · refine ⟨0, s, _, by simp [er], by simp, cv, ?_⟩
              rw [(h2 j).2 (.inr fun i e => hx ⟨i, e⟩), List.getElem?_set_self la]
          | val d =>
            refine ⟨0, s, _, by simp [er], by simp, cv, ?_⟩
            rw [(h2 j).2 (.inl fun o e => by rw [List.getElem?_set_self la] at e; cases e), List.getElem?_set_self la]
          | un => cases cv
          | lck _ => cases cv
          | ro _ => cases cv
        · have hj' : (ρ.set a t)[j]? = ρ[j]? := List.getElem?_set_ne (Ne.symm hj)
          cases i with
          | zero => simp [er] at e; exact absurd e.symm hj
          | succ i =>
            simp at e
            obtain ⟨i', s', t', a', b', c', d'⟩ := (h2 j).1 o' (by rw [hj']; exact ho) ⟨i, e⟩
            exact ⟨i' + 1, s', t', by simpa using a', by simpa using b', c', d'⟩
      · have hj : j ≠ a := by
          rintro rfl
          rcases c with c | c
          · exact c o ha
          · exact c 0 (by simp [er])
        have hj' : (ρ.set a t)[j]? = ρ[j]? := List.getElem?_set_ne (Ne.symm hj)
        rw [← hj']
        refine (h2 j).2 ?_
        rcases c with c | c
        · exact .inl (by rw [hj']; exact c)
        · exact .inr fun i e => c (i + 1) (by simpa using e)
    cases r with
    | val d => exact skip h (fun _ _ e => by cases e)
    | tmp o => exact skip h (fun _ _ e => by cases e)
    | loc a =>
      unfold backArgs at h
      split at h
      · rename_i o1 o2 ha; exact put a _ _ rfl ha (.own _) h
      · rename_i o1 o2 ha; exact put a _ _ rfl ha (.lck _) h
      · rename_i o1 o2 ha; exact put a _ _ rfl ha (.val _) h
      · rename_i o1 ha; exact skip h (fun j o e => by cases e; rw [ha]; exact fun z => by cases z)
      · rename_i o1 ha; exact skip h (fun j o e => by cases e; rw [ha]; exact fun z => by cases z)
      · cases h

/-! ### the arguments -/
inductive RelRs (K : Frag) (H : Hp) (σ : St) (ρ' : Env) (F' H' : Hp) : List V → List R → Prop
  | nil : RelRs K H σ ρ' F' H' [] []
  | cons {v : V} {vs : List V} {r : R} {rs : List R} : RelR K H σ ρ' F' H' v r → RelRs K H σ ρ' F' H' vs rs →
      (∀ p o, v = .ref p → r = .tmp o → ∀ i : Nat, vs[i]? = some (.ref p) → ∀ o', rs[i]? ≠ some (.tmp o')) → RelRs K H σ ρ' F' H' (v :: vs) (r :: rs)
section
variable {K : Frag} {H : Hp} {σ : St} {ρ' : Env} {F' H' : Hp}
theorem RelRs.length : ∀ {vs : List V} {rs : List R}, RelRs K H σ ρ' F' H' vs rs → vs.length = rs.length
  | _, _, .nil => rfl
  | _, _, .cons _ r _ => by simp [RelRs.length r]
theorem RelRs.get : ∀ {vs : List V} {rs : List R} {i : Nat} {r : R}, RelRs K H σ ρ' F' H' vs rs → rs[i]? = some r → ∃ v, vs[i]? = some v ∧ RelR K H σ ρ' F' H' v r
  | _, _, _, _, .nil, e => by simp at e
  | _, _, 0, _, .cons h _ _, e => by simp at e; subst e; exact ⟨_, rfl, h⟩
  | _, _, i + 1, r, .cons _ t _, e => by
    obtain ⟨v, a, b⟩ := RelRs.get (i := i) t (by simpa using e)
    exact ⟨v, by simpa using a, b⟩
theorem RelRs.sep : ∀ {vs : List V} {rs : List R} {i j : Nat} {p : Addr} {o o' : O}, RelRs K H σ ρ' F' H' vs rs → rs[i]? = some (.tmp o) → rs[j]? = some (.tmp o') → vs[i]? = some (.ref p) → vs[j]? = some (.ref p) → i = j
  | _, _, _, _, _, _, _, .nil, e, _, _, _ => by simp at e
  | _, _, 0, 0, _, _, _, .cons _ _ _, _, _, _, _ => rfl
  | _, _, 0, j + 1, p, o, o', .cons _ _ d, e, e', ev, ev' => by
    simp at e ev
    subst e ev
    exact absurd (by simpa using e') (d p o rfl rfl j (by simpa using ev') o')
  | _, _, i + 1, 0, p, o, o', .cons _ _ d, e, e', ev, ev' => by
    simp at e' ev'
    subst e' ev'
    exact absurd (by simpa using e) (d p o' rfl rfl i (by simpa using ev) o)
  | _, _, i + 1, j + 1, _, _, _, .cons _ t _, e, e', ev, ev' => by
    exact congrArg (· + 1) (RelRs.sep t (i := i) (j := j) (by simpa using e) (by simpa using e') (by simpa using ev) (by simpa using ev'))
end
abbrev relA (K : Frag) : St → Hp → Env → Hp → Hp → List V → List R → Prop := fun σ H ρ' F' H' vs rs => RelRs K H σ ρ' F' H' vs rs
theorem back_A {K : Frag} {σ : St} : Back (relA K σ) := by
  intro H H1 ρ' F' H' vs rs hd h
  induction h with
  | nil => exact .nil
  | cons h t d ih => exact .cons (back_E _ _ _ _ _ _ _ hd h) ih d
section
variable {fnm : Nat → Option Str} {T : Errs} {call : CallT} {k : Nat} {N : List Str}
def PrA (fnm : Nat → Option Str) (T : Errs) (call : CallT) (k : Nat) (N : List Str) (es : Mlg.Es) : Prop := nst es = true →
  ∀ (X : Cx) (W : WX) (sc : Scope) (xs : List Expr), Cok fnm T call k N X sc → Takes X W → mEs fnm N sc es xs = true → PA X xs (LX T X.K W (relA X.K) (Mlg.evals call es)) ∧ ∀ x ∈ xs, plainX x = true
theorem a_star {e : Mlg.E} {es : Mlg.Es} : PrA fnm T call k N (.star e es) := fun h => by cases h
theorem a_nil : PrA fnm T call k N .nil := by
  intro _ X W sc x C tk h
  unfold mEs at h
  try dsimp only at h
  split at h
  · exact ⟨PA.imp pa_nil fun σ H Q q => by obtain ⟨ρ, F, S, q⟩ := q; exact q [] F H .refl S .nil, fun x hx => by simp at hx⟩
  · cases h
theorem a_cons {e : Mlg.E} {es : Mlg.Es} (ie : PrE fnm T call k N e) (is : PrA fnm T call k N es) : PrA fnm T call k N (.cons e es) := by
  intro hst X W sc x C tk h
  unfold mEs at h
  try dsimp only at h
  split at h
  · rename_i x xs
    obtain ⟨hp, h1⟩ := and2 h
    obtain ⟨h1, h2⟩ := and2 h1
    obtain ⟨i1, i2⟩ := is hst X W sc xs C tk h2
    refine ⟨PA.imp (pa_cons (ie X W sc x C tk h1) i1 (starEach_plain hp)) fun σ H Q q => ?_, fun y hy => ?_⟩
    · obtain ⟨ρ, F, S, q⟩ := q
      refine ⟨ρ, F, S, Out.bind0 q fun r1 ρ1 v F1 H1 s1 S1 rl1 h1 => ⟨ρ1, F1, S1, Out.bind1 (Rl := relA X.K σ) s1 h1 fun rs ρ2 vs F2 H2 s2 S2 rl2 h2 => ?_⟩⟩
      have rl1' := rl1.step S1 S2 s2
      refine h2 (v :: vs) F2 H2 (s1.trans s2) S2 (.cons rl1' (back_A _ _ _ _ _ _ _ s1.dom rl2) fun p o ev er i hi o' ho => ?_)
      · subst er ev
        obtain ⟨p', e', _, ho1, _, _⟩ := rl1
        cases e'
        obtain ⟨u, hu⟩ := ho1.at
        obtain ⟨v', hv', rv⟩ := rl2.get ho
        rw [hi] at hv'
        cases hv'
        obtain ⟨p'', e'', _, _, _, h0⟩ := rv
        cases e''
        rw [hu] at h0
        cases h0
    · rcases List.mem_cons.mp hy with rfl | hy
      · exact hp
      · exact i2 y hy
  · cases h
end
end Msd
/-! Sound11: the call itself. -/
namespace Msd
open PySem PySem.Spec PyProof.Rows L2 Mlg
section
variable {K : Frag} {ρ ρ' : Env} {F F' H H' H0 : Hp} {σ : St} {vs : List V} {rs : List R} {ss outs : List Slot}
theorem map_some {i : Nat} {x : Option V} (h : (vs.map some)[i]? = some x) : ∃ v, x = some v ∧ vs[i]? = some v := by
  rw [List.getElem?_map] at h
  cases e : vs[i]? with
  | none => rw [e] at h; cases h
  | some v => rw [e] at h; cases h; exact ⟨v, rfl, rfl⟩
theorem map_some' {i : Nat} {v : V} (h : vs[i]? = some v) : (vs.map some)[i]? = some (some v) := by
  rw [List.getElem?_map, h]; rfl
/-- an own argument: a new object, or a name's -/
theorem arg_own {i : Nat} {s : Slot} {o : O} (S : Sim K ρ F σ H) (rl : RelRs K H0 σ ρ F H vs rs) (ha : argsOf ρ rs = some ss) (hs : ss[i]? = some s) (ho : isOwn s = some o) :
    ∃ p, vs[i]? = some (.ref p) ∧ F p = none ∧ ObjR K F H p o ∧ s = .own o ∧ ((rs[i]? = some (.tmp o) ∧ ¬ Own ρ σ p ∧ H0 p = none) ∨ ∃ j, rs[i]? = some (.loc j) ∧ ρ[j]? = some (.own o) ∧ σ[j]? = some (some (.ref p))) := by
  obtain ⟨hl, hsp⟩ := argsOf_spec ha
  have hi : i < rs.length := by rw [← hl]; exact lt_of_get hs
  obtain ⟨s', h1, h2⟩ := hsp i rs[i] (List.getElem?_eq_getElem hi)
  rw [hs] at h1
  cases h1
  obtain ⟨v, hv, rv⟩ := rl.get (List.getElem?_eq_getElem hi)
  have er := List.getElem?_eq_getElem hi
  generalize rs[i] = r at h2 rv er
  cases r with
  | val d => cases h2; cases ho
  | tmp o' =>
    cases h2; cases ho
    obtain ⟨p, rfl, a, b, c, d⟩ := rv
    exact ⟨p, hv, a, b, rfl, .inl ⟨er, c, d⟩⟩
  | loc j =>
    unfold argOf at h2
    dsimp only at h2
    split at h2
    · cases h2; cases ho
    · rename_i o' hj
      cases h2; cases ho
      obtain ⟨p, a, b, c⟩ := S.slot j _ hj
      have rv := rv.1
      rw [rv] at a
      cases a
      exact ⟨p, hv, b, c, rfl, .inr ⟨j, er, hj, rv⟩⟩
    · cases h2; cases ho
    · cases h2
/-- the callee's state -/
theorem args_sim (S : Sim K ρ F σ H) (rl : RelRs K H0 σ ρ F H vs rs) (ha : argsOf ρ rs = some ss) (hn : nodupN (lent ρ rs) = true) : Sim K ss F (vs.map some) H := by
  obtain ⟨hl, hsp⟩ := argsOf_spec ha
  refine ⟨S.fh, by rw [List.length_map, hl, rl.length], fun i s hs => ?_, fun i j si sj oi oj p hi hj hoi hoj ei ej => ?_⟩
  · have hi : i < rs.length := by rw [← hl]; exact lt_of_get hs
    cases hO : isOwn s with
    | some o =>
      obtain ⟨p, h1, h2, h3, rfl, _⟩ := arg_own S rl ha hs hO
      exact ⟨p, map_some' h1, h2, h3⟩
    | none =>
      obtain ⟨s', h1, h2⟩ := hsp i rs[i] (List.getElem?_eq_getElem hi)
      rw [hs] at h1
      cases h1
      obtain ⟨v, hv, rv⟩ := rl.get (List.getElem?_eq_getElem hi)
      generalize rs[i] = r at h2 rv
      cases r with
      | val d => cases h2; exact ⟨v, map_some' hv, rv⟩
      | tmp o' => cases h2; cases hO
      | loc j =>
        unfold argOf at h2
        dsimp only at h2
        split at h2
        · rename_i d hj
          cases h2
          obtain ⟨v', a, b⟩ := S.slot j _ hj
          rw [rv.1] at a
          cases a
          exact ⟨v, map_some' hv, b⟩
        · cases h2; cases hO
        · rename_i xs hj
          cases h2
          obtain ⟨a, ws, b, c, d⟩ := S.slot j _ hj
          rw [rv.1] at b
          cases b
          exact ⟨a, ws, map_some' hv, c, d⟩
        · cases h2
  · obtain ⟨p1, a1, _, _, _, c1⟩ := arg_own S rl ha hi hoi
    obtain ⟨p2, a2, _, _, _, c2⟩ := arg_own S rl ha hj hoj
    obtain ⟨v1, e1, b1⟩ := map_some ei
    obtain ⟨v2, e2, b2⟩ := map_some ej
    cases e1
    cases e2
    rw [a1] at b1
    rw [a2] at b2
    cases b1
    cases b2
    rcases c1 with ⟨t1, n1, _⟩ | ⟨j1, l1, o1, q1⟩
    · rcases c2 with ⟨t2, n2, _⟩ | ⟨j2, l2, o2, q2⟩
      · exact rl.sep t1 t2 a1 a2
      · exact absurd ⟨j2, _, _, o2, rfl, q2⟩ n1
    · rcases c2 with ⟨t2, n2, _⟩ | ⟨j2, l2, o2, q2⟩
      · exact absurd ⟨j1, _, _, o1, rfl, q1⟩ n2
      · have := S.sep j1 j2 _ _ _ _ p o1 o2 rfl rfl q1 q2
        subst this
        exact lent_nodup hn l1 l2 o1
/-- what the callee does not own -/
theorem not_arg {p : Addr} (S : Sim K ρ F σ H) (rl : RelRs K H0 σ ρ F H vs rs) (ha : argsOf ρ rs = some ss) (h0 : H0 p ≠ none) (hO : ∀ j o, ρ[j]? = some (.own o) → σ[j]? = some (some (.ref p)) → ∀ i : Nat, rs[i]? ≠ some (.loc j)) : ¬ Own ss (vs.map some) p := by
  rintro ⟨i, s, o, h1, h2, h3⟩
  obtain ⟨p1, a1, _, _, _, c1⟩ := arg_own S rl ha h1 h2
  obtain ⟨v1, e1, b1⟩ := map_some h3
  cases e1
  rw [a1] at b1
  cases b1
  rcases c1 with ⟨_, _, n⟩ | ⟨j, l, o1, q⟩
  · exact h0 n
  · exact hO j o o1 q i l
/-- back at the caller -/
theorem back_sim {ρ0 : Env} {F0 : Hp} (s0 : Step ρ0 σ F0 H0 ρ σ F H) (S : Sim K ρ F σ H) (rl : RelRs K H0 σ ρ F H vs rs) (ha : argsOf ρ rs = some ss) (st : Step ss (vs.map some) F H outs (vs.map some) F' H') (S' : Sim K outs F' (vs.map some) H')
    (hb : backArgs ρ rs outs = some ρ') : Step ρ0 σ F0 H0 ρ' σ F' H' ∧ Sim K ρ' F' σ H' ∧ ∀ p, Own ρ' σ p → Own ρ σ p := by
  obtain ⟨bl, bs⟩ := backArgs_spec hb
  -- the names' objects behind the call
  have own_old : ∀ (j : Nat) (s : Slot) (o : O), ρ'[j]? = some s → isOwn s = some o → ∃ s' o', ρ[j]? = some s' ∧ isOwn s' = some o' := by
    intro j s o hs ho
    by_cases c : ∃ o', ρ[j]? = some (.own o')
    · obtain ⟨o', c⟩ := c
      exact ⟨_, o', c, rfl⟩
    · have := (bs j).2 (.inl fun o' e => c ⟨o', e⟩)
      rw [hs] at this
      exact ⟨s, o, this.symm, ho⟩
  have ownS : ∀ p, Own ρ' σ p → Own ρ σ p := fun p q => own_sub own_old p q
  have ownSU : ∀ p, OwnU ρ' σ p → OwnU ρ σ p := by
    rintro p ⟨j, o, hj, ej⟩
    by_cases c : ∃ o', ρ[j]? = some (.own o')
    · obtain ⟨o', c⟩ := c
      exact ⟨j, o', c, ej⟩
    · have := (bs j).2 (.inl fun o' e => c ⟨o', e⟩)
      rw [hj] at this
      exact ⟨j, o, this.symm, ej⟩
  have nA : ∀ p, H0 p ≠ none → ¬ OwnU ρ0 σ p → ¬ OwnU ss (vs.map some) p := fun p h1 h2 q => not_arg S rl ha h1 (fun j o h3 h4 _ _ =>
    (s0.ownU p ⟨j, o, h3, h4⟩).elim h2 h1) q.own
  refine ⟨⟨s0.ext.trans st.ext, fun a o h n => ?_, fun a h => s0.dom a (st.dom a h), fun p q => s0.own p (ownS p q), fun p q => s0.ownU p (ownSU p q), fun p h1 h2 h3 h4 => ?_⟩, ⟨S'.fh, by rw [bl, S.len], fun j s hs => ?_, fun i j si sj oi oj p hi hj hoi hoj ei ej => ?_⟩, ownS⟩
  · exact st.keep a o (s0.keep a o h n) (nA a (by rw [h]; exact fun z => by cases z) n)
  · exact st.frz p (s0.frz p h1 h2 h3 h4) (fun z => h2 (s0.dom p z)) (nA p h2 h3) (h4.keep h2 fun o e => s0.keep p o e h3)
  · by_cases c : (∃ o, ρ[j]? = some (.own o)) ∧ ∃ i : Nat, rs[i]? = some (.loc j)
    · obtain ⟨⟨o, c1⟩, c2⟩ := c
      obtain ⟨i, s1, t, b1, b2, b3, b4⟩ := (bs j).1 o c1 c2
      rw [hs] at b4
      cases b4
      obtain ⟨v, hv, rv⟩ := rl.get b1
      have rv := rv.1
      have sl := S'.slot i s1 b2
      cases b3 with
      | own o' =>
        obtain ⟨p, e, f, g⟩ := sl
        obtain ⟨v', e', b'⟩ := map_some e
        cases e'
        rw [hv] at b'
        cases b'
        exact ⟨p, rv, f, g⟩
      | lck o' =>
        obtain ⟨p, e, f, g⟩ := sl
        obtain ⟨v', e', b'⟩ := map_some e
        cases e'
        rw [hv] at b'
        cases b'
        exact ⟨p, rv, f, g⟩
      | val d =>
        obtain ⟨w, e, f⟩ := sl
        obtain ⟨v', e', b'⟩ := map_some e
        cases e'
        rw [hv] at b'
        cases b'
        exact ⟨_, rv, f⟩
    · have hc : (∀ o, ρ[j]? ≠ some (.own o)) ∨ ∀ i : Nat, rs[i]? ≠ some (.loc j) := by
        by_cases c1 : ∃ o, ρ[j]? = some (.own o)
        · exact .inr fun i e => c ⟨c1, i, e⟩
        · exact .inl fun o e => c1 ⟨o, e⟩
      rw [(bs j).2 hc] at hs
      refine (S.slot j s hs).move st.ext fun p u e ⟨o, ho⟩ hu => ?_
      have nO : ¬ Own ss (vs.map some) p := by
        rintro ⟨i, s1, o1, h1, h2, h3⟩
        obtain ⟨p1, a1, _, _, _, c1⟩ := arg_own S rl ha h1 h2
        obtain ⟨v1, e1, b1⟩ := map_some h3
        cases e1
        rw [a1] at b1
        cases b1
        rcases c1 with ⟨_, n, _⟩ | ⟨j', l, o2, q⟩
        · exact n ⟨j, s, o, hs, ho, e⟩
        · have := S.sep j j' s _ o o1 p hs o2 ho rfl e q
          subst this
          rcases hc with hc | hc
          · exact hc _ o2
          · exact hc i l
      exact ⟨st.keep p u hu fun q => nO q.own, st.frz p (S.ownAt ⟨j, s, o, hs, ho, e⟩).1 (by rw [hu]; exact fun z => by cases z) (fun q => nO q.own) (S.ownNT ⟨j, s, o, hs, ho, e⟩)⟩
  · obtain ⟨si', oi', a1, a2⟩ := own_old i si oi hi hoi
    obtain ⟨sj', oj', b1, b2⟩ := own_old j sj oj hj hoj
    exact S.sep i j si' sj' oi' oj' p a1 b1 a2 b2 ei ej
end
section
variable {fnm : Nat → Option Str} {T : Errs} {call : CallT} {k : Nat} {N : List Str}
/-- the promise that the callee is asked for -/
theorem call_ok {K : Frag} {W : WX} {f : Nat} {ρ0 ρ : Env} {F0 F H0 H : Hp} {σ : St} {vs : List V} {rs : List R} {Q : VK} (s0 : Step ρ0 σ F0 H0 ρ σ F H) (S : Sim K ρ F σ H) (rl : RelRs K H0 σ ρ F H vs rs)
    (h : Out T K W ρ0 F0 σ H0 (relE K σ) (doCall call f rs ρ) Q) : spF T K call f vs H Q (WE W σ) := by
  unfold doCall at h
  cases ha : argsOf ρ rs with
  | none => rw [ha] at h; exact h.elim
  | some ss =>
    rw [ha] at h
    try dsimp only at h
    split at h
    · rename_i hn
      refine ⟨ss, F, args_sim S rl ha hn, ?_⟩
      cases hc : call f ss with
      | no => rw [hc] at h; exact h.elim
      | ok p =>
        rw [hc] at h
        try dsimp only at h
        split at h
        · rename_i nl
          obtain ⟨r, outs⟩ := p
          cases hb : backArgs ρ rs outs with
          | none => rw [hb] at h; exact h.elim
          | some ρ' =>
            rw [hb] at h
            intro v F' H' st S' rv
            obtain ⟨st', S2, ow⟩ := back_sim s0 S rl ha st S' hb
            refine h v F' H' st' S2 ?_
            cases r with
            | val d => exact rv
            | loc i => cases nl
            | tmp o =>
              obtain ⟨p, e, a, b, c, d⟩ := rv
              have h0 : H0 p = none := by
                rcases d with d | ⟨i, s1, o1, h1, h2, h3⟩
                · exact s0.dom p d
                · obtain ⟨p1, a1, _, _, _, c1⟩ := arg_own S rl ha h1 h2
                  obtain ⟨v1, e1, b1⟩ := map_some h3
                  cases e1
                  rw [a1] at b1
                  cases b1
                  rcases c1 with ⟨_, _, n⟩ | ⟨j, l, o2, q⟩
                  · exact n
                  · exfalso
                    obtain ⟨_, bs⟩ := backArgs_spec hb
                    obtain ⟨i', s', t', g1, g2, g3, g4⟩ := (bs j).1 _ o2 ⟨i, l⟩
                    have ei := lent_nodup hn g1 l o2
                    subst ei
                    have sl := S'.slot i' s' g2
                    cases g3 with
                    | own o' => exact c ⟨i', _, o', g2, rfl, h3⟩
                    | lck o' => exact c ⟨i', _, o', g2, rfl, h3⟩
                    | val d' =>
                      obtain ⟨w, w1, w2⟩ := sl
                      rw [h3] at w1
                      cases w1
                      have : ∃ u, F' p = some u := by
                        generalize ew : V.ref p = w at w2
                        cases w2 <;> first | (cases ew; done) | (cases ew; exact ⟨_, by assumption⟩)
                      obtain ⟨u, hu⟩ := this
                      rw [a] at hu
                      cases hu
              refine ⟨p, e, a, b, fun q => ?_, h0⟩
              obtain ⟨j, s1, o1, q1, q2, q3⟩ := q
              obtain ⟨_, bs⟩ := backArgs_spec hb
              by_cases hl : (∃ o', ρ[j]? = some (.own o')) ∧ ∃ i : Nat, rs[i]? = some (.loc j)
              · obtain ⟨⟨o', ho'⟩, hi⟩ := hl
                obtain ⟨i', s', t', g1, g2, g3, g4⟩ := (bs j).1 o' ho' hi
                rw [q1] at g4
                cases g4
                obtain ⟨w, hw, rw'⟩ := rl.get g1
                have rw' := rw'.1
                rw [q3] at rw'
                cases rw'
                cases g3 with
                | own o' => exact c ⟨i', _, o', g2, rfl, map_some' hw⟩
                | lck o' => exact c ⟨i', _, o', g2, rfl, map_some' hw⟩
                | val d' => cases q2
              · have hc' : (∀ o, ρ[j]? ≠ some (.own o)) ∨ ∀ i : Nat, rs[i]? ≠ some (.loc j) := by
                  by_cases c1 : ∃ o, ρ[j]? = some (.own o)
                  · exact .inr fun i e => hl ⟨c1, i, e⟩
                  · exact .inl fun o e => c1 ⟨o, e⟩
                rw [(bs j).2 hc'] at q1
                obtain ⟨_, u, hu⟩ := S.ownAt ⟨j, s1, o1, q1, q2, q3⟩
                rcases d with d | ⟨i, s2, o2, h1, h2, h3⟩
                · rw [d] at hu; cases hu
                · obtain ⟨p1, a1, _, _, _, c1⟩ := arg_own S rl ha h1 h2
                  obtain ⟨v1, e1, b1⟩ := map_some h3
                  cases e1
                  rw [a1] at b1
                  cases b1
                  rcases c1 with ⟨_, n, _⟩ | ⟨j', l, o3, q'⟩
                  · exact n ⟨j, s1, o1, q1, q2, q3⟩
                  · have := S.sep j j' _ _ _ _ p q1 o3 q2 rfl q3 q'
                    subst this
                    exact hl ⟨⟨_, o3⟩, i, l⟩
        · exact h.elim
      | exc c d outs =>
        rw [hc] at h
        try dsimp only at h
        cases hb : backArgs ρ rs outs with
        | none => rw [hb] at h; exact h.elim
        | some ρ' =>
          rw [hb] at h
          intro F' H' cls dd st S' ex
          obtain ⟨st', S2, ow⟩ := back_sim s0 S rl ha st S' hb
          exact h F' H' cls dd st' S2 ex
    · exact h.elim
/-- f() where what is raised is wished for at the slots -/
theorem pe_callS0 {X : Cx} {CX : CXT} {f : Addr} {fd : FuncData} {ps : List Str} {sp : Sp} {E : St → XK} {x : Str} {p pos : Pos} (F : FnOk X.prog X.w X.K X.mg X.base CX k f fd ps sp) (hr : Room k X.A) (hg : Gl X x) (hm : X.mg x = some (.ref f)) (hk : PySem.W.keepIn X.K (.ref f) = true) (hb : Binds X.K fd ps []) (hx : ∀ σ, PassesAt CX X σ (E σ))
    (hdb : (x == ("__debug__" : Str)) = false := by decide) : PE X (.Call (.Name x p) [] [] pos) (tCallS sp E tNil) := by
  refine ⟨fun pins s σ H Q I h => ?_⟩
  refine wpAny_Call_Name_kw (ld_glob I hg hm ?_ hdb)
  exact PySem.W.callWith_K0 I.kIn hk (run_fnS F hr hb (hx σ) I .nil h)
theorem e_call (f : Nat) {as : Mlg.Es} (ia : PrA fnm T call k N as) : PrE fnm T call k N (.call f as) ∧ PrT fnm T call k N (.call f as) := by
  have key : ∀ (X : Cx) (W : WX) (sc : Scope) (x : Expr), Cok fnm T call k N X sc → Takes X W → mE fnm N sc (.call f as) x = true → PE X x (LE T X.K W (Mlg.eval call (.call f as))) ∧ ∃ y ys p pos, x = .Call (.Name y p) ys [] pos := by
    intro X W sc x C tk h
    unfold mE at h
    try dsimp only at h
    split at h
    · rename_i x p xs pos
      obtain ⟨h1, hn, h2⟩ := and3 h
      obtain ⟨hf0, hf, hg⟩ := and3 h1
      obtain ⟨hn, hst⟩ := and2 hn
      obtain ⟨n1, n2, _⟩ := nameB_ok hn
      obtain ⟨a, fd, ps, g1, g2, g3, g4⟩ := C.G.fn f x (of_decide_eq_true hf0) (of_decide_eq_true hf)
      obtain ⟨i1, i2⟩ := ia hst X W sc xs C tk h2
      have hgl : Gl X x := by show X.env.scope.names.lookup x = _; rw [C.hsc]; exact of_decide_eq_true hg
      refine ⟨?_, _, _, _, _, rfl⟩
      have fin : ∀ {t : TA}, (∀ σ H (Q : List V → Hp → Prop), LX T X.K W (relA X.K) (Mlg.evals call as) σ H Q → t σ H Q) → PE X (.Call (.Name x p) xs [] pos) (tCallS (spF T X.K call f) (WE W) t) → PE X (.Call (.Name x p) xs [] pos) (LE T X.K W (Mlg.eval call (.call f as))) := by
        intro t ht hp
        refine PE.imp hp fun σ H Q q => ?_
        obtain ⟨ρ, F, S, q⟩ := q
        refine ht σ H _ ⟨ρ, F, S, Out.bind0 q fun rs ρ1 vs F1 H1 s1 S1 rl1 h1 => ?_⟩
        exact call_ok s1 S1 rl1 h1
      cases xs with
      | nil =>
        refine fin (t := tNil) (fun σ H Q q => ?_) (pe_callS0 g4 C.room hgl g1 g2 g3 (fun σ => passAt tk σ) n1)
        cases as with
        | nil => obtain ⟨ρ, F, S, q⟩ := q; exact q [] F H .refl S .nil
        | cons _ _ => unfold mEs at h2; cases h2
        | star _ _ => unfold mEs at h2; cases h2
      | cons y ys =>
        exact fin (fun σ H Q q => q) (pe_callS g4 C.room hgl g1 g2 g3 (fun σ => passAt tk σ) i1 n1 (starEach_plain (i2 y List.mem_cons_self)) (by rw [backTo_any]; exact plain_any fun z hz => i2 z (List.mem_cons_of_mem _ hz)))
    · cases h
  refine ⟨fun X W sc x C tk h => (key X W sc x C tk h).1, fun X W sc x C tk ht h => ?_⟩
  obtain ⟨h1, y, ys, p, pos, rfl⟩ := key X W sc x C tk h
  exact pt_of h1 (by intro _; rfl)
end
end Msd
/-! Sound12: names get values; targets; locks. -/
namespace Msd
open PySem PySem.Spec PyProof.Rows L2 Mlg
section
variable {K : Frag} {ρ ρ' : Env} {F F' H H' H0 : Hp} {σ σ' : St}
theorem SlotR.congr {j : Nat} {s : Slot} (e : σ'[j]? = σ[j]?) (h : SlotR K F H σ j s) : SlotR K F H σ' j s := by
  cases s with
  | un => trivial
  | val d => obtain ⟨v, a, b⟩ := h; exact ⟨v, by rw [e]; exact a, b⟩
  | own o => obtain ⟨v, a, b⟩ := h; exact ⟨v, by rw [e]; exact a, b⟩
  | lck o => obtain ⟨v, a, b⟩ := h; exact ⟨v, by rw [e]; exact a, b⟩
  | ro xs => obtain ⟨v, w, a, b⟩ := h; exact ⟨v, w, by rw [e]; exact a, b⟩
theorem Sim.setSlot (S : Sim K ρ F σ H) {i : Nat} (hi : i < ρ.length) {x : Option V} {s' : Slot} (hs : SlotR K F H (σ.set i x) i s')
    (hsep : ∀ o p, isOwn s' = some o → x = some (.ref p) → ∀ (j : Nat) (s : Slot) (o' : O), j ≠ i → ρ[j]? = some s → isOwn s = some o' → σ[j]? ≠ some (some (.ref p))) : Sim K (ρ.set i s') F (σ.set i x) H := by
  have hiσ : i < σ.length := by rw [← S.len]; exact hi
  refine ⟨S.fh, by rw [List.length_set, List.length_set]; exact S.len, fun j s h => ?_, fun j k sj sk oj ok p hj hk hoj hok ej ek => ?_⟩
  · by_cases e : j = i
    · subst e
      rw [List.getElem?_set_self hi] at h
      cases h
      exact hs
    · rw [List.getElem?_set_ne (Ne.symm e)] at h
      exact (S.slot j s h).congr (List.getElem?_set_ne (Ne.symm e))
  · by_cases e1 : j = i
    · by_cases e2 : k = i
      · rw [e1, e2]
      · subst e1
        rw [List.getElem?_set_self hi] at hj
        cases hj
        rw [List.getElem?_set_self hiσ] at ej
        rw [List.getElem?_set_ne (Ne.symm e2)] at hk ek
        exact absurd ek (hsep oj p hoj (Option.some.inj ej) k sk ok e2 hk hok)
    · by_cases e2 : k = i
      · subst e2
        rw [List.getElem?_set_self hi] at hk
        cases hk
        rw [List.getElem?_set_self hiσ] at ek
        rw [List.getElem?_set_ne (Ne.symm e1)] at hj ej
        exact absurd ej (hsep ok p hok (Option.some.inj ek) j sj oj e1 hj hoj)
      · rw [List.getElem?_set_ne (Ne.symm e1)] at hj ej
        rw [List.getElem?_set_ne (Ne.symm e2)] at hk ek
        exact S.sep j k sj sk oj ok p hj hk hoj hok ej ek
/-- the names' objects where a slot is set to what is none -/
theorem own_set {i : Nat} {x : Option V} {s' : Slot} (hi : i < ρ.length) (hn : isOwn s' = none) {p : Addr} (h : Own (ρ.set i s') (σ.set i x) p) : Own ρ σ p := by
  obtain ⟨j, s, o, h1, h2, h3⟩ := h
  rcases isOwn_set hi h1 h2 with ⟨_, z⟩ | ⟨nj, hj⟩
  · rw [hn] at z; cases z
  · rw [List.getElem?_set_ne (Ne.symm nj)] at h3
    exact ⟨j, s, o, hj, h2, h3⟩
theorem ownU_set {i : Nat} {x : Option V} {s' : Slot} (hi : i < ρ.length) (hn : isOwn s' = none) {p : Addr} (h : OwnU (ρ.set i s') (σ.set i x) p) : OwnU ρ σ p := by
  obtain ⟨j, o, h1, h3⟩ := h
  rcases isOwn_set hi h1 rfl with ⟨_, z⟩ | ⟨nj, hj⟩
  · rw [hn] at z; cases z
  · rw [List.getElem?_set_ne (Ne.symm nj)] at h3
    exact ⟨j, o, hj, h3⟩
theorem Step.setSlot {i : Nat} {x : Option V} {s' : Slot} (hi : i < ρ.length) (hn : isOwn s' = none) : Step ρ σ F H (ρ.set i s') (σ.set i x) F H :=
  ⟨.refl _, fun _ _ h _ => h, fun _ h => h, fun _ q => .inl (own_set hi hn q), fun _ q => .inl (ownU_set hi hn q), fun _ h _ _ _ => h⟩
/-- a value at a name -/
theorem Sim.putV (S : Sim K ρ F σ H) {i : Nat} {v : V} {d : D} (hi : i < ρ.length) (hr : Rep K F v d) : Sim K (ρ.set i (.val d)) F (σ.set i (some v)) H :=
  S.setSlot hi ⟨v, List.getElem?_set_self (by rw [← S.len]; exact hi), hr⟩ fun o p h => by cases h
/-- a name is forgotten -/
theorem Sim.putUn (S : Sim K ρ F σ H) {i : Nat} {x : Option V} (hi : i < ρ.length) : Sim K (ρ.set i .un) F (σ.set i x) H := S.setSlot hi trivial fun o p h => by cases h
/-- a new object at a name -/
theorem Sim.putOwn (S : Sim K ρ F σ H) {i : Nat} {p : Addr} {o : O} (hi : i < ρ.length) (hF : F p = none) (ho : ObjR K F H p o) (hn : ¬ Own ρ σ p) : Sim K (ρ.set i (.own o)) F (σ.set i (some (.ref p))) H :=
  S.setSlot hi ⟨p, List.getElem?_set_self (by rw [← S.len]; exact hi), hF, ho⟩ fun o' q h e j s o'' nj hj hs ej => by
    cases e
    exact hn ⟨j, s, o'', hj, hs, ej⟩
theorem Step.putOwn {ρ0 : Env} {σ0 : St} {F0 : Hp} {i : Nat} {p : Addr} {o : O} (st : Step ρ0 σ0 F0 H0 ρ σ F H) (hi : i < ρ.length) (h0 : H0 p = none) (hiσ : i < σ.length) : Step ρ0 σ0 F0 H0 (ρ.set i (.own o)) (σ.set i (some (.ref p))) F H := by
  refine ⟨st.ext, st.keep, st.dom, fun q h => ?_, fun q h => ?_, st.frz⟩
  · obtain ⟨j, s, o', h1, h2, h3⟩ := h
    rcases isOwn_set hi h1 h2 with ⟨ej, _⟩ | ⟨nj, hj⟩
    · subst ej
      rw [List.getElem?_set_self hiσ] at h3
      cases h3
      exact .inr h0
    · rw [List.getElem?_set_ne (Ne.symm nj)] at h3
      exact st.own q ⟨j, s, o', hj, h2, h3⟩
  · obtain ⟨j, o', h1, h3⟩ := h
    rcases isOwn_set hi h1 rfl with ⟨ej, _⟩ | ⟨nj, hj⟩
    · subst ej
      rw [List.getElem?_set_self hiσ] at h3
      cases h3
      exact .inr h0
    · rw [List.getElem?_set_ne (Ne.symm nj)] at h3
      exact st.ownU q ⟨j, o', hj, h3⟩
/-- slots that may not be stored to -/
def Fx (fx : Nat → Bool) (σ σ' : St) : Prop := σ'.length = σ.length ∧ ∀ i, fx i = true → σ'[i]? = σ[i]?
theorem Fx.refl {fx : Nat → Bool} : Fx fx σ σ := ⟨rfl, fun _ _ => rfl⟩
theorem Fx.trans {fx : Nat → Bool} {σ'' : St} (a : Fx fx σ σ') (b : Fx fx σ' σ'') : Fx fx σ σ'' := ⟨b.1.trans a.1, fun i h => (b.2 i h).trans (a.2 i h)⟩
theorem Fx.set {fx : Nat → Bool} {i : Nat} {x : Option V} (h : fx i = false) : Fx fx σ (σ.set i x) := ⟨List.length_set, fun j hj => by
  have : j ≠ i := fun e => by rw [e, h] at hj; cases hj
  exact List.getElem?_set_ne (Ne.symm this)⟩

/-! ### targets -/
def gNames : List Nat → TGs
  | [] => gNil
  | i :: is => gCons (gName i) (gNames is)
def gTg (K : Frag) : Tg → TG
  | .nm i => gName i
  | .tup is => gTup K is.length (gNames is)
theorem go_len {N : List Str} {sc : Scope} {fx : Nat → Bool} : ∀ {is : List Nat} {xs : List Expr}, tgB.go N sc fx is xs = true → is.length = xs.length
  | [], [], _ => rfl
  | [], _ :: _, h => by cases h
  | _ :: _, [], h => by cases h
  | i :: is, x :: xs, h => by
    cases x <;> first | (cases h; done) | skip
    rename_i x p
    have h : (decide (N[i]? = some x) && locB sc x && nameB x && !fx i && tgB.go N sc fx is xs) = true := h
    simp [go_len (and2 h).2]
theorem pgs_go {X : Cx} {N : List Str} {sc : Scope} {fx : Nat → Bool} (hN : X.N = N) (nd : N.Nodup) (hsc : ∀ x, locB sc x = true → Loc X.env.scope x) (hf : ∀ x, locB sc x = true → X.fn x = true ∨ X.env.scope.names.lookup x = some .local) : ∀ {is : List Nat} {xs : List Expr}, tgB.go N sc fx is xs = true → PGs X xs (gNames is)
  | [], [], _ => pgs_nil
  | [], _ :: _, h => by cases h
  | _ :: _, [], h => by cases h
  | i :: is, x :: xs, h => by
    cases x <;> first | (cases h; done) | skip
    rename_i x p
    have h : (decide (N[i]? = some x) && locB sc x && nameB x && !fx i && tgB.go N sc fx is xs) = true := h
    obtain ⟨h1, _, h2⟩ := and3 h
    obtain ⟨a, b, _⟩ := and3 h1
    exact pgs_cons (pg_name (by rw [hN]; exact nd) (by rw [hN]; exact of_decide_eq_true a) (hsc x b) (hf x b)) (pgs_go hN nd hsc hf h2)
theorem go_each {N : List Str} {sc : Scope} {fx : Nat → Bool} {env : PySem.Env} : ∀ {is : List Nat} {xs : List Expr}, tgB.go N sc fx is xs = true → (assignEach xs env).length = is.length ∧ (assignEach xs env).findIdx? (·.1) = none
  | [], [], _ => ⟨rfl, rfl⟩
  | [], _ :: _, h => by cases h
  | _ :: _, [], h => by cases h
  | i :: is, x :: xs, h => by
    cases x <;> first | (cases h; done) | skip
    rename_i x p
    have h : (decide (N[i]? = some x) && locB sc x && nameB x && !fx i && tgB.go N sc fx is xs) = true := h
    obtain ⟨h1, h2⟩ := go_each (env := env) (and2 h).2
    refine ⟨congrArg (· + 1) h1, ?_⟩
    show List.findIdx? (·.1) ((false, assign (.Name x p) env) :: assignEach xs env) = none
    rw [List.findIdx?_cons, h2]
    rfl
theorem pg_tg {X : Cx} {N : List Str} {sc : Scope} {fx : Nat → Bool} {tg : Tg} {t : Expr} (hN : X.N = N) (nd : N.Nodup) (hsc : ∀ x, locB sc x = true → Loc X.env.scope x) (hc : X.calm = true) (hf : ∀ x, locB sc x = true → X.fn x = true ∨ X.env.scope.names.lookup x = some .local) (h : tgB N sc fx tg t = true) : PG X t (gTg X.K tg) := by
  cases tg with
  | nm i =>
    unfold tgB at h
    cases t <;> first | (cases h; done) | skip
    rename_i x p
    obtain ⟨h1, _, _⟩ := and3 h
    obtain ⟨a, b⟩ := and2 h1
    exact pg_name (by rw [hN]; exact nd) (by rw [hN]; exact of_decide_eq_true a) (hsc x b) (hf x b)
  | tup is =>
    unfold tgB at h
    cases t <;> first | (cases h; done) | skip
    rename_i xs kk p
    have h : tgB.go N sc fx is xs = true := h
    have hl := go_len h
    obtain ⟨h1, h2⟩ := go_each (env := X.env) h
    exact pg_tup (n := is.length) hc (pgs_go hN nd hsc hf h) h1 h2
/-- the store of an item -/
theorem put_ok {ρ1 : Env} {i : Nat} {v : V} {d : D} (S : Sim K ρ F σ H) (hr : Rep K F v d) (e : putV ρ i d = some ρ1) : Sim K ρ1 F (σ.set i (some v)) H ∧ Step ρ σ F H ρ1 (σ.set i (some v)) F H := by
  unfold Mlg.putV at e
  split at e
  · rename_i c
    cases e
    exact ⟨S.putV c hr, Step.setSlot c rfl⟩
  · cases e
theorem puts_ok {fx : Nat → Bool} : ∀ {is : List Nat} {vs : List V} {ds : List D} {ρ ρ1 : Env} {σ : St} {Q : St → Hp → Prop}, Sim K ρ F σ H → Reps K F vs ds → putVs ρ is ds = some ρ1 → (∀ i ∈ is, fx i = false) →
    (∀ σ', Sim K ρ1 F σ' H → Step ρ σ F H ρ1 σ' F H → Fx fx σ σ' → (∀ j, j ∉ is → σ'[j]? = σ[j]?) → Q σ' H) → gNames is vs σ H Q
  | [], _, _, ρ, ρ1, σ, Q, S, .nil, e, _, h => by cases e; exact ⟨rfl, h σ S .refl .refl fun _ _ => rfl⟩
  | [], _, _, ρ, ρ1, σ, Q, S, .cons _ _, e, _, h => by cases e
  | i :: is, _, _, ρ, ρ1, σ, Q, S, .nil, e, _, h => by cases e
  | i :: is, _, _, ρ, ρ1, σ, Q, S, .cons (d := d) (ds := ds) (v := v) (vs := vs) hr rs, e, hfx, h => by
    have e : (putV ρ i d).bind (fun ρ' => putVs ρ' is ds) = some ρ1 := e
    cases e1 : putV ρ i d with
    | none => rw [e1] at e; cases e
    | some ρ2 =>
      rw [e1] at e
      obtain ⟨S2, st2⟩ := put_ok S hr e1
      have hi := hfx i List.mem_cons_self
      refine ⟨v, vs, rfl, puts_ok S2 rs e (fun j hj => hfx j (List.mem_cons_of_mem _ hj)) fun σ' S' st' fx' ot => h σ' S' (st2.trans st') ((Fx.set hi).trans fx') fun j hj => ?_⟩
      rw [ot j fun z => hj (List.mem_cons_of_mem _ z), List.getElem?_set_ne (show i ≠ j from fun z => hj (by rw [z]; exact List.mem_cons_self))]
theorem putVs_len : ∀ {is : List Nat} {ds : List D} {ρ ρ1 : Env}, putVs ρ is ds = some ρ1 → ds.length = is.length
  | [], [], _, _, _ => rfl
  | [], _ :: _, _, _, e => by cases e
  | _ :: _, [], _, _, e => by cases e
  | i :: is, d :: ds, ρ, ρ1, e => by
    have e : (putV ρ i d).bind (fun ρ' => putVs ρ' is ds) = some ρ1 := e
    cases e1 : putV ρ i d with
    | none => rw [e1] at e; cases e
    | some ρ2 => rw [e1] at e; simp [putVs_len e]
def tgSlots : Tg → List Nat
  | .nm i => [i]
  | .tup is => is
theorem go_fx {N : List Str} {sc : Scope} {fx : Nat → Bool} : ∀ {is : List Nat} {xs : List Expr}, tgB.go N sc fx is xs = true → ∀ i ∈ is, fx i = false
  | [], _, _, i, hi => by simp at hi
  | _ :: _, [], h, _, _ => by cases h
  | i :: is, x :: xs, h, j, hj => by
    cases x <;> first | (cases h; done) | skip
    rename_i x p
    have h : (decide (N[i]? = some x) && locB sc x && nameB x && !fx i && tgB.go N sc fx is xs) = true := h
    rcases List.mem_cons.mp hj with rfl | hj
    · have := (and2 (and2 h).1).2
      simpa using this
    · exact go_fx (and2 h).2 j hj
theorem tg_fx {N : List Str} {sc : Scope} {fx : Nat → Bool} {tg : Tg} {t : Expr} (h : tgB N sc fx tg t = true) : ∀ i ∈ tgSlots tg, fx i = false := by
  cases tg with
  | nm i =>
    unfold tgB at h
    cases t <;> first | (cases h; done) | skip
    intro j hj
    have : j = i := by simpa [tgSlots] using hj
    subst this
    have := (and2 h).2
    simpa using this
  | tup is =>
    unfold tgB at h
    cases t <;> first | (cases h; done) | skip
    exact go_fx h
theorem tg_ok {fx : Nat → Bool} {tg : Tg} {v : V} {d : D} {ρ1 : Env} {Q : St → Hp → Prop} (S : Sim K ρ F σ H) (hr : Rep K F v d) (e : putTg ρ tg d = some ρ1) (hfx : ∀ i ∈ tgSlots tg, fx i = false)
    (h : ∀ σ', Sim K ρ1 F σ' H → Step ρ σ F H ρ1 σ' F H → Fx fx σ σ' → (∀ j, j ∉ tgSlots tg → σ'[j]? = σ[j]?) → Q σ' H) : gTg K tg v σ H Q := by
  cases tg with
  | nm i =>
    obtain ⟨S', st'⟩ := put_ok S hr e
    exact h _ S' st' (Fx.set (hfx i (by simp [tgSlots]))) fun j hj => List.getElem?_set_ne fun z => hj (by simp [tgSlots, z])
  | tup is =>
    cases d <;> first | (cases e; done) | skip
    rename_i ds
    have e : putVs ρ is ds = some ρ1 := e
    cases hr with
    | tup ha rs =>
      refine ⟨_, _, rfl, SqT.of (S.fh _ _ ha), ?_, puts_ok S rs e hfx h⟩
      rw [rs.length]
      exact putVs_len e

/-! ### locks -/
/-- a name's object is locked -/
theorem Sim.lock (S : Sim K ρ F σ H) {i : Nat} {o : O} (h : ρ[i]? = some (.own o)) : Sim K (ρ.set i (.lck o)) F σ H ∧ Step ρ σ F H (ρ.set i (.lck o)) σ F H := by
  have hi := lt_of_get h
  refine ⟨⟨S.fh, by rw [List.length_set]; exact S.len, fun j s hs => ?_, fun j k sj sk oj ok p hj hk hoj hok ej ek => ?_⟩, .refl _, fun _ _ h _ => h, fun _ h => h, fun p q => ?_, fun p q => ?_, fun _ h _ _ _ => h⟩
  · by_cases e : j = i
    · subst e
      rw [List.getElem?_set_self hi] at hs
      cases hs
      have hs := S.slot j _ h
      exact hs
    · rw [List.getElem?_set_ne (Ne.symm e)] at hs
      exact S.slot j s hs
  · have old : ∀ {j : Nat} {s : Slot} {o' : O}, (ρ.set i (.lck o))[j]? = some s → isOwn s = some o' → ∃ s' o'', ρ[j]? = some s' ∧ isOwn s' = some o'' := by
      intro j s o' h1 h2
      rcases isOwn_set hi h1 h2 with ⟨rfl, _⟩ | ⟨_, hj⟩
      · exact ⟨_, o, h, rfl⟩
      · exact ⟨s, o', hj, h2⟩
    obtain ⟨s1, o1, a1, b1⟩ := old hj hoj
    obtain ⟨s2, o2, a2, b2⟩ := old hk hok
    exact S.sep j k s1 s2 o1 o2 p a1 a2 b1 b2 ej ek
  · obtain ⟨j, s, o', h1, h2, h3⟩ := q
    rcases isOwn_set hi h1 h2 with ⟨rfl, _⟩ | ⟨_, hj⟩
    · exact .inl ⟨_, _, o, h, rfl, h3⟩
    · exact .inl ⟨j, s, o', hj, h2, h3⟩
  · obtain ⟨j, o', h1, h3⟩ := q
    by_cases e : j = i
    · subst e; rw [List.getElem?_set_self hi] at h1; cases h1
    · rw [List.getElem?_set_ne (Ne.symm e)] at h1
      exact .inl ⟨j, o', h1, h3⟩
/-- .. and free again: it was so ahead -/
theorem Sim.unlock {ρ0 : Env} {σ0 : St} {F0 : Hp} (S : Sim K ρ F σ H) (st : Step ρ0 σ0 F0 H0 ρ σ F H) {i : Nat} {o : O} (h : ρ[i]? = some (.lck o)) {p : Addr} (hp : σ[i]? = some (some (.ref p))) (h0 : OwnU ρ0 σ0 p) :
    Sim K (ρ.set i (.own o)) F σ H ∧ Step ρ0 σ0 F0 H0 (ρ.set i (.own o)) σ F H := by
  have hi := lt_of_get h
  have old : ∀ {j : Nat} {s : Slot} {o' : O}, (ρ.set i (.own o))[j]? = some s → isOwn s = some o' → ∃ s' o'', ρ[j]? = some s' ∧ isOwn s' = some o'' := by
    intro j s o' h1 h2
    rcases isOwn_set hi h1 h2 with ⟨rfl, _⟩ | ⟨_, hj⟩
    · exact ⟨_, o, h, rfl⟩
    · exact ⟨s, o', hj, h2⟩
  refine ⟨⟨S.fh, by rw [List.length_set]; exact S.len, fun j s hs => ?_, fun j k sj sk oj ok p hj hk hoj hok ej ek => ?_⟩, st.ext, st.keep, st.dom, fun q hq => ?_, fun q hq => ?_, st.frz⟩
  · by_cases e : j = i
    · subst e
      rw [List.getElem?_set_self hi] at hs
      cases hs
      have hs := S.slot j _ h
      exact hs
    · rw [List.getElem?_set_ne (Ne.symm e)] at hs
      exact S.slot j s hs
  · obtain ⟨s1, o1, a1, b1⟩ := old hj hoj
    obtain ⟨s2, o2, a2, b2⟩ := old hk hok
    exact S.sep j k s1 s2 o1 o2 p a1 a2 b1 b2 ej ek
  · obtain ⟨j, s, o', h1, h2, h3⟩ := hq
    obtain ⟨s1, o1, a1, b1⟩ := old h1 h2
    exact st.own q ⟨j, s1, o1, a1, b1, h3⟩
  · obtain ⟨j, o', h1, h3⟩ := hq
    by_cases e : j = i
    · subst e
      rw [hp] at h3
      cases h3
      exact .inl h0
    · rw [List.getElem?_set_ne (Ne.symm e)] at h1
      exact st.ownU q ⟨j, o', h1, h3⟩
end
end Msd
/-! Sound13: what is walked. -/
namespace Msd
open PySem PySem.Spec PyProof.Rows L2 Mlg
/-- J gives the items ds as long as P stands -/
structure Goes (K : Frag) (J : L2.It) (ds : List D) (P : Env → Hp → St → Hp → Prop) : Prop where
  go : ∀ (i : Nat) (ρ : Env) (F : Hp) (σ : St) (H : Hp), i < ds.length → P ρ F σ H → Sim K ρ F σ H → J.go i H
  stop : ∀ (ρ : Env) (F : Hp) (σ : St) (H : Hp), P ρ F σ H → Sim K ρ F σ H → J.stop ds.length H
  yld : ∀ (i : Nat) (d : D) (ρ : Env) (F : Hp) (σ : St) (H : Hp) (x : V) (H' : Hp), ds[i]? = some d → P ρ F σ H → Sim K ρ F σ H → J.yld i H x H' → ∃ F', Step ρ σ F H ρ σ F' H' ∧ Sim K ρ F' σ H' ∧ Rep K F' x d
  stays : ∀ (ρ : Env) (F : Hp) (σ : St) (H : Hp) (ρ' : Env) (F' : Hp) (σ' : St) (H' : Hp), P ρ F σ H → Step ρ σ F H ρ' σ' F' H' → P ρ' F' σ' H'
section
variable {K : Frag}
/-- a list that stands still -/
def SrcL (K : Frag) (a : Addr) (vs : List V) (ds : List D) (ρ : Env) (F : Hp) (σ : St) (H : Hp) : Prop := ((H a = some (.lst vs) ∧ ¬ OwnU ρ σ a) ∨ SqL K F a vs) ∧ Reps K F vs ds
theorem SrcL.sq {a : Addr} {vs : List V} {ds : List D} {ρ : Env} {F : Hp} {σ : St} {H : Hp} (h : SrcL K a vs ds ρ F σ H) (fh : Same F H) : SqL K H a vs := h.1.elim (fun h => SqL.of h.1) fun h => fh.seq h
theorem SrcL.stays {a : Addr} {vs : List V} {ds : List D} {ρ ρ' : Env} {F F' : Hp} {σ σ' : St} {H H' : Hp} (h : SrcL K a vs ds ρ F σ H) (st : Step ρ σ F H ρ' σ' F' H') : SrcL K a vs ds ρ' F' σ' H' := by
  refine ⟨h.1.elim (fun h => .inl ⟨st.keep a _ h.1 h.2, fun q => (st.ownU a q).elim h.2 fun z => ?_⟩) fun h => .inr (st.ext.seq h), h.2.mono st.ext⟩
  rw [h.1] at z; cases z
theorem goes_list (a : Addr) (vs : List V) (ds : List D) : Goes K (Itl K a) ds (SrcL K a vs ds) where
  go := fun i ρ F σ H hi h S => ⟨vs, vs[i]'(by rw [h.2.length]; exact hi), h.sq S.fh, List.getElem?_eq_getElem _⟩
  stop := fun ρ F σ H h S => ⟨vs, h.sq S.fh, Nat.le_of_eq h.2.length⟩
  yld := fun i d ρ F σ H x H' hd h S y => by
    obtain ⟨rfl, y⟩ := y
    obtain ⟨v, e, r⟩ := h.2.get' hd
    have := y vs (h.sq S.fh)
    rw [e] at this
    cases this
    exact ⟨F, .refl, S, r⟩
  stays := fun _ _ _ _ _ _ _ _ h st => h.stays st
def SrcT (K : Frag) (a : Addr) (vs : List V) (ds : List D) (_ : Env) (F : Hp) (_ : St) (_ : Hp) : Prop := F a = some (.tup vs) ∧ Reps K F vs ds
theorem sqT_inj {H : Hp} {a : Addr} {vs xs : List V} (h : H a = some (.tup vs)) (y : ∀ xs, SqT K H a xs → ∃ x : V, xs[0]? = some x) : True := trivial
theorem goes_tup (a : Addr) (vs : List V) (ds : List D) : Goes K (Itt K a) ds (SrcT K a vs ds) where
  go := fun i ρ F σ H hi h S => ⟨vs, vs[i]'(by rw [h.2.length]; exact hi), SqT.of (S.fh _ _ h.1), List.getElem?_eq_getElem _⟩
  stop := fun ρ F σ H h S => ⟨vs, SqT.of (S.fh _ _ h.1), Nat.le_of_eq h.2.length⟩
  yld := fun i d ρ F σ H x H' hd h S y => by
    obtain ⟨rfl, y⟩ := y
    obtain ⟨v, e, r⟩ := h.2.get' hd
    have := y vs (SqT.of (S.fh _ _ h.1))
    rw [e] at this
    cases this
    exact ⟨F, .refl, S, r⟩
  stays := fun _ _ _ _ _ _ _ _ h st => ⟨st.ext _ _ h.1, h.2.mono st.ext⟩
theorem rangeL_get {lo hi : Int} {i : Nat} {d : D} (h : (rangeL lo hi)[i]? = some d) : d = .int (lo + i) := by
  unfold rangeL at h
  rw [List.getElem?_map] at h
  cases e : (List.range (hi - lo).toNat)[i]? with
  | none => rw [e] at h; cases h
  | some k =>
    rw [e] at h
    have := List.getElem?_eq_some_iff.mp e
    obtain ⟨h1, h2⟩ := this
    simp at h2
    subst h2
    cases h
    rfl
theorem rangeL_len (lo hi : Int) : (rangeL lo hi).length = (hi - lo).toNat := by simp [rangeL]
theorem goes_range (lo hi : Int) : Goes K (Itr lo (hi - lo).toNat) (rangeL lo hi) (fun _ _ _ _ => True) where
  go := fun i ρ F σ H h _ _ => by rw [rangeL_len] at h; exact h
  stop := fun ρ F σ H _ _ => by rw [rangeL_len]; exact Nat.le_refl _
  yld := fun i d ρ F σ H x H' hd _ S y => by
    obtain ⟨rfl, rfl⟩ := y
    rw [rangeL_get hd]
    exact ⟨F, .refl, S, .int _⟩
  stays := fun _ _ _ _ _ _ _ _ _ _ => trivial
theorem goes_str (x : Str) : Goes K (Its x) (chars x) (fun _ _ _ _ => True) where
  go := fun i ρ F σ H h _ _ => by
    have h : i < (chars x).length := h
    show i < x.cps.size
    simpa [chars] using h
  stop := fun ρ F σ H _ _ => by show x.cps.size ≤ (chars x).length; simp [chars]
  yld := fun i d ρ F σ H v H' hd _ S y => by
    obtain ⟨rfl, c, hc, rfl⟩ := y
    unfold chars at hd
    rw [List.getElem?_map, Array.getElem?_toList, hc] at hd
    cases hd
    exact ⟨F, .refl, S, .str _⟩
  stays := fun _ _ _ _ _ _ _ _ _ _ => trivial
theorem enumL_get : ∀ {ds : List D} {n i : Nat} {d : D}, (enumL n ds)[i]? = some d → ∃ e, ds[i]? = some e ∧ d = .tuple [.int ((n + i : Nat) : Int), e]
  | [], n, i, d, h => by simp [enumL] at h
  | x :: r, n, 0, d, h => by simp [enumL] at h; exact ⟨x, rfl, by rw [← h]; rfl⟩
  | x :: r, n, i + 1, d, h => by
    have h : (enumL (n + 1) r)[i]? = some d := by simpa [enumL] using h
    obtain ⟨e, h1, h2⟩ := enumL_get h
    refine ⟨e, by simpa using h1, ?_⟩
    rw [h2, show n + 1 + i = n + (i + 1) by omega]
theorem enumL_len : ∀ (ds : List D) (n : Nat), (enumL n ds).length = ds.length
  | [], _ => rfl
  | _ :: r, n => by simp [enumL, enumL_len r]
theorem goes_enum (a : Addr) (vs : List V) (ds : List D) : Goes K (Ite K a) (enumL 0 ds) (SrcL K a vs ds) where
  go := fun i ρ F σ H hi h S => by
    rw [enumL_len] at hi
    exact ⟨vs, vs[i]'(by rw [h.2.length]; exact hi), h.sq S.fh, List.getElem?_eq_getElem _⟩
  stop := fun ρ F σ H h S => by rw [enumL_len]; exact ⟨vs, h.sq S.fh, Nat.le_of_eq h.2.length⟩
  yld := fun i d ρ F σ H x H' hd h S y => by
    obtain ⟨e, h1, rfl⟩ := enumL_get hd
    obtain ⟨t, x', rfl, nt, rfl, y⟩ := y
    obtain ⟨v, ev, r⟩ := h.2.get' h1
    have := y vs (h.sq S.fh)
    rw [ev] at this
    cases this
    have hF := (S.new nt).1
    refine ⟨_, Step.laidF hF nt, S.laidF nt, .tup upd_same (.cons ?_ (.cons (r.mono (same_new hF)) .nil))⟩
    rw [Nat.zero_add]
    exact .int _
  stays := fun _ _ _ _ _ _ _ _ h st => h.stays st
end

/-! ### the reading of a walked thing -/
def LockOk (ρ : Env) (σ : St) (lk : Option Nat) : Prop := ∀ j, lk = some j → ∃ p, OwnU ρ σ p ∧ σ[j]? = some (some (.ref p))
def OutW (T : Errs) (K : Frag) (W : WX) (ρ : Env) (F : Hp) (σ : St) (H : Hp) (res : Res ((List D × Option Nat) × Env)) (R' : L2.It → Hp → Prop) : Prop := match res with
  | .ok p => ∀ J F' H' P, Step ρ σ F H p.2 σ F' H' → Sim K p.2 F' σ H' → Goes K J p.1.1 P → P p.2 F' σ H' → LockOk ρ σ p.1.2 → R' J H'
  | .exc c f ρ' => ∀ F' H' cls d, Step ρ σ F H ρ' σ F' H' → Sim K ρ' F' σ H' → ExcR T K F' H' c f cls d → W cls d σ H'
  | .no => False
theorem OutW.bind {α β : Type} {T : Errs} {K : Frag} {W : WX} {ρ : Env} {F H : Hp} {σ : St} {Rl : Hp → Env → Hp → Hp → β → α → Prop} {res : Res (α × Env)} {kk : α × Env → Res ((List D × Option Nat) × Env)} {Q1 : β → Hp → Prop} {R' : L2.It → Hp → Prop} (h : OutW T K W ρ F σ H (res.bind kk) R')
    (hk : ∀ a ρ1 b F1 H1, Step ρ σ F H ρ1 σ F1 H1 → Sim K ρ1 F1 σ H1 → Rl H ρ1 F1 H1 b a → OutW T K W ρ F σ H (kk (a, ρ1)) R' → Q1 b H1) : Out T K W ρ F σ H Rl res Q1 := by
  cases res with
  | ok p => exact fun b F' H' s S r => hk p.1 p.2 b F' H' s S r h
  | exc c f ρ' => exact h
  | no => exact h
theorem OutW.bind1 {α β : Type} {T : Errs} {K : Frag} {W : WX} {ρ ρ1 : Env} {F H F1 H1 : Hp} {σ : St} {Rl : Hp → Env → Hp → Hp → β → α → Prop} {res : Res (α × Env)} {kk : α × Env → Res ((List D × Option Nat) × Env)} {Q1 : β → Hp → Prop} {R' : L2.It → Hp → Prop} (st : Step ρ σ F H ρ1 σ F1 H1) (h : OutW T K W ρ F σ H (res.bind kk) R')
    (hk : ∀ a ρ2 b F2 H2, Step ρ1 σ F1 H1 ρ2 σ F2 H2 → Sim K ρ2 F2 σ H2 → Rl H1 ρ2 F2 H2 b a → OutW T K W ρ F σ H (kk (a, ρ2)) R' → Q1 b H2) : Out T K W ρ1 F1 σ H1 Rl res Q1 := by
  cases res with
  | ok p => exact fun b F' H' s S r => hk p.1 p.2 b F' H' s S r h
  | exc c f ρ' => exact fun F' H' cls d s S r => h F' H' cls d (st.trans s) S r
  | no => exact h
def LW (T : Errs) (K : Frag) (W : WX) (m : Env → Res ((List D × Option Nat) × Env)) : TI := fun σ H R => ∃ ρ F, Sim K ρ F σ H ∧ OutW T K W ρ F σ H (m ρ) R
theorem PI.imp {X : Cx} {tg x : Expr} {t t' : TI} (h : PI X tg x t) (i : ∀ σ H R, t' σ H R → t σ H R) : PI X tg x t' := ⟨fun pins s σ H R I q => h.run pins s σ H R I (i σ H R q)⟩
theorem PI.or {X : Cx} {tg x : Expr} {t t' : TI} (h : PI X tg x t) (h' : PI X tg x t') : PI X tg x (fun σ H R => t σ H R ∨ t' σ H R) := ⟨fun pins s σ H R I q => q.elim (h.run pins s σ H R I) (h'.run pins s σ H R I)⟩
section
variable {fnm : Nat → Option Str} {T : Errs} {call : CallT} {k : Nat} {N : List Str}
/-- the targets of enumerate are a tuple -/
def enuT : Mlg.It → Expr → Prop
  | .envar _, t => ∃ xs kk p, t = .Tuple xs kk p
  | .enu _, t => ∃ xs kk p, t = .Tuple xs kk p
  | _, _ => True
def PrI (fnm : Nat → Option Str) (T : Errs) (call : CallT) (k : Nat) (N : List Str) (it : Mlg.It) : Prop :=
  ∀ (X : Cx) (W : WX) (sc : Scope) (x tg : Expr), Cok fnm T call k N X sc → Takes X W → enuT it tg → mIt fnm N sc it x = true → PI X tg x (LW T X.K W (Mlg.walk call it))
theorem rangeOk_ok {i : Int} (h : rangeOk i = true) : -(2 ^ 62) ≤ i ∧ i < 2 ^ 62 := by
  obtain ⟨a, b⟩ := and2 h
  have a := of_decide_eq_true a
  have b := of_decide_eq_true b
  omega
theorem lock_none {ρ : Env} {σ : St} : LockOk ρ σ none := fun _ e => by cases e
theorem i_r1 {a : Mlg.E} (ia : PrE fnm T call k N a) : PrI fnm T call k N (.r1 a) := by
  intro X W sc x tg C tk _ h
  unfold mIt at h
  try dsimp only at h
  split at h
  · rename_i n p x pos
    obtain ⟨hn, hp, h1⟩ := and3 h
    obtain ⟨rfl, hg⟩ := bltB_ok hn
    refine PI.imp (pi_range1 (by show X.env.scope.names.lookup _ = _; rw [C.hsc]; exact hg) (C.G.bl _ (by decide)) (pa_cons (ia X W sc x C tk h1) pa_nil (starEach_plain hp)) (starEach_plain hp)) fun σ H R' q => ?_
    obtain ⟨ρ, F, S, q⟩ := q
    refine ⟨ρ, F, S, OutW.bind q fun r1 ρ1 v F1 H1 st S1 rl h => ?_⟩
    cases r1 with
    | tmp _ => exact h.elim
    | loc _ => exact h.elim
    | val d =>
      cases d <;> first | exact h.elim | skip
      rename_i i
      try dsimp only at h
      split at h
      · rename_i c
        cases rl
        have := rangeOk_ok c
        refine ⟨i, rfl, this.1, this.2, ?_⟩
        have hh := h (Itr 0 (i - 0).toNat) F1 H1 _ st S1 (goes_range 0 i) trivial lock_none
        rw [Int.sub_zero] at hh
        exact hh
      · exact h.elim
  · cases h
theorem i_r2 {a b : Mlg.E} (ia : PrE fnm T call k N a) (ib : PrE fnm T call k N b) : PrI fnm T call k N (.r2 a b) := by
  intro X W sc x tg C tk _ h
  unfold mIt at h
  try dsimp only at h
  split at h
  · rename_i n p x y pos
    obtain ⟨h0, hpy, h1⟩ := and3 h
    obtain ⟨hn, hpx⟩ := and2 h0
    obtain ⟨h1, h2⟩ := and2 h1
    obtain ⟨rfl, hg⟩ := bltB_ok hn
    refine PI.imp (pi_range2 (by show X.env.scope.names.lookup _ = _; rw [C.hsc]; exact hg) (C.G.bl _ (by decide)) (pa_cons (ia X W sc x C tk h1) (pa_cons (ib X W sc y C tk h2) pa_nil (starEach_plain hpy)) (starEach_plain hpx)) (by rw [starEach_plain hpx, starEach_plain hpy]; rfl) (by rw [starEach_plain hpy]; rfl)) fun σ H R' q => ?_
    obtain ⟨ρ, F, S, q⟩ := q
    refine ⟨ρ, F, S, OutW.bind q fun r1 ρ1 v F1 H1 st S1 rl h => ⟨ρ1, F1, S1, OutW.bind1 (Rl := relE X.K σ) st h fun r2 ρ2 v2 F2 H2 st2 S2 rl2 h' => ?_⟩⟩
    clear h
    have h := h'
    clear h'
    cases r1 with
    | tmp _ => exact h.elim
    | loc _ => exact h.elim
    | val d =>
      cases d <;> first | exact h.elim | skip
      rename_i i
      cases r2 with
      | tmp _ => exact h.elim
      | loc _ => exact h.elim
      | val d =>
        cases d <;> first | exact h.elim | skip
        rename_i j
        try dsimp only at h
        split at h
        · rename_i c
          cases rl
          cases rl2
          obtain ⟨c1, c2⟩ := and2 c
          have b1 := rangeOk_ok c1
          have b2 := rangeOk_ok c2
          exact ⟨i, j, rfl, ⟨b1.1, b1.2, b2.1, b2.2⟩, h _ F2 H2 _ (st.trans st2) S2 (goes_range i j) trivial lock_none⟩
        · exact h.elim
  · cases h
theorem i_val {a : Mlg.E} (ia : PrE fnm T call k N a) : PrI fnm T call k N (.val a) := by
  intro X W sc x tg C tk _ h
  have h : (plainX x && mE fnm N sc a x) = true := by unfold mIt at h; exact h
  obtain ⟨hp, h1⟩ := and2 h
  have hx := ia X W sc x C tk h1
  refine PI.imp (PI.or (pi_list hx) (PI.or (pi_tup hx) (pi_str hx))) fun σ H R' q => ?_
  obtain ⟨ρ, F, S, q⟩ := q
  unfold Mlg.walk at q
  cases e : Mlg.eval call a ρ with
  | no => rw [e] at q; exact q.elim
  | exc c f ρ' => rw [e] at q; exact .inl ⟨ρ, F, S, by rw [e]; exact q⟩
  | ok p =>
    rw [e] at q
    obtain ⟨r, ρ1⟩ := p
    replace q : OutW T X.K W ρ F σ H ((Res.of (walkR r)).bind fun xs => Res.ok ((xs, (none : Option Nat)), ρ1)) R' := q
    cases r with
    | loc _ => exact q.elim
    | tmp o =>
      cases o with
      | dic _ => exact q.elim
      | lst ds =>
        refine .inl ⟨ρ, F, S, ?_⟩
        rw [e]
        intro v F1 H1 st S1 rl
        obtain ⟨p, rfl, hF, ⟨vs, hp, hr⟩, hn, h0⟩ := rl
        exact ⟨p, rfl, ⟨vs, SqL.of hp⟩, q _ F1 H1 _ st S1 (goes_list p vs ds) ⟨.inl ⟨hp, fun z => hn z.own⟩, hr⟩ lock_none⟩
    | val d =>
      cases d <;> first | exact q.elim | skip
      · rename_i z
        refine .inr (.inr ⟨ρ, F, S, ?_⟩)
        rw [e]
        intro v F1 H1 st S1 rl
        cases rl
        exact ⟨z, rfl, q _ F1 H1 _ st S1 (goes_str z) trivial lock_none⟩
      · rename_i ds
        refine .inl ⟨ρ, F, S, ?_⟩
        rw [e]
        intro v F1 H1 st S1 rl
        cases rl with
        | lst ha hr => exact ⟨_, rfl, ⟨_, SqL.of (S1.fh _ _ ha)⟩, q _ F1 H1 _ st S1 (goes_list _ _ ds) ⟨.inr (SqL.of ha), hr⟩ lock_none⟩
      · rename_i ds
        refine .inr (.inl ⟨ρ, F, S, ?_⟩)
        rw [e]
        intro v F1 H1 st S1 rl
        cases rl with
        | tup ha hr => exact ⟨_, rfl, ⟨_, SqT.of (S1.fh _ _ ha)⟩, q _ F1 H1 _ st S1 (goes_tup _ _ ds) ⟨ha, hr⟩ lock_none⟩

theorem lockV_own {ρ : Env} {i j : Nat} {xs : List D} {ρ1 : Env} (h : lockV ρ i = some ((xs, some j), ρ1)) : j = i ∧ ρ[i]? = some (.own (.lst xs)) ∧ ρ1 = ρ.set i (.lck (.lst xs)) := by
  unfold lockV at h
  split at h
  · rename_i d e
    cases q : itemsW d with
    | none => rw [q] at h; cases h
    | some ys => rw [q] at h; cases h
  · rename_i ys e; cases h; exact ⟨rfl, e, rfl⟩
  · cases h
  · cases h
  · cases h
/-- what a name holds, walked -/
theorem lockV_ok {K : Frag} {ρ ρ1 : Env} {F H : Hp} {σ : St} {i : Nat} {p : List D × Option Nat} (S : Sim K ρ F σ H) (h : lockV ρ i = some (p, ρ1)) : ∃ v, σ[i]? = some (some v) ∧ Step ρ σ F H ρ1 σ F H ∧ Sim K ρ1 F σ H ∧ LockOk ρ σ p.2 ∧
    ((∃ a vs, v = .ref a ∧ SrcL K a vs p.1 ρ1 F σ H) ∨ (∃ a vs, v = .ref a ∧ SrcT K a vs p.1 ρ1 F σ H) ∨ ∃ z, v = .str z ∧ p.1 = chars z) := by
  unfold lockV at h
  split at h
  · rename_i d e
    cases q : itemsW d with
    | none => rw [q] at h; cases h
    | some ys =>
      rw [q] at h
      cases h
      obtain ⟨v, h1, h2⟩ := S.slot i _ e
      refine ⟨v, h1, .refl, S, lock_none, ?_⟩
      cases d <;> first | (cases q; done) | skip
      · cases q; cases h2; exact .inr (.inr ⟨_, rfl, rfl⟩)
      · cases q; cases h2 with | lst ha hr => exact .inl ⟨_, _, rfl, .inr (SqL.of ha), hr⟩
      · cases q; cases h2 with | tup ha hr => exact .inr (.inl ⟨_, _, rfl, ha, hr⟩)
  · rename_i ys e
    cases h
    obtain ⟨a, h1, h2, vs, h3, h4⟩ := S.slot i _ e
    obtain ⟨S', st'⟩ := S.lock e
    refine ⟨_, h1, st', S', fun j ej => ?_, .inl ⟨a, vs, rfl, .inl ⟨h3, ?_⟩, h4⟩⟩
    · cases ej
      exact ⟨a, ⟨i, _, e, h1⟩, h1⟩
    · rintro ⟨j, o, hj, ej⟩
      by_cases c : j = i
      · subst c; rw [List.getElem?_set_self (lt_of_get e)] at hj; cases hj
      · rw [List.getElem?_set_ne (Ne.symm c)] at hj
        exact c (S.sep j i _ _ _ _ a hj e rfl rfl ej h1)
  · rename_i ys e
    cases h
    obtain ⟨a, h1, h2, vs, h3, h4⟩ := S.slot i _ e
    refine ⟨_, h1, .refl, S, lock_none, .inl ⟨a, vs, rfl, .inl ⟨h3, ?_⟩, h4⟩⟩
    rintro ⟨j, o, hj, ej⟩
    have := S.sep j i _ _ _ _ a hj e rfl rfl ej h1
    subst this
    rw [e] at hj
    cases hj
  · rename_i ys e
    cases h
    obtain ⟨a, vs, h1, h2, h3⟩ := S.slot i _ e
    exact ⟨_, h1, .refl, S, lock_none, .inl ⟨a, vs, rfl, .inr h2, h3⟩⟩
  · cases h
theorem i_var (i : Nat) : PrI fnm T call k N (.var i) := by
  intro X W sc x tg C tk _ h
  unfold mIt at h
  try dsimp only at h
  split at h
  · rename_i x p
    obtain ⟨h1, h2, h3⟩ := and3 h
    obtain ⟨n1, n2, _⟩ := nameB_ok h3
    have hx : PE X (.Name x p) (tVar i) := pe_var (i := i) (by rw [C.hN]; exact of_decide_eq_true h1) (by rw [C.hsc]; exact visB_ok h2) n1 n2
    refine PI.imp (PI.or (pi_list hx) (PI.or (pi_tup hx) (pi_str hx))) fun σ H R' q => ?_
    obtain ⟨ρ, F, S, q⟩ := q
    unfold Mlg.walk at q
    cases e : lockV ρ i with
    | none => rw [e] at q; exact q.elim
    | some pr =>
      rw [e] at q
      obtain ⟨p, ρ1⟩ := pr
      obtain ⟨v, hv, st, S1, lk, c⟩ := lockV_ok S e
      rcases c with ⟨a, vs, rfl, c⟩ | ⟨a, vs, rfl, c⟩ | ⟨z, rfl, ec⟩
      · exact .inl ⟨_, hv, a, rfl, ⟨vs, c.sq S1.fh⟩, q _ F H _ st S1 (goes_list a vs _) c lk⟩
      · exact .inr (.inl ⟨_, hv, a, rfl, ⟨vs, SqT.of (S1.fh _ _ c.1)⟩, q _ F H _ st S1 (goes_tup a vs _) c lk⟩)
      · refine .inr (.inr ⟨_, hv, z, rfl, q _ F H (fun _ _ _ _ => True) st S1 ?_ trivial lk⟩)
        show Goes X.K (Its z) p.1 _
        rw [ec]
        exact goes_str z
  · cases h
end
end Msd
/-! SoundEn: enumerate of a tuple. -/
namespace PySem
open Sem (wp)
open AutoSeq1 (wpAny_loadPart')
theorem meets_enumerate_newT (l : Addr) (items : Array Value) (n : Nat) (dct : Option Addr) (sl : Array (Option Value)) :
    Meets (Builtin.«enumerate.__new__» ⟨[.type "enumerate", .ref l], []⟩) (fun _ R s => s.heap.get? l = some { cls := .type "tuple", dict := dct, data := .seq items n, slots := sl } ∧
      R (.ok (.ret (.ref (s.heap.push { cls := .type "tuple_iterator", data := .fields #[.ref l, .int 0 0] }).objs.size)))
        { s with heap := (s.heap.push { cls := .type "tuple_iterator", data := .fields #[.ref l, .int 0 0] }).push { cls := .type "enumerate", data := .fields #[.none, .bool false, .ref s.heap.objs.size, rawInt 0, .none, .none] } }) :=
  .of_wp fun prog w A R s h => by
    obtain ⟨hp, g, d, tk, os⟩ := s; obtain ⟨hl, h⟩ := h
    have hsub := sub_enumerate
    have hL : Heap.IsTuple (Shared.heap ⟨hp, g, d, tk, os⟩) l items := ⟨_, hl, rfl, n, rfl⟩
    wp_walk using wpAny_loadPart' hl
    refine wpAny_stack_any fun st => wpAny_pure ?_
    split
    · rename_i c _ _ _ _ _
      cases (c == Value.type "enumerate")
      · wp_walk using wpAny_loadPart' hl, wpAny_pyIter_tuple hL
        exact ⟨_, rfl, h⟩
      · wp_walk using wpAny_loadPart' hl, wpAny_pyIter_tuple hL
        exact ⟨_, rfl, h⟩
    · wp_walk using wpAny_loadPart' hl, wpAny_pyIter_tuple hL
      exact ⟨_, rfl, h⟩
section
variable {prog : Program} {w : World} {A : Around} {E : Value → Shared → Prop} {s : Shared}
theorem call_enumerate_tuple {l : Addr} {items : Array Value} {Q : Value → Shared → Prop} (hL : s.heap.IsTuple l items)
    (h : ∀ h', IsEnum h' (s.heap.objs.size + 1) s.heap.objs.size 0 .none → h'.IsTupleIter s.heap.objs.size l 0 → h'.objs.size = s.heap.objs.size + 2 →
      (∀ b o, s.heap.get? b = some o → h'.get? b = some o) → Q (.ref (s.heap.objs.size + 1)) { s with heap := h' }) :
    wpAny (model prog w) A (call (.type "enumerate") [.ref l]) Q E s := by
  obtain ⟨⟨c, dct, dt, sl⟩, hl, hc, n, hd⟩ := hL
  replace hc : c = .type "tuple" := hc
  replace hd : dt = .seq items n := hd
  subst hc hd
  refine callType_new F.called_enumerate (by decide) (F.typeCall_enumerate_1 _) (F.newCall_enumerate_1 _) (fun obj => F.args_object_init_2 obj _) F.entry_enumerate_new
    (meets_enumerate_newT l items n dct sl) ⟨hl, ?_⟩
  have hz : (s.heap.push { cls := .type "tuple_iterator", data := .fields #[.ref l, .int 0 0] }).objs.size = s.heap.objs.size + 1 := Heap.size_push ..
  show _ ∧ _
  rw [hz]
  have he : IsEnum ((s.heap.push { cls := .type "tuple_iterator", data := .fields #[.ref l, .int 0 0] }).push
      { cls := .type "enumerate", data := .fields #[.none, .bool false, .ref s.heap.objs.size, rawInt 0, .none, .none] }) (s.heap.objs.size + 1) s.heap.objs.size 0 .none := by
    have := Heap.get?_push_size (s.heap.push { cls := .type "tuple_iterator", data := .fields #[.ref l, .int 0 0] })
      (o := { cls := .type "enumerate", data := .fields #[.none, .bool false, .ref s.heap.objs.size, rawInt 0, .none, .none] }) rfl
    rw [hz] at this; exact this
  refine ⟨⟨_, he, rfl⟩, h _ he ⟨_, Heap.get?_push_of_some _ (Heap.get?_push_size _ rfl), rfl, rfl⟩ (by rw [Heap.size_push, hz]) fun b o x => Heap.get?_push_of_some _ (Heap.get?_push_of_some _ x)⟩
end
end PySem
namespace Msd
open PySem PySem.Spec PyProof.Rows L2 Mlg
def IteT (K : Frag) (a : Addr) : L2.It :=
  ⟨fun i H => ∃ (xs : List V) (x : V), H a = some (.tup xs) ∧ xs[i]? = some x, fun i H v H' => ∃ T x, v = .ref T ∧ H T = none ∧ H' = upd H T (.tup [.int (i : Nat), x]) ∧ ∀ xs, H a = some (.tup xs) → xs[i]? = some x, fun i H => ∃ xs : List V, H a = some (.tup xs) ∧ xs.length = i⟩
theorem turn_enumT {P : Program} {w : World} {K : Frag} {elts : List Expr} {kk : Nat} {tpos : Pos} (a e it : Addr) :
    Turn P w K (.Tuple elts kk tpos) (IteT K a) [e, it] e (fun i h => (∃ old, IsEnum h e it ((i : Nat) : Int) old) ∧ h.IsTupleIter it a i ∧ e ≠ it) where
  mem := by simp
  obj := fun i h st b hb => by
    obtain ⟨⟨old, he⟩, ⟨o, ho, hc, hd⟩, _⟩ := st
    have e' : b = e ∨ b = it := by simpa using hb
    rcases e' with z | z
    · rw [z]; exact ⟨_, he, fun v q => nomatch q⟩
    · rw [z]; exact ⟨o, ho, fun v q => by rw [hd] at q; cases q⟩
  keep := fun i h h' st k => let ⟨⟨old, he⟩, hi, hne⟩ := st; ⟨⟨old, k e (by simp) _ he⟩, hi.at fun o q => k it (by simp) o q, hne⟩
  item := by
    intro X hP hw hK hc i pins s σ H E I hf st hg
    subst hP hw hK
    obtain ⟨⟨old, he⟩, hit, hne⟩ := st
    obtain ⟨xs, x, hq, hx⟩ := hg
    obtain ⟨its, rv, p, hz⟩ := I.tuple (SqT.of hq)
    obtain ⟨u, hu, ru⟩ := rv.get hx
    have hel : e < s.heap.objs.size := Heap.lt_size he
    have hil : it < s.heap.objs.size := by obtain ⟨_, q, _⟩ := hit; exact Heap.lt_size q
    have ha : a ≠ it := fun z => by have := (hf it (by simp)).1; rw [← z, hq] at this; cases this
    have hae : a ≠ e := fun z => by have := (hf e (by simp)).1; rw [← z, hq] at this; cases this
    have D := Draws.tuple (prog := X.prog) (w := X.w) (A := X.A.in1) (I.ok.hd hc) it a ha its.toArray
    refine wpAny_pyNext_enum_itemD D he ⟨hit, p⟩ (i := i) (by have := lt_of_get hu; simpa using this) hne (by simp [hne, Ne.symm hae]) fun x' h' tk hP ho hst' hT hsz hk => ?_
    have ex : x' = u := by
      have hP : its.toArray[i]? = some x' := hP
      rw [List.getElem?_toArray, hu] at hP
      cases hP; rfl
    subst ex
    refine ⟨_, rfl, wpAny_letOwnedTupleGo_enum (s := { s with heap := h', toks := tk + 1 }) ho fun h'' he' sb => ?_⟩
    have hT2 : h''.get? s.heap.objs.size = some { cls := .type "tuple", data := .seq #[.int i tk, x'] } := (sb.2 _ (Nat.ne_of_gt hel)).trans hT
    have new : ObjOk X.prog X.w (upd H s.heap.objs.size (.tup [.int (i : Nat), x])) h'' s.heap.objs.size (.tup [.int (i : Nat), x]) :=
      ⟨by show 2 ≤ sizeLine; decide, [.int i tk, x'], .cons ⟨_, rfl⟩ (.cons ru .nil), ⟨_, hT2, rfl, _, rfl⟩⟩
    have I1 : Inv X pins σ (upd H s.heap.objs.size (.tup [.int (i : Nat), x])) { s with heap := h'', toks := tk + 1 } :=
      I.turnedNew (ch := [e, it]) (fun b ob hb q => (sb.2 b (fun z => hb (by simp [z]))).trans (hk b ob (fun z => hb (by simp [z])) (fun z => hb (by simp [z])) q)) hf (Nat.le_refl _) new
    refine ⟨.ref s.heap.objs.size, _, I1, rfl, ⟨_, x, rfl, I.hok.fresh (Nat.le_refl _), rfl, fun ys hy => by rw [hq] at hy; cases hy; exact hx⟩, ⟨⟨x', ?_⟩, hst'.1.at fun o q => (sb.2 it (Ne.symm hne)).trans q, hne⟩, fun b hb => ?_⟩
    · have e1 : ((i + 1 : Nat) : Int) = (i : Int) + 1 := by omega
      rw [e1]; exact he'
    · have hb' : b < s.heap.objs.size := by
        have e' : b = e ∨ b = it := by simpa using hb
        rcases e' with z | z
        · rw [z]; exact hel
        · rw [z]; exact hil
      rw [upd_ne (Nat.ne_of_lt hb')]
      exact (hf b hb).1
  done := by
    intro X hP hw hK hc i pins s σ H E I hf st hg
    subst hP hw hK
    obtain ⟨⟨old, he⟩, hit, hne⟩ := st
    obtain ⟨xs, hq, hx⟩ := hg
    obtain ⟨its, rv, p, hz⟩ := I.tuple (SqT.of hq)
    obtain ⟨f0, f1, f2, f3, f4, f5⟩ := hf it (by simp)
    have ha : a ≠ it := fun z => by rw [← z, hq] at f0; cases f0
    have D := Draws.tuple (prog := X.prog) (w := X.w) (A := X.A.in1) (I.ok.hd hc) it a ha its.toArray
    have hl : its.toArray.size = i := by rw [List.size_toArray, ← rv.length]; exact hx
    refine wpAny_pyNext_enum_endD D he (by rw [hl]; exact ⟨hit, p⟩) fun h' eb => ⟨rfl, I.turned (t' := s.toks) (fun b o hb q => eb b o hb q) f0 f1 f3 f4 f5⟩
  self := fun A i s Q E st h => let ⟨⟨_, he⟩, _⟩ := st; wpAny_pyIter_enum he h

def iEnumT (K : Frag) (ta : TA) : TI := fun σ H R => ta σ H fun vs H1 => ∃ a xs, vs = [.ref a] ∧ H1 a = some (.tup xs) ∧ R (IteT K a) H1
theorem pi_enumT {X : Cx} {e : Expr} {ta : TA} {p pos tpos : Pos} {elts : List Expr} {kk : Nat} (hg : Gl X "enumerate") (hm : X.mg "enumerate" = none) (ha : PA X [e] ta) (hs : starEach [e] X.env = [(false, PySem.eval e X.env)] := by rfl) :
    PI X (.Tuple elts kk tpos) (.Call (.Name "enumerate" p) [e] [] pos) (iEnumT X.K ta) := by
  refine ⟨fun pins s σ H R I h => ?_⟩
  refine Call_ (ld_blt I hg hm boot_enumerate (PyProof.Rows.callWith_type1 (thn (ha.run pos pins s σ H _ I h) fun us s1 ⟨vs, H1, I1, r1, q1⟩ => ?_) hs rfl))
  obtain ⟨a, xs, ex, hq, q⟩ := q1
  subst ex
  cases r1 with
  | cons r rr =>
    cases rr
    cases r
    obtain ⟨its, rv, p', hz⟩ := I1.tuple (SqT.of hq)
    refine call_enumerate_tuple p' fun h' he hit hsz hk => wpAny_pyIter_enum he ?_
    have I2 : Inv X pins σ H1 { s1 with heap := h' } := I1.kept (t' := s1.toks) hk
    refine ⟨s1.heap.objs.size + 1, [s1.heap.objs.size + 1, s1.heap.objs.size], _, _, H1, rfl, I2, turn_enumT a (s1.heap.objs.size + 1) s1.heap.objs.size, ⟨⟨.none, he⟩, hit, Nat.succ_ne_self _⟩, fun b hb => ?_, q⟩
    have e' : b = s1.heap.objs.size + 1 ∨ b = s1.heap.objs.size := by simpa using hb
    have hle : s1.heap.objs.size ≤ b := by
      rcases e' with z | z
      · rw [z]; exact Nat.le_add_right _ _
      · rw [z]; exact Nat.le_refl _
    exact I1.fpOk hle (I1.hok.fresh hle)
theorem goes_enumT {K : Frag} (a : Addr) (vs : List V) (ds : List D) : Goes K (IteT K a) (enumL 0 ds) (SrcT K a vs ds) where
  go := fun i ρ F σ H hi h S => by
    rw [enumL_len] at hi
    exact ⟨vs, vs[i]'(by rw [h.2.length]; exact hi), S.fh _ _ h.1, List.getElem?_eq_getElem _⟩
  stop := fun ρ F σ H h S => by rw [enumL_len]; exact ⟨vs, S.fh _ _ h.1, h.2.length⟩
  yld := fun i d ρ F σ H x H' hd h S y => by
    obtain ⟨e, h1, rfl⟩ := enumL_get hd
    obtain ⟨t, x', rfl, nt, rfl, y⟩ := y
    obtain ⟨v, ev, r⟩ := h.2.get' h1
    have := y vs (S.fh _ _ h.1)
    rw [ev] at this
    cases this
    have hF := (S.new nt).1
    refine ⟨_, Step.laidF hF nt, S.laidF nt, .tup upd_same (.cons ?_ (.cons (r.mono (same_new hF)) .nil))⟩
    rw [Nat.zero_add]
    exact .int _
  stays := fun _ _ _ _ _ _ _ _ h st => ⟨st.ext _ _ h.1, h.2.mono st.ext⟩
section
variable {fnm : Nat → Option Str} {T : Errs} {call : CallT} {k : Nat} {N : List Str}
theorem i_envar (i : Nat) : PrI fnm T call k N (.envar i) := by
  intro X W sc x tg C tk et h
  obtain ⟨elts, kk, tpos, rfl⟩ := et
  unfold mIt at h
  try dsimp only at h
  split at h
  · rename_i n p x p2 pos
    obtain ⟨h0, h2, h3⟩ := and3 h
    obtain ⟨hn, h1⟩ := and2 h0
    obtain ⟨rfl, hg⟩ := bltB_ok hn
    obtain ⟨n1, n2, _⟩ := nameB_ok h3
    have hx : PE X (.Name x p2) (tVar i) := pe_var (i := i) (by rw [C.hN]; exact of_decide_eq_true h1) (by rw [C.hsc]; exact visB_ok h2) n1 n2
    have hgl : Gl X "enumerate" := by show X.env.scope.names.lookup _ = _; rw [C.hsc]; exact hg
    refine PI.imp (PI.or (pi_enum hgl (C.G.bl _ (by decide)) (pa_cons hx pa_nil)) (pi_enumT hgl (C.G.bl _ (by decide)) (pa_cons hx pa_nil))) fun σ H R' q => ?_
    obtain ⟨ρ, F, S, q⟩ := q
    unfold Mlg.walk at q
    split at q
    · exact q.elim
    rename_i nos
    cases e : lockV ρ i with
    | none => rw [e] at q; exact q.elim
    | some pr =>
      rw [e] at q
      obtain ⟨p, ρ1⟩ := pr
      obtain ⟨v, hv, st, S1, lk, c⟩ := lockV_ok S e
      rcases c with ⟨a, vs, rfl, c⟩ | ⟨a, vs, rfl, c⟩ | ⟨z, rfl, ec⟩
      · exact .inl ⟨_, hv, a, vs, rfl, c.sq S1.fh, q _ F H _ st S1 (goes_enum a vs _) c lk⟩
      · exact .inr ⟨_, hv, a, vs, rfl, S1.fh _ _ c.1, q _ F H _ st S1 (goes_enumT a vs _) c lk⟩
      · exfalso
        apply nos
        cases es : ρ[i]? with
        | none => unfold lockV at e; rw [es] at e; cases e
        | some s =>
          have hs := S.slot i s es
          cases s with
          | un => unfold lockV at e; rw [es] at e; cases e
          | val d =>
            obtain ⟨v', h1', h2'⟩ := hs
            rw [hv] at h1'
            cases h1'
            cases h2'
            rfl
          | own o => obtain ⟨a, h1', _⟩ := hs; rw [hv] at h1'; cases h1'
          | lck o => obtain ⟨a, h1', _⟩ := hs; rw [hv] at h1'; cases h1'
          | ro o => obtain ⟨a, ws, h1', _⟩ := hs; rw [hv] at h1'; cases h1'
  · cases h
theorem i_enu {a : Mlg.E} (ia : PrE fnm T call k N a) : PrI fnm T call k N (.enu a) := by
  intro X W sc x tg C tk et h
  obtain ⟨elts, kk, tpos, rfl⟩ := et
  unfold mIt at h
  try dsimp only at h
  split at h
  · rename_i n p x pos
    obtain ⟨hn, hp, h1⟩ := and3 h
    obtain ⟨rfl, hg⟩ := bltB_ok hn
    have hx := ia X W sc x C tk h1
    have hgl : Gl X "enumerate" := by show X.env.scope.names.lookup _ = _; rw [C.hsc]; exact hg
    refine PI.imp (PI.or (pi_enum hgl (C.G.bl _ (by decide)) (pa_cons hx pa_nil (starEach_plain hp)) (starEach_plain hp)) (pi_enumT hgl (C.G.bl _ (by decide)) (pa_cons hx pa_nil (starEach_plain hp)) (starEach_plain hp))) fun σ H R' q => ?_
    obtain ⟨ρ, F, S, q⟩ := q
    unfold Mlg.walk at q
    cases e : Mlg.eval call a ρ with
    | no => rw [e] at q; exact q.elim
    | exc c f ρ' => rw [e] at q; exact .inl ⟨ρ, F, S, by rw [e]; exact q⟩
    | ok p =>
      rw [e] at q
      obtain ⟨r, ρ1⟩ := p
      replace q : OutW T X.K W ρ F σ H (if isStr (look ρ1 r) = true then .no else (Res.of (walkR r)).bind fun xs => Res.ok ((enumL 0 xs, (none : Option Nat)), ρ1)) R' := q
      split at q
      · exact q.elim
      rename_i nos
      cases r with
      | loc _ => exact q.elim
      | tmp o =>
        cases o with
        | dic _ => exact q.elim
        | lst ds =>
          refine .inl ⟨ρ, F, S, ?_⟩
          rw [e]
          intro v F1 H1 st S1 rl
          obtain ⟨p, rfl, hF, ⟨vs, hp, hr⟩, hn, h0⟩ := rl
          exact ⟨p, vs, rfl, SqL.of hp, q _ F1 H1 _ st S1 (goes_enum p vs ds) ⟨.inl ⟨hp, fun z => hn z.own⟩, hr⟩ lock_none⟩
      | val d =>
        cases d <;> first | exact q.elim | skip
        · exact absurd rfl nos
        · rename_i ds
          refine .inl ⟨ρ, F, S, ?_⟩
          rw [e]
          intro v F1 H1 st S1 rl
          cases rl with
          | lst ha hr => exact ⟨_, _, rfl, SqL.of (S1.fh _ _ ha), q _ F1 H1 _ st S1 (goes_enum _ _ ds) ⟨.inr (SqL.of ha), hr⟩ lock_none⟩
        · rename_i ds
          refine .inr ⟨ρ, F, S, ?_⟩
          rw [e]
          intro v F1 H1 st S1 rl
          cases rl with
          | tup ha hr => exact ⟨_, _, rfl, S1.fh _ _ ha, q _ F1 H1 _ st S1 (goes_enumT _ _ ds) ⟨ha, hr⟩ lock_none⟩
  · cases h
end
end Msd
/-! Sound14: list comprehensions. -/
namespace Msd
open PySem PySem.Spec PyProof.Rows L2 Mlg
/-! ### the block's own names -/
theorem wipe_get (σ : St) : ∀ (vs : List Nat) (j : Nat), (wipe σ vs)[j]? = if j ∈ vs ∧ j < σ.length then some none else σ[j]?
  | [], j => by simp [wipe]
  | v :: r, j => by
    unfold wipe
    by_cases e : j = v
    · subst e
      by_cases hl : j < σ.length
      · rw [List.getElem?_set_self (by rw [wipe_length]; exact hl), if_pos ⟨List.mem_cons_self, hl⟩]
      · rw [List.getElem?_eq_none (by rw [List.length_set, wipe_length]; omega), if_neg (fun c => hl c.2), List.getElem?_eq_none (by omega)]
    · rw [List.getElem?_set_ne (Ne.symm e), wipe_get σ r j]
      by_cases c : j ∈ r ∧ j < σ.length
      · rw [if_pos c, if_pos ⟨List.mem_cons_of_mem _ c.1, c.2⟩]
      · rw [if_neg c, if_neg fun c' => c ⟨(List.mem_cons.mp c'.1).resolve_left e, c'.2⟩]
theorem wipe_out {σ : St} {vs : List Nat} {j : Nat} (h : j ∉ vs) : (wipe σ vs)[j]? = σ[j]? := by rw [wipe_get, if_neg fun c => h c.1]
theorem wipe_same {σ σ2 : St} {vs : List Nat} (hl : σ2.length = σ.length) (h : ∀ j, j ∉ vs → σ2[j]? = (wipe σ vs)[j]?) : wipe σ2 vs = wipe σ vs := by
  apply List.ext_getElem?
  intro j
  rw [wipe_get, wipe_get, hl]
  by_cases c : j ∈ vs
  · by_cases c2 : j < σ.length
    · rw [if_pos ⟨c, c2⟩, if_pos ⟨c, c2⟩]
    · rw [if_neg fun q => c2 q.2, if_neg fun q => c2 q.2, List.getElem?_eq_none (by omega), List.getElem?_eq_none (by omega)]
  · rw [if_neg fun q => c q.1, if_neg fun q => c q.1, h j c, wipe_out c]
theorem wipeE_spec : ∀ {vs : List Nat} {ρ ρ1 : Env}, wipeE ρ vs = some ρ1 → ρ1.length = ρ.length ∧ (∀ j ∈ vs, ρ1[j]? = some .un ∧ (ρ[j]? = some .un ∨ ∃ d, ρ[j]? = some (.val d))) ∧ ∀ j, j ∉ vs → ρ1[j]? = ρ[j]?
  | [], ρ, ρ1, h => by cases h; exact ⟨rfl, fun j hj => by simp at hj, fun _ _ => rfl⟩
  | v :: r, ρ, ρ1, h => by
    have key : ∀ s, ρ[v]? = some s → (s = .un ∨ ∃ d, s = .val d) → (wipeE ρ r).map (fun ρ' => ρ'.set v .un) = some ρ1 → ρ1.length = ρ.length ∧ (∀ j ∈ v :: r, ρ1[j]? = some .un ∧ (ρ[j]? = some .un ∨ ∃ d, ρ[j]? = some (.val d))) ∧ ∀ j, j ∉ v :: r → ρ1[j]? = ρ[j]? := by
      intro s hs hc h
      cases e : wipeE ρ r with
      | none => rw [e] at h; cases h
      | some ρ2 =>
        rw [e] at h
        cases h
        obtain ⟨h1, h2, h3⟩ := wipeE_spec e
        have lv : v < ρ2.length := by rw [h1]; exact lt_of_get hs
        refine ⟨by rw [List.length_set]; exact h1, fun j hj => ?_, fun j hj => ?_⟩
        · by_cases ej : j = v
          · subst ej
            refine ⟨List.getElem?_set_self lv, ?_⟩
            rcases hc with rfl | ⟨d, rfl⟩
            · exact .inl hs
            · exact .inr ⟨d, hs⟩
          · rw [List.getElem?_set_ne (Ne.symm ej)]
            exact h2 j ((List.mem_cons.mp hj).resolve_left ej)
        · have n1 : j ≠ v := fun e => hj (e ▸ List.mem_cons_self)
          rw [List.getElem?_set_ne (Ne.symm n1)]
          exact h3 j fun q => hj (List.mem_cons_of_mem _ q)
    unfold wipeE at h
    split at h
    · rename_i hs; exact key _ hs (.inl rfl) h
    · rename_i d hs; exact key _ hs (.inr ⟨_, rfl⟩) h
    · cases h
theorem backE_spec : ∀ {vs : List Nat} {ρ0 ρ : Env}, ρ0.length = ρ.length → (backE ρ0 vs ρ).length = ρ.length ∧ (∀ j ∈ vs, (backE ρ0 vs ρ)[j]? = ρ0[j]?) ∧ ∀ j, j ∉ vs → (backE ρ0 vs ρ)[j]? = ρ[j]?
  | [], ρ0, ρ, _ => ⟨rfl, fun j hj => by simp at hj, fun _ _ => rfl⟩
  | v :: r, ρ0, ρ, hl => by
    obtain ⟨h1, h2, h3⟩ := backE_spec (vs := r) hl
    unfold backE
    cases e : ρ0[v]? with
    | none =>
      refine ⟨h1, fun j hj => ?_, fun j hj => h3 j fun q => hj (List.mem_cons_of_mem _ q)⟩
      rcases List.mem_cons.mp hj with rfl | hj
      · rw [e]
        have : ρ0.length ≤ j := List.getElem?_eq_none_iff.mp e
        exact List.getElem?_eq_none (by rw [h1]; omega)
      · exact h2 j hj
    | some s =>
      have lv : v < (backE ρ0 r ρ).length := by rw [h1, ← hl]; exact lt_of_get e
      refine ⟨by rw [List.length_set]; exact h1, fun j hj => ?_, fun j hj => ?_⟩
      · by_cases ej : j = v
        · subst ej
          rw [List.getElem?_set_self lv, e]
        · rw [List.getElem?_set_ne (Ne.symm ej)]
          exact h2 j ((List.mem_cons.mp hj).resolve_left ej)
      · have n1 : j ≠ v := fun e => hj (e ▸ List.mem_cons_self)
        rw [List.getElem?_set_ne (Ne.symm n1)]
        exact h3 j fun q => hj (List.mem_cons_of_mem _ q)
section
variable {K : Frag} {ρ ρ1 : Env} {F H : Hp} {σ : St} {vs : List Nat}
theorem wipe_ok (S : Sim K ρ F σ H) (h : wipeE ρ vs = some ρ1) : Sim K ρ1 F (wipe σ vs) H ∧ Step ρ σ F H ρ1 (wipe σ vs) F H := by
  obtain ⟨h1, h2, h3⟩ := wipeE_spec h
  have old : ∀ {j : Nat} {s : Slot} {o : O}, ρ1[j]? = some s → isOwn s = some o → j ∉ vs ∧ ρ[j]? = some s := by
    intro j s o hs ho
    have hj : j ∉ vs := fun hj => by rw [(h2 j hj).1] at hs; cases hs; cases ho
    exact ⟨hj, by rw [← h3 j hj]; exact hs⟩
  refine ⟨⟨S.fh, by rw [h1, wipe_length]; exact S.len, fun j s hs => ?_, fun i j si sj oi oj p hi hj hoi hoj ei ej => ?_⟩, .refl _, fun _ _ e _ => e, fun _ e => e, fun p q => ?_, fun p q => ?_, fun _ e _ _ _ => e⟩
  · by_cases hj : j ∈ vs
    · rw [(h2 j hj).1] at hs; cases hs; trivial
    · rw [h3 j hj] at hs
      exact (S.slot j s hs).congr (wipe_out hj)
  · obtain ⟨a1, b1⟩ := old hi hoi
    obtain ⟨a2, b2⟩ := old hj hoj
    rw [wipe_out a1] at ei
    rw [wipe_out a2] at ej
    exact S.sep i j si sj oi oj p b1 b2 hoi hoj ei ej
  · obtain ⟨j, s, o, a, b, c⟩ := q
    obtain ⟨a1, b1⟩ := old a b
    rw [wipe_out a1] at c
    exact .inl ⟨j, s, o, b1, b, c⟩
  · obtain ⟨j, o, a, c⟩ := q
    obtain ⟨a1, b1⟩ := old a rfl
    rw [wipe_out a1] at c
    exact .inl ⟨j, o, b1, c⟩
/-- the block is left -/
theorem back_ok {ρn : Env} {Fn Hn : Hp} (S : Sim K ρ F σ H) (h : wipeE ρ vs = some ρ1) (st : Step ρ σ F H ρn (wipe σ vs) Fn Hn) (Sn : Sim K ρn Fn (wipe σ vs) Hn) : Sim K (backE ρ vs ρn) Fn σ Hn ∧ Step ρ σ F H (backE ρ vs ρn) σ Fn Hn ∧ ∀ p, Own (backE ρ vs ρn) σ p → Own ρn (wipe σ vs) p := by
  obtain ⟨h1, h2, h3⟩ := wipeE_spec h
  have hl : ρ.length = ρn.length := by rw [S.len, Sn.len, wipe_length]
  obtain ⟨b1, b2, b3⟩ := backE_spec (vs := vs) hl
  have old : ∀ {j : Nat} {s : Slot} {o : O}, (backE ρ vs ρn)[j]? = some s → isOwn s = some o → j ∉ vs ∧ ρn[j]? = some s := by
    intro j s o hs ho
    have hj : j ∉ vs := fun hj => by
      rw [b2 j hj] at hs
      rcases (h2 j hj).2 with e | ⟨d, e⟩
      · rw [e] at hs; cases hs; cases ho
      · rw [e] at hs; cases hs; cases ho
    exact ⟨hj, by rw [← b3 j hj]; exact hs⟩
  have ow : ∀ p, Own (backE ρ vs ρn) σ p → Own ρn (wipe σ vs) p := fun p ⟨j, s, o, a, b, c⟩ => by
    obtain ⟨a1, e1⟩ := old a b
    exact ⟨j, s, o, e1, b, by rw [wipe_out a1]; exact c⟩
  have owU : ∀ p, OwnU (backE ρ vs ρn) σ p → OwnU ρn (wipe σ vs) p := fun p ⟨j, o, a, c⟩ => by
    obtain ⟨a1, e1⟩ := old a rfl
    exact ⟨j, o, e1, by rw [wipe_out a1]; exact c⟩
  refine ⟨⟨Sn.fh, by rw [b1, ← hl]; exact S.len, fun j s hs => ?_, fun i j si sj oi oj p hi hj hoi hoj ei ej => ?_⟩, ⟨st.ext, st.keep, st.dom, fun p q => st.own p (ow p q), fun p q => st.ownU p (owU p q), st.frz⟩, ow⟩
  · by_cases hj : j ∈ vs
    · rw [b2 j hj] at hs
      rcases (h2 j hj).2 with e | ⟨d, e⟩
      · rw [e] at hs; cases hs; trivial
      · rw [e] at hs; cases hs
        obtain ⟨v, a, b⟩ := S.slot j _ e
        exact ⟨v, a, b.mono st.ext⟩
    · rw [b3 j hj] at hs
      exact (Sn.slot j s hs).congr (wipe_out hj).symm
  · obtain ⟨a1, e1⟩ := old hi hoi
    obtain ⟨a2, e2⟩ := old hj hoj
    exact Sn.sep i j si sj oi oj p e1 e2 hoi hoj (by rw [wipe_out a1]; exact ei) (by rw [wipe_out a2]; exact ej)
/-- an object that is nobody's changes -/
theorem Sim.touch {D' : Addr} {u : HO} (S : Sim K ρ F σ H) (hF : F D' = none) (hn : ¬ Own ρ σ D') : Sim K ρ F σ (upd H D' u) := by
  refine ⟨fun b o e => ?_, S.len, fun i s hs => (S.slot i s hs).move (.refl _) fun q u e ⟨o, ho⟩ hu => ?_, S.sep⟩
  · rw [upd_ne (ne_of_none e hF)]; exact S.fh b o e
  · have : q ≠ D' := fun z => hn ⟨i, s, o, hs, ho, z ▸ e⟩
    exact ⟨by rw [upd_ne this]; exact hu, (S.ownAt ⟨i, s, o, hs, ho, e⟩).1⟩
theorem Step.touch {ρ' : Env} {F' H' : Hp} {σ' : St} {D' : Addr} {u : HO} (st : Step ρ σ F H ρ' σ' F' H') (h0 : H D' = none) : Step ρ σ F H ρ' σ' F' (upd H' D' u) :=
  ⟨st.ext, fun a o h n => by rw [upd_ne (ne_of_none h h0)]; exact st.keep a o h n, fun a h => by
    by_cases e : a = D'
    · rw [e]; exact h0
    · rw [upd_ne e] at h; exact st.dom a h, st.own, st.ownU, st.frz⟩
end
theorem loopC_exc {turn : D → Env → Res (Option D × Env)} : ∀ {ds acc : List D} {ρ : Env} {c : Nat} {f : D} {ρ' : Env}, loopC turn ds acc ρ ≠ .exc c f ρ'
  | [], acc, ρ, c, f, ρ', h => by cases h
  | d :: ds, acc, ρ, c, f, ρ', h => by
    unfold loopC at h
    split at h
    · split at h
      · exact loopC_exc h
      · cases h
    · exact loopC_exc h
    · cases h
section
variable {fnm : Nat → Option Str} {T : Errs} {call : CallT} {k : Nat} {N : List Str}
/-- a clause's tests -/
def PrC (fnm : Nat → Option Str) (T : Errs) (call : CallT) (k : Nat) (N : List Str) (c : Mlg.Eo) : Prop :=
  ∀ (X : Cx) (W : WX) (sc : Scope) (ifs : List Expr), Cok fnm T call k N X sc → Takes X W → mIf fnm N sc c ifs = true → PTs X ifs (LB T X.K W (Mlg.test call c))
theorem PTs.imp {X : Cx} {x : List Expr} {t t' : TT} (h : PTs X x t) (i : ∀ σ H Q, t' σ H Q → t σ H Q) : PTs X x t' := ⟨fun pins s σ H Q I q => h.run pins s σ H Q I (i σ H Q q)⟩
theorem c_no : PrC fnm T call k N .no := by
  intro X W sc x C tk h
  unfold mIf at h
  try dsimp only at h
  split at h
  · exact PTs.imp pts_nil fun σ H Q q => by obtain ⟨ρ, F, S, q⟩ := q; exact q true F H .refl S rfl
  · cases h
theorem c_so {e : Mlg.E} (te : PrT fnm T call k N e) : PrC fnm T call k N (.so e) := by
  intro X W sc x C tk h
  unfold mIf at h
  try dsimp only at h
  split at h
  · rename_i x
    obtain ⟨h1, h2⟩ := and2 h
    exact PTs.imp (pts_one (te X W sc x C tk h1 h2)) fun σ H Q q => q
  · cases h
end
end Msd
/-! Sound15: [e for x in xs if t]. -/
namespace Msd
open PySem PySem.Spec PyProof.Rows L2 Mlg
section
variable {fnm : Nat → Option Str} {T : Errs} {call : CallT} {k : Nat} {N : List Str}
def turnC (call : CallT) (elt : Mlg.E) (tg : Tg) (c : Mlg.Eo) (vs : List Nat) : D → Env → Res (Option D × Env) := fun d ρ => match putTg ρ tg d with
  | none => .no
  | some ρ2 => (Mlg.test call c ρ2).bind fun t =>
    if t.1 = true then (Mlg.eval call elt t.2).bind fun r => match fix r.2 r.1 with
      | none => .no
      | some (x, ρ4) => (Res.of (wipeE ρ4 vs)).bind fun ρ5 => .ok (some x, ρ5)
    else (Res.of (wipeE t.2 vs)).bind fun ρ5 => .ok (none, ρ5)
theorem putV_len {ρ ρ2 : Env} {i : Nat} {d : D} (h : putV ρ i d = some ρ2) : ρ2.length = ρ.length := by
  unfold Mlg.putV at h
  split at h
  · cases h; rw [List.length_set]
  · cases h
theorem putVs_len' : ∀ {is : List Nat} {ds : List D} {ρ ρ1 : Env}, putVs ρ is ds = some ρ1 → ρ1.length = ρ.length
  | [], [], _, _, e => by cases e; rfl
  | [], _ :: _, _, _, e => by cases e
  | _ :: _, [], _, _, e => by cases e
  | i :: is, d :: ds, ρ, ρ1, e => by
    have e : (putV ρ i d).bind (fun ρ' => putVs ρ' is ds) = some ρ1 := e
    cases e1 : putV ρ i d with
    | none => rw [e1] at e; cases e
    | some ρ2 => rw [e1] at e; rw [putVs_len' e, putV_len e1]
theorem putTg_len {ρ ρ2 : Env} {tg : Tg} {d : D} (h : putTg ρ tg d = some ρ2) : ρ2.length = ρ.length := by
  cases tg with
  | nm i => exact putV_len h
  | tup is => cases d <;> first | (cases h; done) | exact putVs_len' h
/-- a turn that ends well -/
theorem turnC_ok {elt : Mlg.E} {tg : Tg} {c : Mlg.Eo} {vs : List Nat} {d : D} {ρ ρ5 : Env} {o : Option D} (h : turnC call elt tg c vs d ρ = .ok (o, ρ5)) : ∃ ρ2 t, putTg ρ tg d = some ρ2 ∧ Mlg.test call c ρ2 = .ok t ∧
    ((t.1 = true ∧ ∃ r x ρ4, Mlg.eval call elt t.2 = .ok r ∧ fix r.2 r.1 = some (x, ρ4) ∧ wipeE ρ4 vs = some ρ5 ∧ o = some x) ∨ (t.1 = false ∧ wipeE t.2 vs = some ρ5 ∧ o = none)) := by
  unfold turnC at h
  cases e1 : putTg ρ tg d with
  | none => rw [e1] at h; cases h
  | some ρ2 =>
    rw [e1] at h
    dsimp only at h
    cases e2 : Mlg.test call c ρ2 with
    | no => rw [e2] at h; cases h
    | exc _ _ _ => rw [e2] at h; cases h
    | ok t =>
      rw [e2] at h
      replace h : (if t.1 = true then (Mlg.eval call elt t.2).bind fun r => match fix r.2 r.1 with
          | none => .no
          | some (x, ρ4) => (Res.of (wipeE ρ4 vs)).bind fun ρ5 => .ok (some x, ρ5)
        else (Res.of (wipeE t.2 vs)).bind fun ρ5 => .ok (none, ρ5)) = .ok (o, ρ5) := h
      refine ⟨ρ2, t, rfl, e2, ?_⟩
      split at h
      · rename_i ht
        refine .inl ⟨ht, ?_⟩
        cases e3 : Mlg.eval call elt t.2 with
        | no => rw [e3] at h; cases h
        | exc _ _ _ => rw [e3] at h; cases h
        | ok r =>
          rw [e3] at h
          replace h : (match fix r.2 r.1 with
            | none => .no
            | some (x, ρ4) => (Res.of (wipeE ρ4 vs)).bind fun ρ5 => .ok (some x, ρ5)) = Res.ok (o, ρ5) := h
          cases e4 : fix r.2 r.1 with
          | none => rw [e4] at h; cases h
          | some p =>
            obtain ⟨x, ρ4⟩ := p
            rw [e4] at h
            dsimp only at h
            cases e5 : wipeE ρ4 vs with
            | none => rw [e5] at h; cases h
            | some ρ6 => rw [e5] at h; cases h; exact ⟨r, x, ρ4, rfl, e4, e5, rfl⟩
      · rename_i ht
        refine .inr ⟨by simpa using ht, ?_⟩
        cases e5 : wipeE t.2 vs with
        | none => rw [e5] at h; cases h
        | some ρ6 => rw [e5] at h; cases h; exact ⟨rfl, rfl⟩
/-- the reading of the whole -/
theorem lc_ok {K : Frag} {W : WX} {elt : Mlg.E} {tg : Tg} {it : Mlg.It} {c : Mlg.Eo} {vs : List Nat} {σ : St} {H : Hp} {Q : VK} (htg : ∀ j ∈ tgSlots tg, j ∈ vs)
    (h : LE T K W (Mlg.eval call (.lc elt tg it c vs)) σ H Q) : tLc (LW T K W (Mlg.walk call it)) (gTg K tg) (LB T K (fun _ _ _ _ => False) (Mlg.test call c)) (LE T K (fun _ _ _ _ => False) (Mlg.eval call elt)) vs σ H Q := by
  obtain ⟨ρ, F, S, h⟩ := h
  refine ⟨ρ, F, S, ?_⟩
  replace h : Out T K W ρ F σ H (relE K σ) ((Mlg.walk call it ρ).bind fun p => match wipeE p.2 vs with
      | none => .no
      | some ρ1 => (loopC (turnC call elt tg c vs) p.1.1 [] ρ1).bind fun q => (Res.of (unlockE (backE p.2 vs q.2) p.1.2)).bind fun ρ' => .ok (.tmp (.lst q.1), ρ')) Q := h
  cases ew : Mlg.walk call it ρ with
  | no => rw [ew] at h; exact h
  | exc _ _ _ => rw [ew] at h; exact h
  | ok p =>
    rw [ew] at h
    obtain ⟨⟨ds, lk⟩, ρp⟩ := p
    replace h : Out T K W ρ F σ H (relE K σ) (match wipeE ρp vs with
      | none => .no
      | some ρ1 => (loopC (turnC call elt tg c vs) ds [] ρ1).bind fun q => (Res.of (unlockE (backE ρp vs q.2) lk)).bind fun ρ' => .ok (.tmp (.lst q.1), ρ')) Q := h
    intro J Fp H1 P stp Sp gs hP hlk D' hD
    cases e1 : wipeE ρp vs with
    | none => rw [e1] at h; exact h.elim
    | some ρ1 =>
      rw [e1] at h
      dsimp only at h
      obtain ⟨Sw, stw⟩ := wipe_ok Sp e1
      have hPw := gs.stays _ _ _ _ _ _ _ _ hP stw
      cases el : loopC (turnC call elt tg c vs) ds [] ρ1 with
      | no => rw [el] at h; exact h.elim
      | exc _ _ _ => exact absurd el loopC_exc
      | ok q =>
        rw [el] at h
        -- the invariant of the turns
        refine ⟨fun i m Hi => m = ds.length - i ∧ i ≤ ds.length ∧ ∃ ρi Fi acc accV, Sim K ρi Fi (wipe σ vs) Hi ∧ Step ρ1 (wipe σ vs) Fp H1 ρi (wipe σ vs) Fi Hi ∧ Hi D' = some (.lst accV) ∧ Reps K Fi accV acc ∧ Fi D' = none ∧ ¬ Own ρi (wipe σ vs) D' ∧
            loopC (turnC call elt tg c vs) (ds.drop i) acc ρi = .ok q, ⟨ds.length, by simp, Nat.zero_le _, ρ1, Fp, [], [], ?_⟩, ?_⟩
        · have n := Sw.new hD
          exact ⟨Sw.laid hD, Step.laid hD, upd_same, .nil, n.1, n.2, by simpa using el⟩
        · rintro i m Hi ⟨rfl, hi, ρi, Fi, acc, accV, Si, sti, hDi, hacc, hFD, hnD, eq⟩
          have hPi := gs.stays _ _ _ _ _ _ _ _ hPw sti
          by_cases hlt : i < ds.length
          · refine .inr ⟨gs.go i ρi Fi _ Hi hlt hPi Si, fun H' => ∃ ρi Fi acc accV, Sim K ρi Fi (wipe σ vs) H' ∧ Step ρ1 (wipe σ vs) Fp H1 ρi (wipe σ vs) Fi H' ∧ H' D' = some (.lst accV) ∧ Reps K Fi accV acc ∧ Fi D' = none ∧ ¬ Own ρi (wipe σ vs) D' ∧
              loopC (turnC call elt tg c vs) (ds.drop (i + 1)) acc ρi = .ok q, fun H' hN => ⟨ds.length - (i + 1), by omega, rfl, hlt, hN⟩, fun x H' y => ?_⟩
            have ed : ds[i]? = some ds[i] := List.getElem?_eq_getElem hlt
            obtain ⟨F', st', S', hx⟩ := gs.yld i _ ρi Fi _ Hi x H' ed hPi Si y
            rw [List.drop_eq_getElem_cons hlt] at eq
            unfold loopC at eq
            -- the turn's own end
            have tail : ∀ o ρ5, turnC call elt tg c vs ds[i] ρi = .ok (o, ρ5) → gTg K tg x (wipe σ vs) H' fun σ2 H2 => wipe σ2 vs = wipe σ vs ∧ LB T K (fun _ _ _ _ => False) (Mlg.test call c) σ2 H2 fun b H3 =>
                if b = true then LE T K (fun _ _ _ _ => False) (Mlg.eval call elt) σ2 H3 fun y H4 => ∃ acc, H4 D' = some (.lst acc) ∧ acc.length < sizeLine ∧ (∃ ρi Fi ac accV, Sim K ρi Fi (wipe σ vs) (upd H4 D' (.lst (acc ++ [y]))) ∧ Step ρ1 (wipe σ vs) Fp H1 ρi (wipe σ vs) Fi (upd H4 D' (.lst (acc ++ [y]))) ∧ (upd H4 D' (.lst (acc ++ [y]))) D' = some (.lst accV) ∧ Reps K Fi accV ac ∧ Fi D' = none ∧ ¬ Own ρi (wipe σ vs) D' ∧
                    loopC (turnC call elt tg c vs) (ds.drop (i + 1)) ac ρi = .ok q)
                else ∃ ρi Fi acc accV, Sim K ρi Fi (wipe σ vs) H3 ∧ Step ρ1 (wipe σ vs) Fp H1 ρi (wipe σ vs) Fi H3 ∧ H3 D' = some (.lst accV) ∧ Reps K Fi accV acc ∧ Fi D' = none ∧ ¬ Own ρi (wipe σ vs) D' ∧
                    loopC (turnC call elt tg c vs) (ds.drop (i + 1)) acc ρi = .ok q := by
              intro o ρ5 et
              obtain ⟨ρ2, t, t1, t2, t3⟩ := turnC_ok et
              refine tg_ok (fx := fun j => !vs.contains j) S' hx t1 (fun j hj => by simp [htg j hj]) fun σ2 S2 st2 _ ot => ?_
              have hw : wipe σ2 vs = wipe σ vs := wipe_same (by rw [← S2.len, putTg_len t1, S'.len, wipe_length]) fun j hj => ot j fun z => hj (htg j z)
              refine ⟨hw, ρ2, F', S2, ?_⟩
              rw [t2]
              intro b F3 H3 st3 S3 rb
              have rb : b = t.1 := rb
              have d0 : Hi D' ≠ none := by rw [hDi]; exact fun z => by cases z
              have st03 := (st'.trans st2).trans st3
              rcases t3 with ⟨tb, r, xx, ρ4, e3, e4, e5, eo⟩ | ⟨tb, e5, eo⟩
              · rw [rb, tb, if_pos rfl]
                refine ⟨t.2, F3, S3, ?_⟩
                rw [e3]
                intro y F4 H4 st4 S4 ry
                obtain ⟨F5, st5, S5, hy⟩ := fix_step st4 S4 ry e4
                have st05 := st03.trans st5
                have hD4 : H4 D' = some (.lst accV) := st05.keep D' _ hDi fun q => hnD q.own
                obtain ⟨S6, st6⟩ := wipe_ok S5 e5
                rw [hw] at S6 st6
                have st06 := st05.trans st6
                have hF5 : F5 D' = none := st06.frz D' hFD d0 (fun q => hnD q.own) (fun vs e => by rw [hDi] at e; cases e)
                have hn6 : ¬ Own ρ5 (wipe σ vs) D' := fun q => (st06.own D' q).elim hnD d0
                rw [et, eo] at eq
                dsimp only at eq
                split at eq
                · rename_i cs
                  refine ⟨accV, hD4, ?_, ρ5, F5, acc ++ [xx], accV ++ [y], S6.touch hF5 hn6, (sti.trans st06).touch hD, upd_same, (hacc.mono st06.ext).append (.cons hy .nil), hF5, hn6, eq⟩
                  rw [hacc.length]
                  exact Nat.lt_of_lt_of_le (of_decide_eq_true cs) lim_le
                · cases eq
              · rw [rb, tb, if_neg Bool.false_ne_true]
                obtain ⟨S6, st6⟩ := wipe_ok S3 e5
                rw [hw] at S6 st6
                have st06 := st03.trans st6
                rw [et, eo] at eq
                dsimp only at eq
                exact ⟨ρ5, F3, acc, accV, S6, sti.trans st06, st06.keep D' _ hDi (fun q => hnD q.own), hacc.mono st06.ext, st06.frz D' hFD d0 (fun q => hnD q.own) (fun vs e => by rw [hDi] at e; cases e), fun q => (st06.own D' q).elim hnD d0, eq⟩
            cases et : turnC call elt tg c vs ds[i] ρi with
            | no => rw [et] at eq; cases eq
            | exc _ _ _ => rw [et] at eq; cases eq
            | ok pr => exact tail pr.1 pr.2 et
          · have ei : i = ds.length := by omega
            subst ei
            refine .inl ⟨gs.stop ρi Fi _ Hi hPi Si, ?_⟩
            rw [List.drop_length] at eq
            cases eq
            obtain ⟨Sb, stb, owb⟩ := back_ok Sp e1 (stw.trans sti) Si
            have h0 : H D' = none := stp.dom D' hD
            have hnb : ¬ Own (backE ρp vs ρi) σ D' := fun q => hnD (owb D' q)
            cases lk with
            | none => exact h (.ref D') Fi Hi (stp.trans stb) Sb ⟨D', rfl, hFD, ⟨accV, hDi, hacc⟩, hnb, h0⟩
            | some j =>
              obtain ⟨pp, hp1, hp2⟩ := hlk j rfl
              replace h : Out T K W ρ F σ H (relE K σ) ((Res.of (match (backE ρp vs ρi)[j]? with
                | some (.lck o) => some ((backE ρp vs ρi).set j (.own o))
                | _ => none)).bind fun ρ' => .ok (.tmp (.lst acc), ρ')) Q := h
              split at h
              · rename_i o eo
                obtain ⟨Su, stu⟩ := Sb.unlock (stp.trans stb) eo hp2 hp1
                refine h (.ref D') Fi Hi stu Su ⟨D', rfl, hFD, ⟨accV, hDi, hacc⟩, fun q => ?_, h0⟩
                obtain ⟨j', s', o', a1, a2, a3⟩ := q
                rcases isOwn_set (lt_of_get eo) a1 a2 with ⟨rfl, _⟩ | ⟨_, hj⟩
                · exact hnb ⟨_, _, o, eo, rfl, a3⟩
                · exact hnb ⟨j', s', o', hj, a2, a3⟩
              · exact h.elim

theorem Cok.blk {X : Cx} {sc : Scope} (C : Cok fnm T call k N X sc) (s : Shared) (H : Hp) (scope : Scope) (cl : List (Str × Addr)) (Ca : Addr) (fp : List Addr) : Cok fnm T call k N (X.blk s H scope (compEnvC scope cl Ca X.env) fp) (relS scope sc) :=
  ⟨C.hN, C.nd, by rw [← C.hsc]; rfl, C.calm, C.room, C.G⟩
theorem ownOf_map {N : List Str} {vs : List Nat} (h : decide ((ownOf N vs).map (·.2) = vs) = true) : (ownOf N vs).map (·.2) = vs := of_decide_eq_true h
theorem relS_fn {scope sc : Scope} {x : Str} (h : locB (relS scope sc) x = true) : True := trivial
theorem plain_folded {i : Expr} {env : PySem.Env} (h : plainX i = true) (x : Value) : foldedSetIterable i env x = pure x := by
  cases i <;> first | rfl | cases h
theorem enuT_of {N : List Str} {sc : Scope} {fx : Nat → Bool} {it : Mlg.It} {tg : Tg} {t : Expr} (h : tgB N sc fx tg t = true) (he : enuB it tg = true) : enuT it t := by
  cases it <;> try exact trivial
  all_goals
    cases tg with
    | nm _ => cases he
    | tup is =>
      unfold tgB at h
      cases t <;> first | (cases h; done) | skip
      exact ⟨_, _, _, rfl⟩

theorem relS_loc {scope sc : Scope} {x : Str} (h : locB scope x = true) : Loc (relS scope sc) x ∧ ((scope.names.lookup x == some .cell) = true ∨ (relS scope sc).names.lookup x = some .local) := by
  unfold locB at h
  split at h
  · rename_i e
    have := lookup_relS_keep (sc := sc) (by decide) e
    exact ⟨.inl this, .inr this⟩
  · rename_i e
    have := lookup_relS_keep (sc := sc) (by decide) e
    exact ⟨.inr this, .inl (by rw [e]; rfl)⟩
  · cases h
/-- the parts of a comprehension -/
theorem lc_parts {elt : Mlg.E} {tg : Tg} {it : Mlg.It} {c : Mlg.Eo} {vs : List Nat} (ii : PrI fnm T call k N it) (ic : PrC fnm T call k N c) (ie : PrE fnm T call k N elt) {X : Cx} {W : WX} {sc : Scope} {x t i : Expr} {ifs : List Expr} {scope : Scope} (C : Cok fnm T call k N X sc) (tk : Takes X W)
    (h : (blkC N sc scope (ownOf N vs) && decide ((ownOf N vs).map (·.2) = vs) && plainX i && tgB N scope (fun j => !vs.contains j) tg t && enuB it tg && (mIt fnm N sc it i && mIf fnm N (relS scope sc) c ifs && mE fnm N (relS scope sc) elt x)) = true) :
    PI X t i (LW T X.K W (Mlg.walk call it)) ∧ BlkOk X.N X.env.scope scope (ownOf N vs) ∧ (ownOf N vs).map (·.2) = vs ∧ plainX i = true ∧ (∀ j ∈ tgSlots tg, j ∈ vs) ∧
    (∀ (s : Shared) (H : Hp) (Ca : Addr) (cl : List (Str × Addr)) (fp : List Addr), PG (X.blk s H scope (compEnvC scope cl Ca X.env) fp) t (gTg X.K tg)) ∧
    (∀ (s : Shared) (H : Hp) (Ca : Addr) (cl : List (Str × Addr)) (fp : List Addr), PTs (X.blk s H scope (compEnvC scope cl Ca X.env) fp) ifs (LB T X.K (fun _ _ _ _ => False) (Mlg.test call c))) ∧
    (∀ (s : Shared) (H : Hp) (Ca : Addr) (cl : List (Str × Addr)) (fp : List Addr), PE (X.blk s H scope (compEnvC scope cl Ca X.env) fp) x (LE T X.K (fun _ _ _ _ => False) (Mlg.eval call elt))) := by
  obtain ⟨h1, h2, h3⟩ := and3 h
  obtain ⟨h3, h4, h5⟩ := and3 h3
  obtain ⟨h1, hp, ht⟩ := and3 h1
  obtain ⟨hb, hm⟩ := and2 h1
  refine ⟨ii X W sc i t C tk (enuT_of ht h2) h3, by rw [C.hN, C.hsc]; exact blkOk_by hb, of_decide_eq_true hm, hp, fun j hj => ?_, fun s H Ca cl fp => ?_, fun s H Ca cl fp => ?_, fun s H Ca cl fp => ?_⟩
  · have := tg_fx ht j hj
    simpa using this
  · refine pg_tg C.hN C.nd (fun x hx => ?_) C.calm (fun x hx => ?_) ht
    · show Loc (relS scope X.env.scope) x
      exact (relS_loc hx).1
    · rcases (relS_loc (sc := X.env.scope) hx).2 with z | z
      · exact .inl z
      · exact .inr z
  · exact ic _ _ _ _ (C.blk s H scope cl Ca fp) takes0 h4
  · exact ie _ _ _ _ (C.blk s H scope cl Ca fp) takes0 h5
theorem e_lc {elt : Mlg.E} {tg : Tg} {it : Mlg.It} {c : Mlg.Eo} {vs : List Nat} (ii : PrI fnm T call k N it) (ic : PrC fnm T call k N c) (ie : PrE fnm T call k N elt) : PrE fnm T call k N (.lc elt tg it c vs) := by
  intro X W sc x C tk h
  unfold mE at h
  try dsimp only at h
  split at h
  · rename_i x t i ifs scope pos
    obtain ⟨p1, p2, p3, p4, p5, p6, p7, p8⟩ := lc_parts ii ic ie C tk h
    refine PE.imp (pe_lc C.calm (by rw [C.hN]; exact C.nd) p1 p2 p6 p7 p8 (fun x => plain_folded p4 x)) fun σ H Q q => ?_
    rw [p3]
    exact lc_ok p5 q
  · cases h
end
end Msd
/-! SoundR: list(range(..)), tuple(range(..)). -/
namespace Msd
open PySem PySem.Spec PyProof.Rows L2 Mlg
section
variable {fnm : Nat → Option Str} {T : Errs} {call : CallT} {k : Nat} {N : List Str}
theorem reps_rg {K : Frag} {F : Hp} (a b : Int) : Reps K F (rgV a b) (rangeL a b) := by
  unfold rgV rangeL
  generalize List.range (b - a).toNat = l
  induction l with
  | nil => exact .nil
  | cons n l ih => exact .cons (.int _) ih
theorem rgOk {i j : Int} (h1 : rangeOk i = true) (h2 : rangeOk j = true) : RgOk i j := by
  obtain ⟨a, b⟩ := and2 h1
  obtain ⟨c, d⟩ := and2 h2
  have a := of_decide_eq_true a
  have b := of_decide_eq_true b
  have c := of_decide_eq_true c
  have d := of_decide_eq_true d
  exact ⟨by omega, by omega, by omega, by omega, by omega⟩
/-- a list or a tuple of a range -/
theorem pe_rg {X : Cx} {sc : Scope} {l : Bool} {n : Str} {e : Expr} {te : L2.St → Hp → (Int → Int → Hp → Prop) → Prop} {p pos : Pos} (C : Cok fnm T call k N X sc) (hn : bltB sc (if l = true then "list" else "tuple") n = true) (he : PRg X e te) (hp : plainX e = true) :
    PE X (.Call (.Name n p) [e] [] pos) (fun σ H Q => te σ H fun a b H1 => RgOk a b ∧ ∀ q, H1 q = none → Q (.ref q) (upd H1 q (if l = true then .lst (rgV a b) else .tup (rgV a b)))) := by
  cases l with
  | true =>
    obtain ⟨rfl, hg⟩ := bltB_ok hn
    exact pe_listRg C.calm (by show X.env.scope.names.lookup _ = _; rw [C.hsc]; exact hg) (C.G.bl _ (by decide)) he (starEach_plain hp)
  | false =>
    obtain ⟨rfl, hg⟩ := bltB_ok hn
    exact pe_tupRg C.calm (by show X.env.scope.names.lookup _ = _; rw [C.hsc]; exact hg) (C.G.bl _ (by decide)) he (starEach_plain hp)
theorem out_rg {K : Frag} {W : WX} {ρ : Env} {F H : Hp} {σ : L2.St} {Q : VK} {l : Bool} {i j : Int} {q : Addr} (S : Sim K ρ F σ H) (h : Out T K W ρ F σ H (relE K σ) (.ok (if l = true then .tmp (.lst (rangeL i j)) else .val (.tuple (rangeL i j)), ρ)) Q) (hq : H q = none) : Q (.ref q) (upd H q (if l = true then .lst (rgV i j) else .tup (rgV i j))) := by
  cases l with
  | true => exact out_lst S h (reps_rg i j) hq
  | false => exact out_tup S h (reps_rg i j) hq
theorem e_rg1 (l : Bool) {a : Mlg.E} (ia : PrE fnm T call k N a) : PrE fnm T call k N (.rg1 l a) := by
  intro X W sc x C tk h
  unfold mE at h
  try dsimp only at h
  split at h
  · rename_i n p m pm y py pos
    obtain ⟨h1, hp, h2⟩ := and3 h
    obtain ⟨hn, hm⟩ := and2 h1
    obtain ⟨rfl, hg⟩ := bltB_ok hm
    refine PE.imp (pe_rg C hn (prg_1 (by show X.env.scope.names.lookup _ = _; rw [C.hsc]; exact hg) (C.G.bl _ (by decide)) (ia X W sc y C tk h2) (starEach_plain hp)) rfl) fun σ H Q q => ?_
    obtain ⟨ρ, F, S, q⟩ := q
    refine ⟨ρ, F, S, Out.bind back_E q fun r1 ρ1 v F1 H1 s1 S1 rl1 h1 => ?_⟩
    cases r1 with
    | tmp _ => exact h1.elim
    | loc _ => exact h1.elim
    | val d =>
      cases d <;> first | exact h1.elim | skip
      rename_i i
      try dsimp only at h1
      split at h1
      · rename_i c
        cases rl1
        exact ⟨i, rfl, rgOk (by decide) c, fun q hq => out_rg S1 h1 hq⟩
      · exact h1.elim
  · cases h
theorem e_rg2 (l : Bool) {a b : Mlg.E} (ia : PrE fnm T call k N a) (ib : PrE fnm T call k N b) : PrE fnm T call k N (.rg2 l a b) := by
  intro X W sc x C tk h
  unfold mE at h
  try dsimp only at h
  split at h
  · rename_i n p m pm y z py pos
    obtain ⟨h1, hpz, h2⟩ := and3 h
    obtain ⟨hn0, hm, hpy⟩ := and3 h1
    obtain ⟨h2, h3⟩ := and2 h2
    obtain ⟨rfl, hg⟩ := bltB_ok hm
    refine PE.imp (pe_rg C hn0 (prg_2 (by show X.env.scope.names.lookup _ = _; rw [C.hsc]; exact hg) (C.G.bl _ (by decide)) (ia X W sc y C tk h2) (ib X W sc z C tk h3) (starEach_plain hpy) (starEach_plain hpz) (by rw [starEach_plain hpz]; rfl)) rfl) fun σ H Q q => ?_
    obtain ⟨ρ, F, S, q⟩ := q
    refine ⟨ρ, F, S, Out.bind back_E q fun r1 ρ1 v F1 H1 s1 S1 rl1 h1 => ⟨ρ1, F1, S1, Out.bind back_E h1 fun r2 ρ2 u F2 H2 s2 S2 rl2 h2 => ?_⟩⟩
    cases r1 with
    | tmp _ => exact h2.elim
    | loc _ => exact h2.elim
    | val d =>
      cases d <;> first | exact h2.elim | skip
      rename_i i
      cases r2 with
      | tmp _ => exact h2.elim
      | loc _ => exact h2.elim
      | val d =>
        cases d <;> first | exact h2.elim | skip
        rename_i j
        try dsimp only at h2
        split at h2
        · rename_i c
          obtain ⟨c1, c2⟩ := and2 c
          cases rl1
          cases rl2
          exact ⟨i, j, rfl, rfl, rgOk c1 c2, fun q hq => out_rg S2 h2 hq⟩
        · exact h2.elim
  · cases h
/-! ### range with a step -/
theorem stepL_len (lo hi c : Int) : (stepL lo hi c).length = stepN lo hi c := by simp [stepL]
theorem stepL_get {lo hi c : Int} {i : Nat} {d : D} (h : (stepL lo hi c)[i]? = some d) : d = .int (lo + (i : Nat) * c) := by
  unfold stepL at h
  rw [List.getElem?_map] at h
  obtain ⟨j, h1, h2⟩ := Option.map_eq_some_iff.mp h
  have : j = i := by
    have := (List.getElem?_eq_some_iff.mp h1)
    obtain ⟨a, b⟩ := this
    rw [List.getElem_range] at b
    exact b.symm
  subst this
  exact h2.symm
theorem goes_step {K : Frag} (lo hi c : Int) : Goes K (Itc lo c (stepN lo hi c)) (stepL lo hi c) (fun _ _ _ _ => True) where
  go := fun i ρ F σ H h _ _ => by rw [stepL_len] at h; exact h
  stop := fun ρ F σ H _ _ => by rw [stepL_len]; exact Nat.le_refl _
  yld := fun i d ρ F σ H x H' hd _ S y => by
    obtain ⟨rfl, rfl⟩ := y
    rw [stepL_get hd]
    exact ⟨F, .refl, S, .int _⟩
  stays := fun _ _ _ _ _ _ _ _ _ _ => trivial
theorem rgC {i j c : Int} (h1 : rangeOk i = true) (h2 : rangeOk j = true) (h3 : rangeOk c = true) (h4 : 0 < c) : RgC i j c (stepN i j c) := by
  obtain ⟨a, b⟩ := and2 h1
  obtain ⟨d, e⟩ := and2 h2
  obtain ⟨f, g⟩ := and2 h3
  have a := of_decide_eq_true a
  have b := of_decide_eq_true b
  have d := of_decide_eq_true d
  have e := of_decide_eq_true e
  have g := of_decide_eq_true g
  have rs : Builtin.Range.rangeSize i j c = if i < j then (j - i - 1) / c + 1 else 0 := by
    unfold Builtin.Range.rangeSize
    rw [if_pos (show c > 0 from h4)]
  have q0 : i < j → 0 ≤ (j - i - 1) / c := fun h => Int.ediv_nonneg (by omega) (by omega)
  have q1 : i < j → (j - i - 1) / c ≤ j - i - 1 := fun h => Int.ediv_le_self _ (by omega)
  have q2 : (j - i - 1) / c * c ≤ j - i - 1 := Int.ediv_mul_le _ (by omega)
  refine ⟨by omega, by omega, ?_, ?_⟩
  · unfold Builtin.Range.small
    rw [rs]
    simp only [Builtin.Range.rangeFitsLong, Bool.and_eq_true, Bool.or_eq_true, decide_eq_true_eq, beq_iff_eq, show c > 0 from h4, if_true]
    split
    · rename_i hij
      have := q0 hij
      have := q1 hij
      generalize (j - i - 1) / c = z at *
      omega
    · omega
  · rw [rs]
    unfold stepN
    split
    · rename_i hij
      have := q0 hij
      omega
    · rfl
theorem i_r3 {a b c : Mlg.E} (ia : PrE fnm T call k N a) (ib : PrE fnm T call k N b) (ic : PrE fnm T call k N c) : PrI fnm T call k N (.r3 a b c) := by
  intro X W sc x tg C tk _ h
  unfold mIt at h
  try dsimp only at h
  split at h
  · rename_i n p x y z pos
    obtain ⟨h0, hpz, h1⟩ := and3 h
    obtain ⟨hn, hpx, hpy⟩ := and3 h0
    obtain ⟨h1, h2, h3⟩ := and3 h1
    obtain ⟨rfl, hg⟩ := bltB_ok hn
    refine PI.imp (pi_range3 (by show X.env.scope.names.lookup _ = _; rw [C.hsc]; exact hg) (C.G.bl _ (by decide)) (pa_cons (ia X W sc x C tk h1) (pa_cons (ib X W sc y C tk h2) (pa_cons (ic X W sc z C tk h3) pa_nil (starEach_plain hpz)) (starEach_plain hpy)) (starEach_plain hpx)) (starEach_plain hpx) (by rw [starEach_plain hpy, starEach_plain hpz]; rfl)) fun σ H R' q => ?_
    obtain ⟨ρ, F, S, q⟩ := q
    refine ⟨ρ, F, S, OutW.bind q fun r1 ρ1 v F1 H1 st S1 rl h => ⟨ρ1, F1, S1, OutW.bind1 (Rl := relE X.K σ) st h fun r2 ρ2 v2 F2 H2 st2 S2 rl2 h' => ⟨ρ2, F2, S2, OutW.bind1 (Rl := relE X.K σ) (st.trans st2) h' fun r3 ρ3 v3 F3 H3 st3 S3 rl3 h'' => ?_⟩⟩⟩
    clear h h'
    have h := h''
    clear h''
    cases r1 with
    | tmp _ => exact h.elim
    | loc _ => exact h.elim
    | val d =>
    cases d <;> first | exact h.elim | skip
    rename_i i
    cases r2 with
    | tmp _ => exact h.elim
    | loc _ => exact h.elim
    | val d =>
    cases d <;> first | exact h.elim | skip
    rename_i j
    cases r3 with
    | tmp _ => exact h.elim
    | loc _ => exact h.elim
    | val d =>
    cases d <;> first | exact h.elim | skip
    rename_i m
    try dsimp only at h
    split at h
    · rename_i c
      cases rl
      cases rl2
      cases rl3
      obtain ⟨c1, c2, c3⟩ := and3 c
      obtain ⟨c0, c1⟩ := and2 c1
      exact ⟨i, j, m, _, rfl, rgC c0 c1 c2 (of_decide_eq_true c3), h _ F3 H3 _ ((st.trans st2).trans st3) S3 (goes_step i j m) trivial lock_none⟩
    · exact h.elim
  · cases h
end
end Msd
/-! SoundE: dicts made, asked, walked. -/
namespace Msd
open PySem PySem.Spec PyProof.Rows L2 Mlg
section
variable {fnm : Nat → Option Str} {T : Errs} {call : CallT} {k : Nat} {N : List Str}
theorem e_dnew (t : Bool) : PrE fnm T call k N (.dnew t) := by
  intro X W sc x C tk h
  unfold mE at h
  try dsimp only at h
  split at h
  · cases t with
    | false =>
      refine PE.imp pe_dnewK fun σ H Q q => ?_
      obtain ⟨ρ, F, S, q⟩ := q
      unfold Mlg.eval at q
      exact fun p hp => q (.ref p) F _ (Step.laid hp) (S.laid hp) ⟨p, rfl, (S.new hp).1, ⟨[], [], [], upd_same, rfl, .nil, rfl⟩, (S.new hp).2, hp⟩
    | true =>
      refine PE.imp pe_dnewT fun σ H Q q => ?_
      obtain ⟨ρ, F, S, q⟩ := q
      unfold Mlg.eval at q
      exact fun p hp => q (.ref p) F _ (Step.laid hp) (S.laid hp) ⟨p, rfl, (S.new hp).1, ⟨[], [], [], upd_same, rfl, .nil, rfl⟩, (S.new hp).2, hp⟩
  · cases h
theorem e_dsp {a b : Mlg.E} (ia : PrE fnm T call k N a) (ib : PrE fnm T call k N b) : PrE fnm T call k N (.dsp a b) := by
  intro X W sc x C tk h
  unfold mE at h
  try dsimp only at h
  split at h
  · rename_i y z pos
    obtain ⟨h1, h2⟩ := and2 h
    refine PE.imp (pe_dsp (by have := C.room.un; omega) (ia X W sc y C tk h1) (ib X W sc z C tk h2)) fun σ H Q q => ?_
    obtain ⟨ρ, F, S, q⟩ := q
    unfold Mlg.eval at q
    intro p hp
    have st0 : Step ρ σ F H ρ σ F (upd H p (.dT [])) := Step.laid hp
    have S0 : Sim X.K ρ F σ (upd H p (.dT [])) := S.laid hp
    refine ⟨ρ, F, S0, Out.bind1 st0 q fun r1 ρ1 v F1 H1 st1 S1 rl1 h1 => ⟨ρ1, F1, S1, Out.bind1 (Rl := relE X.K σ) (st0.trans st1) h1 fun r2 ρ2 w F2 H2 st2 S2 rl2 h2 => ?_⟩⟩
    cases r1 with
    | tmp _ => exact h2.elim
    | loc _ => exact h2.elim
    | val kd =>
      cases ef : fix ρ2 r2 with
      | none => rw [ef] at h2; exact h2.elim
      | some pr =>
        obtain ⟨d, ρ'⟩ := pr
        rw [ef] at h2
        dsimp only at h2
        split at h2
        · rename_i ck
          obtain ⟨F', st', S', hr⟩ := fix_step st2 S2 rl2 ef
          have stA := st1.trans st'
          have hn0 : ¬ Own ρ σ p := (S.new hp).2
          have e0 : (upd H p (.dT [])) p = some (.dT []) := upd_same
          have hH2 : H2 p = some (.dT []) := stA.keep p _ e0 fun q => hn0 q.own
          have hF' : F' p = none := stA.frz p (S.new hp).1 (by rw [e0]; exact fun z => by cases z) (fun q => hn0 q.own) fun vs e => by rw [e0] at e; cases e
          have hn' : ¬ Own ρ' σ p := fun q => (stA.own p q).elim hn0 fun z => by rw [e0] at z; cases z
          have rk : Rep X.K F' v kd := Rep.mono st'.ext rl1
          obtain ⟨key, b, rfl, hb, rfl⟩ := keyT_ok S'.fh ck rk
          refine ⟨b, key, rfl, hb, hH2, h2 (.ref p) F' _ ((st0.trans stA).touch hp) (S'.touch hF' hn') ⟨p, rfl, hF', ⟨[key], [w], [d], upd_same, rfl, .cons hr .nil, rfl⟩, hn', hp⟩⟩
        · exact h2.elim
  · cases h
/-! ### y in d -/
section
variable {X : Cx}
def rDin (neg : Bool) : R2 := fun y x H Q => ∃ a o, x = .ref a ∧ DGet H a y o ∧ Q (.bl (neg != o.isSome)) H
theorem op_din (neg : Bool) (hu : X.A.units + 1 < cLine) : OpR X (compareOp (if neg = true then CmpOp.NotIn else CmpOp.In)) (rDin neg) := by
  intro pins s σ H x y v u Q I rx ry h
  obtain ⟨a, o, rfl, g, q⟩ := h
  obtain rfl : u = Value.ref a := ry
  cases neg with
  | false => exact d_in hu I g rx fun s' I' => ⟨.bl o.isSome, H, I', rfl, by simpa using q⟩
  | true => exact d_notIn hu I g rx fun s' I' => ⟨.bl (!o.isSome), H, I', rfl, by simpa using q⟩
end
theorem din_ok {neg : Bool} {a : Mlg.E} {i : Nat} {K : Frag} {W : WX} {σ : St} {H : Hp} {Q : VK} (q : LE T K W (Mlg.eval call (.din neg a i)) σ H Q) : tOp (rDin neg) (LE T K W (Mlg.eval call a)) (tVar i) σ H Q := by
  obtain ⟨ρ, F, S, q⟩ := q
  unfold Mlg.eval at q
  refine ⟨ρ, F, S, Out.bind back_E q fun r1 ρ1 v F1 H1 s1 S1 rl1 h1 => ?_⟩
  cases r1 with
  | tmp _ => exact h1.elim
  | loc _ => exact h1.elim
  | val kd =>
    dsimp only at h1
    split at h1
    · rename_i kd' t kvs e1 e2
      cases e1
      split at h1
      · rename_i ck
        obtain ⟨p, g1, g2, g3⟩ := S1.slot i _ e2
        obtain ⟨o, d1, d2, d3⟩ := dic_get S1.fh g3 ck rl1
        rw [d3] at h1
        exact ⟨.ref p, g1, p, o, rfl, d1, out_val S1 h1 (.bl _)⟩
      · exact h1.elim
    · exact h1.elim
theorem e_din (neg : Bool) (i : Nat) {a : Mlg.E} (ia : PrE fnm T call k N a) : PrE fnm T call k N (.din neg a i) ∧ PrT fnm T call k N (.din neg a i) := by
  have key : ∀ (X : Cx) (W : WX) (sc : Scope) (x : Expr), Cok fnm T call k N X sc → Takes X W → mE fnm N sc (.din neg a i) x = true → ∃ x' y p p', x = .Compare x' [if neg = true then CmpOp.NotIn else CmpOp.In] [.Name y p'] p ∧ PE X x' (LE T X.K W (Mlg.eval call a)) ∧ PE X (.Name y p') (tVar i) := by
    intro X W sc x C tk h
    unfold mE at h
    try dsimp only at h
    split at h
    · rename_i x' op y p' p
      obtain ⟨h1, hn, h2⟩ := and3 h
      obtain ⟨ho, hN, hv⟩ := and3 h1
      obtain ⟨n1, n2, _⟩ := nameB_ok hn
      have e : op = if neg = true then CmpOp.NotIn else CmpOp.In := of_decide_eq_true ho
      subst e
      exact ⟨x', y, p, p', rfl, ia X W sc x' C tk h2, pe_var (i := i) (by rw [C.hN]; exact of_decide_eq_true hN) (by rw [C.hsc]; exact visB_ok hv) n1 n2⟩
    · cases h
  constructor
  · intro X W sc x C tk h
    obtain ⟨x', y, p, p', rfl, h1, h2⟩ := key X W sc x C tk h
    exact PE.imp (pe_cmpR (op_din neg (by have := C.room.un; omega)) h1 h2 (plain_marks rfl)) fun σ H Q q => din_ok q
  · intro X W sc x C tk ht h
    obtain ⟨x', y, p, p', rfl, h1, h2⟩ := key X W sc x C tk h
    exact PT.imp (pt_cmpR (op_din neg (by have := C.room.un; omega)) h1 h2 (plain_marks rfl)) fun σ H Q q => din_ok (lb_tB q)
theorem e_dvals (i : Nat) : PrE fnm T call k N (.dvals i) := by
  intro X W sc x C tk h
  unfold mE at h
  try dsimp only at h
  split at h
  · rename_i n p0 y py m p q pos
    obtain ⟨h1, hv, hn⟩ := and3 h
    obtain ⟨h1, hl, hN⟩ := and3 h1
    obtain ⟨hb, hm⟩ := and2 h1
    obtain ⟨n1, n2, _⟩ := nameB_ok hn
    obtain ⟨rfl, hg⟩ := bltB_ok hb
    have e : m = ("values" : Str) := of_decide_eq_true hm
    subst e
    have po : PE X (.Name y py) (tVar i) := pe_var (i := i) (by rw [C.hN]; exact of_decide_eq_true hN) (by rw [C.hsc]; exact visB_ok hv) n1 n2
    refine PE.imp (pe_listVals C.calm (by show X.env.scope.names.lookup _ = _; rw [C.hsc]; exact hg) (C.G.bl _ (by decide)) po rfl hl) fun σ H Q q => ?_
    obtain ⟨ρ, F, S, q⟩ := q
    unfold Mlg.eval at q
    split at q
    · rename_i kvs e2
      obtain ⟨p, g1, g2, ks, vs, ds, g3, g4, g5, rfl⟩ := S.slot i _ e2
      refine ⟨.ref p, g1, p, _, rfl, g3, fun q' hq => ?_⟩
      rw [List.map_snd_zip (by rw [List.length_map, g4, g5.length]; exact Nat.le_refl _)] at q
      rw [List.map_snd_zip (by rw [g4]; exact Nat.le_refl _)]
      exact out_lst S q g5 hq
    · exact q.elim
  · cases h
/-! ### {k: v for x in xs if t} -/
def turnD (call : CallT) (ke ve : Mlg.E) (tg : Tg) (c : Mlg.Eo) (vs : List Nat) : D → Env → Res (Option D × Env) := fun d ρ => match putTg ρ tg d with
  | none => .no
  | some ρ2 => (Mlg.test call c ρ2).bind fun t =>
    if t.1 = true then (Mlg.eval call ke t.2).bind fun r => match r.1 with
      | .val kd => (Mlg.eval call ve r.2).bind fun r' => match fix r'.2 r'.1 with
        | none => .no
        | some (x, ρ4) => if keyT false kd = true then (Res.of (wipeE ρ4 vs)).bind fun ρ5 => .ok (some (.tuple [kd, x]), ρ5) else .no
      | _ => .no
    else (Res.of (wipeE t.2 vs)).bind fun ρ5 => .ok (none, ρ5)
theorem turnD_ok {ke ve : Mlg.E} {tg : Tg} {c : Mlg.Eo} {vs : List Nat} {d : D} {ρ ρ5 : Env} {o : Option D} (h : turnD call ke ve tg c vs d ρ = .ok (o, ρ5)) : ∃ ρ2 t, putTg ρ tg d = some ρ2 ∧ Mlg.test call c ρ2 = .ok t ∧
    ((t.1 = true ∧ ∃ kd ρ3 r x ρ4, Mlg.eval call ke t.2 = .ok (.val kd, ρ3) ∧ Mlg.eval call ve ρ3 = .ok r ∧ fix r.2 r.1 = some (x, ρ4) ∧ keyT false kd = true ∧ wipeE ρ4 vs = some ρ5 ∧ o = some (.tuple [kd, x])) ∨ (t.1 = false ∧ wipeE t.2 vs = some ρ5 ∧ o = none)) := by
  unfold turnD at h
  cases e1 : putTg ρ tg d with
  | none => rw [e1] at h; cases h
  | some ρ2 =>
    rw [e1] at h
    dsimp only at h
    cases e2 : Mlg.test call c ρ2 with
    | no => rw [e2] at h; cases h
    | exc _ _ _ => rw [e2] at h; cases h
    | ok t =>
      rw [e2] at h
      replace h : (if t.1 = true then (Mlg.eval call ke t.2).bind fun r => (match r.1 with
          | .val kd => (Mlg.eval call ve r.2).bind fun r' => (match fix r'.2 r'.1 with
            | none => .no
            | some (x, ρ4) => if keyT false kd = true then (Res.of (wipeE ρ4 vs)).bind fun ρ5 => .ok (some (.tuple [kd, x]), ρ5) else .no)
          | _ => .no)
        else (Res.of (wipeE t.2 vs)).bind fun ρ5 => .ok (none, ρ5)) = .ok (o, ρ5) := h
      refine ⟨ρ2, t, rfl, e2, ?_⟩
      split at h
      · rename_i ht
        refine .inl ⟨ht, ?_⟩
        cases e3 : Mlg.eval call ke t.2 with
        | no => rw [e3] at h; cases h
        | exc _ _ _ => rw [e3] at h; cases h
        | ok r =>
          rw [e3] at h
          obtain ⟨r, ρ3⟩ := r
          cases r with
          | tmp _ => cases h
          | loc _ => cases h
          | val kd =>
            replace h : ((Mlg.eval call ve ρ3).bind fun r' => (match fix r'.2 r'.1 with
                | none => .no
                | some (x, ρ4) => if keyT false kd = true then (Res.of (wipeE ρ4 vs)).bind fun ρ5 => .ok (some (.tuple [kd, x]), ρ5) else .no)) = Res.ok (o, ρ5) := h
            cases e4 : Mlg.eval call ve ρ3 with
            | no => rw [e4] at h; cases h
            | exc _ _ _ => rw [e4] at h; cases h
            | ok r =>
              rw [e4] at h
              replace h : (match fix r.2 r.1 with
                | none => .no
                | some (x, ρ4) => if keyT false kd = true then (Res.of (wipeE ρ4 vs)).bind fun ρ5 => .ok (some (.tuple [kd, x]), ρ5) else .no) = Res.ok (o, ρ5) := h
              cases e5 : fix r.2 r.1 with
              | none => rw [e5] at h; cases h
              | some p =>
                obtain ⟨x, ρ4⟩ := p
                rw [e5] at h
                dsimp only at h
                split at h
                · rename_i ck
                  cases e6 : wipeE ρ4 vs with
                  | none => rw [e6] at h; cases h
                  | some ρ6 => rw [e6] at h; cases h; exact ⟨kd, ρ3, r, x, ρ4, rfl, e4, e5, ck, e6, rfl⟩
                · cases h
      · rename_i ht
        refine .inr ⟨by simpa using ht, ?_⟩
        cases e5 : wipeE t.2 vs with
        | none => rw [e5] at h; cases h
        | some ρ6 => rw [e5] at h; cases h; exact ⟨rfl, rfl⟩
theorem mkDict_snoc : ∀ {acc : List D} {kvs : List (D × D)} {kd x : D}, mkDict acc = some kvs → keyT false kd = true → mkDict (acc ++ [.tuple [kd, x]]) = some (kvs ++ [(kd, x)])
  | [], _, kd, x, h, hk => by
    cases h
    show (if keyT false kd = true then (mkDict []).map (fun kvs => (kd, x) :: kvs) else none) = _
    rw [if_pos hk]
    rfl
  | a :: acc, kvs, kd, x, h, hk => by
    unfold mkDict at h
    split at h
    · rename_i e; cases e
    · rename_i k v r e
      cases e
      split at h
      · rename_i c
        cases q : mkDict acc with
        | none => rw [q] at h; cases h
        | some kvs' =>
          rw [q] at h
          cases h
          rw [List.cons_append]
          unfold mkDict
          rw [if_pos c, mkDict_snoc q hk]
          rfl
      · cases h
    · cases h
theorem mkDict_len : ∀ {acc : List D} {kvs : List (D × D)}, mkDict acc = some kvs → kvs.length = acc.length
  | [], _, h => by cases h; rfl
  | a :: acc, kvs, h => by
    unfold mkDict at h
    split at h
    · rename_i e; cases e
    · rename_i k v r e
      cases e
      split at h
      · cases q : mkDict acc with
        | none => rw [q] at h; cases h
        | some kvs' => rw [q] at h; cases h; simp [mkDict_len q]
      · cases h
    · cases h
theorem setKey_len (kvs : List (D × D)) (k v : D) : (setKey kvs k v).length ≤ kvs.length + 1 := by
  unfold setKey
  split
  · rw [List.length_map]; omega
  · simp
theorem mkDictL_snoc (kvs : List (D × D)) (k v : D) : mkDictL (kvs ++ [(k, v)]) = setKey (mkDictL kvs) k v := by
  unfold mkDictL
  rw [List.foldl_append]
  rfl
theorem mkDictL_len (kvs : List (D × D)) : (mkDictL kvs).length ≤ kvs.length := by
  have : ∀ (l : List (D × D)) (a : List (D × D)), (l.foldl (fun a p => setKey a p.1 p.2) a).length ≤ a.length + l.length := by
    intro l
    induction l with
    | nil => intro a; simp
    | cons p l ih =>
      intro a
      rw [List.foldl_cons, List.length_cons]
      have h1 := ih (setKey a p.1 p.2)
      have h2 := setKey_len a p.1 p.2
      omega
  have := this kvs []
  rw [List.length_nil, Nat.zero_add] at this
  exact this
theorem dc_ok {K : Frag} {W : WX} {ke ve : Mlg.E} {tg : Tg} {it : Mlg.It} {c : Mlg.Eo} {vs : List Nat} {σ : St} {H : Hp} {Q : VK} (htg : ∀ j ∈ tgSlots tg, j ∈ vs)
    (h : LE T K W (Mlg.eval call (.dc ke ve tg it c vs)) σ H Q) : tDc (LW T K W (Mlg.walk call it)) (gTg K tg) (LB T K (fun _ _ _ _ => False) (Mlg.test call c)) (LE T K (fun _ _ _ _ => False) (Mlg.eval call ke)) (LE T K (fun _ _ _ _ => False) (Mlg.eval call ve)) vs σ H Q := by
  obtain ⟨ρ, F, S, h⟩ := h
  refine ⟨ρ, F, S, ?_⟩
  replace h : Out T K W ρ F σ H (relE K σ) ((Mlg.walk call it ρ).bind fun p => match wipeE p.2 vs with
      | none => .no
      | some ρ1 => (loopC (turnD call ke ve tg c vs) p.1.1 [] ρ1).bind fun q => (Res.of (unlockE (backE p.2 vs q.2) p.1.2)).bind fun ρ' => (Res.of (mkDict q.1)).bind fun kvs => .ok (.tmp (.dic false (mkDictL kvs)), ρ')) Q := by
    unfold Mlg.eval at h
    exact h
  cases ew : Mlg.walk call it ρ with
  | no => rw [ew] at h; exact h
  | exc _ _ _ => rw [ew] at h; exact h
  | ok p =>
    rw [ew] at h
    obtain ⟨⟨ds, lk⟩, ρp⟩ := p
    replace h : Out T K W ρ F σ H (relE K σ) (match wipeE ρp vs with
      | none => .no
      | some ρ1 => (loopC (turnD call ke ve tg c vs) ds [] ρ1).bind fun q => (Res.of (unlockE (backE ρp vs q.2) lk)).bind fun ρ' => (Res.of (mkDict q.1)).bind fun kvs => .ok (.tmp (.dic false (mkDictL kvs)), ρ')) Q := h
    intro J Fp H1 P stp Sp gs hP hlk D' hD
    cases e1 : wipeE ρp vs with
    | none => rw [e1] at h; exact h.elim
    | some ρ1 =>
      rw [e1] at h
      dsimp only at h
      obtain ⟨Sw, stw⟩ := wipe_ok Sp e1
      have hPw := gs.stays _ _ _ _ _ _ _ _ hP stw
      cases el : loopC (turnD call ke ve tg c vs) ds [] ρ1 with
      | no => rw [el] at h; exact h.elim
      | exc _ _ _ => exact absurd el loopC_exc
      | ok q =>
        rw [el] at h
        -- the invariant of the turns
        let J2 : Nat → Hp → Prop := fun i Hi => ∃ ρi Fi acc kvs, Sim K ρi Fi (wipe σ vs) Hi ∧ Step ρ1 (wipe σ vs) Fp H1 ρi (wipe σ vs) Fi Hi ∧ mkDict acc = some kvs ∧ DicR K Fi Hi D' false (mkDictL kvs) ∧ Fi D' = none ∧ ¬ Own ρi (wipe σ vs) D' ∧
            loopC (turnD call ke ve tg c vs) (ds.drop i) acc ρi = .ok q
        refine ⟨fun i m Hi => m = ds.length - i ∧ i ≤ ds.length ∧ J2 i Hi, ⟨ds.length, by simp, Nat.zero_le _, ρ1, Fp, [], [], ?_⟩, ?_⟩
        · have n := Sw.new hD
          exact ⟨Sw.laid hD, Step.laid hD, rfl, ⟨[], [], [], upd_same, rfl, .nil, rfl⟩, n.1, n.2, by simpa using el⟩
        · rintro i m Hi ⟨rfl, hi, ρi, Fi, acc, kvs, Si, sti, hmk, hDi, hFD, hnD, eq⟩
          have hPi := gs.stays _ _ _ _ _ _ _ _ hPw sti
          have d0 : Hi D' ≠ none := by
            obtain ⟨u, hu⟩ := ObjR.at hDi
            rw [hu]; exact fun z => by cases z
          by_cases hlt : i < ds.length
          · refine .inr ⟨gs.go i ρi Fi _ Hi hlt hPi Si, J2 (i + 1), fun H' hN => ⟨ds.length - (i + 1), by omega, rfl, hlt, hN⟩, fun x H' y => ?_⟩
            have ed : ds[i]? = some ds[i] := List.getElem?_eq_getElem hlt
            obtain ⟨F', st', S', hx⟩ := gs.yld i _ ρi Fi _ Hi x H' ed hPi Si y
            rw [List.drop_eq_getElem_cons hlt] at eq
            unfold loopC at eq
            cases et : turnD call ke ve tg c vs ds[i] ρi with
            | no => rw [et] at eq; cases eq
            | exc _ _ _ => rw [et] at eq; cases eq
            | ok pr =>
              obtain ⟨o, ρ5⟩ := pr
              obtain ⟨ρ2, t, t1, t2, t3⟩ := turnD_ok et
              refine tg_ok (fx := fun j => !vs.contains j) S' hx t1 (fun j hj => by simp [htg j hj]) fun σ2 S2 st2 _ ot => ?_
              have hw : wipe σ2 vs = wipe σ vs := wipe_same (by rw [← S2.len, putTg_len t1, S'.len, wipe_length]) fun j hj => ot j fun z => hj (htg j z)
              refine ⟨hw, ρ2, F', S2, ?_⟩
              rw [t2]
              intro b F3 H3 st3 S3 rb
              have rb : b = t.1 := rb
              have st03 := (st'.trans st2).trans st3
              rcases t3 with ⟨tb, kd, ρ3, r, xx, ρ4, e3, e4, e5, ck, e6, eo⟩ | ⟨tb, e6, eo⟩
              · rw [rb, tb, if_pos rfl]
                refine ⟨t.2, F3, S3, ?_⟩
                rw [e3]
                intro y F4 H4 st4 S4 ry
                refine ⟨ρ3, F4, S4, ?_⟩
                rw [e4]
                intro z F5 H5 st5 S5 rz
                obtain ⟨F6, st6, S6, hz⟩ := fix_step st5 S5 rz e5
                have st06 := (st03.trans st4).trans st6
                obtain ⟨S7, st7⟩ := wipe_ok S6 e6
                rw [hw] at S7 st7
                have st07 := st06.trans st7
                have hF7 : F6 D' = none := st07.frz D' hFD d0 (fun q => hnD q.own) hDi.nt
                have hn7 : ¬ Own ρ5 (wipe σ vs) D' := fun q => (st07.own D' q).elim hnD d0
                have rk : Rep K F6 y kd := Rep.mono st6.ext ry
                obtain ⟨ky, rfl, rfl⟩ := keyF_ok ck rk
                have hD5 : DicR K F6 H5 D' false (mkDictL kvs) := hDi.move st07.ext fun u hu => st07.keep D' u hu fun q => hnD q.own
                obtain ⟨ks, ws, es, g1, g2, g3, g4⟩ := hD5
                obtain ⟨ks', vs', ds', a1, a2, a3, a4⟩ := assoc_set (enc := keyD) eqv_keyD (k := ky) g2 g3 hz
                rw [et, eo] at eq
                dsimp only at eq
                split at eq
                · rename_i cs
                  refine ⟨_, ky, rfl, g1, ?_, ρ5, F6, acc ++ [.tuple [keyD ky, xx]], kvs ++ [(keyD ky, xx)], S7.touch hF7 hn7, (sti.trans st07).touch hD, mkDict_snoc hmk ck, ?_, hF7, hn7, eq⟩
                  · have l1 := mkDictL_len kvs
                    have l2 := mkDict_len hmk
                    have l3 := congrArg List.length g4
                    have l4 : acc.length < lim := of_decide_eq_true cs
                    have l5 := lim_le
                    have l6 := g3.length
                    rw [List.length_zip, List.length_map] at l3
                    rw [List.length_zip]
                    omega
                  · rw [mkDictL_snoc, g4]
                    exact ⟨ks', vs', ds', by rw [upd_same, a1], a2, a3, a4⟩
                · cases eq
              · rw [rb, tb, if_neg Bool.false_ne_true]
                obtain ⟨S6, st6⟩ := wipe_ok S3 e6
                rw [hw] at S6 st6
                have st06 := st03.trans st6
                rw [et, eo] at eq
                dsimp only at eq
                exact ⟨ρ5, F3, acc, kvs, S6, sti.trans st06, hmk, hDi.move st06.ext fun u hu => st06.keep D' u hu fun q => hnD q.own, st06.frz D' hFD d0 (fun q => hnD q.own) hDi.nt, fun q => (st06.own D' q).elim hnD d0, eq⟩
          · have ei : i = ds.length := by omega
            subst ei
            refine .inl ⟨gs.stop ρi Fi _ Hi hPi Si, ?_⟩
            rw [List.drop_length] at eq
            cases eq
            obtain ⟨Sb, stb, owb⟩ := back_ok Sp e1 (stw.trans sti) Si
            have h0 : H D' = none := stp.dom D' hD
            have hnb : ¬ Own (backE ρp vs ρi) σ D' := fun q => hnD (owb D' q)
            replace h : Out T K W ρ F σ H (relE K σ) ((Res.of (unlockE (backE ρp vs ρi) lk)).bind fun ρ' => (Res.of (mkDict acc)).bind fun kvs => .ok (.tmp (.dic false (mkDictL kvs)), ρ')) Q := h
            rw [hmk] at h
            cases lk with
            | none => exact h (.ref D') Fi Hi (stp.trans stb) Sb ⟨D', rfl, hFD, hDi, hnb, h0⟩
            | some j =>
              obtain ⟨pp, hp1, hp2⟩ := hlk j rfl
              replace h : Out T K W ρ F σ H (relE K σ) ((Res.of (match (backE ρp vs ρi)[j]? with
                | some (.lck o) => some ((backE ρp vs ρi).set j (.own o))
                | _ => none)).bind fun ρ' => .ok (.tmp (.dic false (mkDictL kvs)), ρ')) Q := h
              split at h
              · rename_i o eo
                obtain ⟨Su, stu⟩ := Sb.unlock (stp.trans stb) eo hp2 hp1
                refine h (.ref D') Fi Hi stu Su ⟨D', rfl, hFD, hDi, fun q => ?_, h0⟩
                obtain ⟨j', s', o', a1, a2, a3⟩ := q
                rcases isOwn_set (lt_of_get eo) a1 a2 with ⟨rfl, _⟩ | ⟨_, hj⟩
                · exact hnb ⟨_, _, o, eo, rfl, a3⟩
                · exact hnb ⟨j', s', o', hj, a2, a3⟩
              · exact h.elim
theorem e_dc {ke ve : Mlg.E} {tg : Tg} {it : Mlg.It} {c : Mlg.Eo} {vs : List Nat} (ii : PrI fnm T call k N it) (ic : PrC fnm T call k N c) (ik : PrE fnm T call k N ke) (ie : PrE fnm T call k N ve) : PrE fnm T call k N (.dc ke ve tg it c vs) := by
  intro X W sc x C tk h
  unfold mE at h
  try dsimp only at h
  split at h
  · rename_i y x t i ifs scope pos
    obtain ⟨h, hk⟩ := and2 h
    obtain ⟨p1, p2, p3, p4, p5, p6, p7, p8⟩ := lc_parts ii ic ie C tk h
    refine PE.imp (pe_dc (tk := LE T X.K (fun _ _ _ _ => False) (Mlg.eval call ke)) C.calm (by rw [C.hN]; exact C.nd) p1 p2 p6 p7 (fun s H Ca cl fp => ik _ _ _ _ (C.blk s H scope cl Ca fp) takes0 hk) p8 (fun x => plain_folded p4 x)) fun σ H Q q => ?_
    rw [p3]
    exact dc_ok p5 q
  · cases h
/-- y = {..: .. for ..} on one line, y a local: the store is done within the block -/
theorem sw_dc {X : Cx} {kx vx : Expr} {gens : List Comprehension} {scope : Scope} {pos py : Pos} {y : Str} {line : Nat} (hf : X.env.scope.kind = .function) (hy : X.env.scope.names.lookup y = some .local) (hl : (py.line == pos.line) = true)
    (hno : (scope.names.any fun (n, k) => n == y && (k == .local || k == .cell)) = false) : swapsWith (.DictComp kx vx gens scope pos) (some (.Name y py)) line X.env = pure true := by
  have h1 : X.env.kindOf y = some .local := hy
  have h2 : X.env.blockKind = .function := by unfold Env.blockKind; rw [hf]; rfl
  unfold swapsWith
  simp only [h1, h2, hno, hl, Expr.pos]
  rfl
theorem ps_setDc {X : Cx} {i : Nat} {y : Str} {kx vx tg iter : Expr} {ifs : List Expr} {scope : Scope} {own : List (Str × Nat)} {py pos spos : Pos} {wi : TI} {g : TG} {tt : TT} {tk tv : TE} (calm : X.calm = true) (nd : X.N.Nodup) (hy : X.N[i]? = some y) (loc : X.env.scope.names.lookup y = some .local)
    (sw : swapsWith (.DictComp kx vx [⟨tg, iter, ifs, 0⟩] scope pos) (some (.Name y py)) spos.line X.env = pure true) (hi : PI X tg iter wi) (bl : BlkOk X.N X.env.scope scope own)
    (p1 : ∀ (s : Shared) (H : Hp) (C : Addr) (cl : List (Str × Addr)) (fp : List Addr), PG (X.blk s H scope (compEnvC scope cl C X.env) fp) tg g) (p2 : ∀ (s : Shared) (H : Hp) (C : Addr) (cl : List (Str × Addr)) (fp : List Addr), PTs (X.blk s H scope (compEnvC scope cl C X.env) fp) ifs tt)
    (p3 : ∀ (s : Shared) (H : Hp) (C : Addr) (cl : List (Str × Addr)) (fp : List Addr), PE (X.blk s H scope (compEnvC scope cl C X.env) fp) kx tk) (p4 : ∀ (s : Shared) (H : Hp) (C : Addr) (cl : List (Str × Addr)) (fp : List Addr), PE (X.blk s H scope (compEnvC scope cl C X.env) fp) vx tv)
    (fs : ∀ x, foldedSetIterable iter X.env x = pure x) : PS X (.Assign [.Name y py] (.DictComp kx vx [⟨tg, iter, ifs, 0⟩] scope pos) spos) (tAsg (tDc wi g tt tk tv (own.map (·.2))) (gName i)) := by
  constructor
  intro pins s σ H D I h
  rw [exec_Assign_Name_used _ _ _ _ sw]
  refine wpAny_bind (wpAny_standAt (wpAny_bind ?core))
  replace h : tDc wi g tt tk tv (own.map (·.2)) σ H (fun x H1 => gName i x σ H1 D.nx) := h
  show wpAny _ X.A (do let _ ← comprehension (.DictComp kx vx [⟨tg, iter, ifs, 0⟩] scope pos) scope X.env (firstIterPos [⟨tg, iter, ifs, 0⟩] pos) newDict false (PySem.eval iter X.env) (some (assign (.Name y py) X.env))) _ _ s
  refine wpAny_bind (thn (dc_core (Qf := fun _ s' => SP X pins D .next s') calm nd I hi bl p1 p2 p3 p4 fs h fun L C s' m H' J q hn fp => ?_) fun _ _ z => wpAny_pure (wpAny_pure z))
  obtain ⟨a0, a1, _, a3, a4, a5⟩ := fp
  show wpAny _ _ (assign (.Name y py) X.env (.ref L)) _ _ _
  refine wpAny_assign_Name (store_ok2 (v := V.ref L) J nd hy (.inl loc) rfl (fun s2 J2 ⟨a, sb, ha⟩ => ⟨m, hn.sameBut sb ?_, fun _ sb3 => ⟨_, H', J2.turned (t' := s2.toks) (fun b o hb e => (sb3.2 b hb).trans e) a0 a1 a3 a4 a5, q⟩⟩) (.inr loc))
  exact ha.elim (fun z => z ▸ a1) fun z e => a4 y a z e.symm
end
end Msd
/-! SoundL: [e for x in xs for y in ys]. -/
namespace Msd
open PySem PySem.Spec PyProof.Rows L2 Mlg
section
variable {fnm : Nat → Option Str} {T : Errs} {call : CallT} {k : Nat} {N : List Str}
theorem rbind_ok' {α β : Type} (a : α) (k : α → Res β) : (Res.ok a).bind k = k a := rfl
theorem wipe_wipe {σ : St} {vs vs1 : List Nat} (h : ∀ i ∈ vs1, i ∈ vs) : wipe (wipe σ vs1) vs = wipe σ vs := by
  refine wipe_same (by rw [wipe_length]) fun j hj => ?_
  rw [wipe_out fun z => hj (h j z), wipe_out hj]
theorem loopA_exc {turn : D → List D → Env → Res (List D × Env)} : ∀ {ds acc : List D} {ρ : Env} {c : Nat} {f : D} {ρ' : Env}, loopA turn ds acc ρ ≠ .exc c f ρ'
  | [], acc, ρ, c, f, ρ', h => by cases h
  | d :: ds, acc, ρ, c, f, ρ', h => by
    unfold loopA at h
    split at h
    · exact loopA_exc h
    · cases h
/-- the reading of a range: what is walked is no object -/
def LWf (T : Errs) (K : Frag) (W : WX) (m : Env → Res ((List D × Option Nat) × Env)) : TI := fun σ H R => ∃ ρ F, Sim K ρ F σ H ∧ match m ρ with
  | .ok p => ∀ J F' H', Step ρ σ F H p.2 σ F' H' → Sim K p.2 F' σ H' → Goes K J p.1.1 (fun _ _ _ _ => True) → R J H'
  | .exc c f ρ' => ∀ F' H' cls d, Step ρ σ F H ρ' σ F' H' → Sim K ρ' F' σ H' → ExcR T K F' H' c f cls d → W cls d σ H'
  | .no => False
theorem i_r1f {a : Mlg.E} (ia : PrE fnm T call k N a) {X : Cx} {W : WX} {sc : Scope} {x tg : Expr} (C : Cok fnm T call k N X sc) (tk : Takes X W) (h : mIt fnm N sc (.r1 a) x = true) : PI X tg x (LWf T X.K W (Mlg.walk call (.r1 a))) := by
  unfold mIt at h
  try dsimp only at h
  split at h
  · rename_i n p x pos
    obtain ⟨hn, hp, h1⟩ := and3 h
    obtain ⟨rfl, hg⟩ := bltB_ok hn
    refine PI.imp (pi_range1 (by show X.env.scope.names.lookup _ = _; rw [C.hsc]; exact hg) (C.G.bl _ (by decide)) (pa_cons (ia X W sc x C tk h1) pa_nil (starEach_plain hp)) (starEach_plain hp)) fun σ H R' q => ?_
    obtain ⟨ρ, F, S, q⟩ := q
    refine ⟨ρ, F, S, ?_⟩
    unfold Mlg.walk at q
    cases ea : Mlg.eval call a ρ with
    | no => rw [ea] at q; exact q
    | exc _ _ _ => rw [ea] at q; exact q
    | ok p =>
      rw [ea] at q
      obtain ⟨r1, ρ1⟩ := p
      intro v F1 H1 st S1 rl
      cases r1 with
      | tmp _ => exact q.elim
      | loc _ => exact q.elim
      | val d =>
        cases d <;> first | exact q.elim | skip
        rename_i i
        by_cases c : rangeOk i = true
        · simp only [rbind_ok', c, if_true] at q
          cases rl
          have := rangeOk_ok c
          refine ⟨i, rfl, this.1, this.2, ?_⟩
          have hh := q (Itr 0 (i - 0).toNat) F1 H1 st S1 (goes_range 0 i)
          rw [Int.sub_zero] at hh
          exact hh
        · simp only [rbind_ok', c] at q
          exact q.elim
  · cases h
/-- a turn of the outer loop -/
def turnA (call : CallT) (elt : Mlg.E) (tg tg' : Tg) (it' : Mlg.It) (vs vs1 : List Nat) : D → List D → Env → Res (List D × Env) := fun d acc ρ => match putTg ρ tg d with
  | none => .no
  | some ρ2 => (Mlg.walk call it' ρ2).bind fun p' => match p'.1.2, wipeE p'.2 vs1 with
    | none, some ρ3 => (loopC (turnC call elt tg' .no vs1) p'.1.1 acc ρ3).bind fun q' => (Res.of (wipeE q'.2 vs)).bind fun ρ8 => .ok (q'.1, ρ8)
    | _, _ => .no
theorem turnA_ok {elt : Mlg.E} {tg tg' : Tg} {it' : Mlg.It} {vs vs1 : List Nat} {d : D} {acc acc' : List D} {ρ ρ8 : Env} (h : turnA call elt tg tg' it' vs vs1 d acc ρ = .ok (acc', ρ8)) :
    ∃ ρ2 ds1 ρp ρ3 ρ7, putTg ρ tg d = some ρ2 ∧ Mlg.walk call it' ρ2 = .ok ((ds1, none), ρp) ∧ wipeE ρp vs1 = some ρ3 ∧ loopC (turnC call elt tg' .no vs1) ds1 acc ρ3 = .ok (acc', ρ7) ∧ wipeE ρ7 vs = some ρ8 := by
  unfold turnA at h
  cases e1 : putTg ρ tg d with
  | none => rw [e1] at h; cases h
  | some ρ2 =>
    rw [e1] at h
    dsimp only at h
    cases e2 : Mlg.walk call it' ρ2 with
    | no => rw [e2] at h; cases h
    | exc _ _ _ => rw [e2] at h; cases h
    | ok p =>
      rw [e2] at h
      obtain ⟨⟨ds1, lk⟩, ρp⟩ := p
      cases lk with
      | some j => cases h
      | none =>
        cases e3 : wipeE ρp vs1 with
        | none => simp only [rbind_ok', e3] at h; cases h
        | some ρ3 =>
          simp only [rbind_ok', e3] at h
          cases e4 : loopC (turnC call elt tg' .no vs1) ds1 acc ρ3 with
          | no => rw [e4] at h; cases h
          | exc _ _ _ => exact absurd e4 loopC_exc
          | ok q =>
            rw [e4] at h
            replace h : ((Res.of (wipeE q.2 vs)).bind fun ρ8 => Res.ok (q.1, ρ8)) = .ok (acc', ρ8) := h
            cases e5 : wipeE q.2 vs with
            | none => rw [e5] at h; cases h
            | some ρ9 => rw [e5] at h; cases h; exact ⟨ρ2, ds1, ρp, ρ3, q.2, rfl, e2, e3, e4, e5⟩
theorem lc2_ok {K : Frag} {W : WX} {elt : Mlg.E} {tg tg' : Tg} {it it' : Mlg.It} {vs vs1 : List Nat} {σ : St} {H : Hp} {Q : VK} (htg : ∀ j ∈ tgSlots tg, j ∈ vs) (htg1 : ∀ j ∈ tgSlots tg', j ∈ vs1) (hv : ∀ i ∈ vs1, i ∈ vs)
    (h : LE T K W (Mlg.eval call (.lc2 elt tg it tg' it' vs vs1)) σ H Q) : tLc2 (LW T K W (Mlg.walk call it)) (gTg K tg) (LB T K (fun _ _ _ _ => False) (Mlg.test call .no)) (LWf T K (fun _ _ _ _ => False) (Mlg.walk call it')) (gTg K tg') (LB T K (fun _ _ _ _ => False) (Mlg.test call .no)) (LE T K (fun _ _ _ _ => False) (Mlg.eval call elt)) vs vs1 σ H Q := by
  obtain ⟨ρ, F, S, h⟩ := h
  refine ⟨ρ, F, S, ?_⟩
  replace h : Out T K W ρ F σ H (relE K σ) ((Mlg.walk call it ρ).bind fun p => match wipeE p.2 vs with
      | none => .no
      | some ρ1 => (loopA (turnA call elt tg tg' it' vs vs1) p.1.1 [] ρ1).bind fun q => (Res.of (unlockE (backE p.2 vs q.2) p.1.2)).bind fun ρ' => .ok (.tmp (.lst q.1), ρ')) Q := by
    unfold Mlg.eval at h
    exact h
  cases ew : Mlg.walk call it ρ with
  | no => rw [ew] at h; exact h
  | exc _ _ _ => rw [ew] at h; exact h
  | ok p =>
    rw [ew] at h
    obtain ⟨⟨ds, lk⟩, ρp⟩ := p
    replace h : Out T K W ρ F σ H (relE K σ) (match wipeE ρp vs with
      | none => .no
      | some ρ1 => (loopA (turnA call elt tg tg' it' vs vs1) ds [] ρ1).bind fun q => (Res.of (unlockE (backE ρp vs q.2) lk)).bind fun ρ' => .ok (.tmp (.lst q.1), ρ')) Q := h
    intro J Fp H1 P stp Sp gs hP hlk D' hD
    cases e1 : wipeE ρp vs with
    | none => rw [e1] at h; exact h.elim
    | some ρ1 =>
      rw [e1] at h
      dsimp only at h
      obtain ⟨Sw, stw⟩ := wipe_ok Sp e1
      have hPw := gs.stays _ _ _ _ _ _ _ _ hP stw
      cases el : loopA (turnA call elt tg tg' it' vs vs1) ds [] ρ1 with
      | no => rw [el] at h; exact h.elim
      | exc _ _ _ => exact absurd el loopA_exc
      | ok q =>
        rw [el] at h
        let J2 : Nat → Hp → Prop := fun i Hi => ∃ ρi Fi acc accV, Sim K ρi Fi (wipe σ vs) Hi ∧ Step ρ1 (wipe σ vs) Fp H1 ρi (wipe σ vs) Fi Hi ∧ Hi D' = some (.lst accV) ∧ Reps K Fi accV acc ∧ Fi D' = none ∧ ¬ Own ρi (wipe σ vs) D' ∧
            loopA (turnA call elt tg tg' it' vs vs1) (ds.drop i) acc ρi = .ok q
        refine ⟨fun i m Hi => m = ds.length - i ∧ i ≤ ds.length ∧ J2 i Hi, ⟨ds.length, by simp, Nat.zero_le _, ρ1, Fp, [], [], ?_⟩, ?_⟩
        · have n := Sw.new hD
          exact ⟨Sw.laid hD, Step.laid hD, upd_same, .nil, n.1, n.2, by simpa using el⟩
        · rintro i m Hi ⟨rfl, hi, ρi, Fi, acc, accV, Si, sti, hDi, hacc, hFD, hnD, eq⟩
          have hPi := gs.stays _ _ _ _ _ _ _ _ hPw sti
          by_cases hlt : i < ds.length
          · refine .inr ⟨gs.go i ρi Fi _ Hi hlt hPi Si, J2 (i + 1), fun H' hN => ⟨ds.length - (i + 1), by omega, rfl, hlt, hN⟩, fun x H' y => ?_⟩
            have ed : ds[i]? = some ds[i] := List.getElem?_eq_getElem hlt
            obtain ⟨F', st', S', hx⟩ := gs.yld i _ ρi Fi _ Hi x H' ed hPi Si y
            rw [List.drop_eq_getElem_cons hlt] at eq
            unfold loopA at eq
            cases et : turnA call elt tg tg' it' vs vs1 ds[i] acc ρi with
            | no => rw [et] at eq; cases eq
            | exc _ _ _ => rw [et] at eq; cases eq
            | ok pr =>
              obtain ⟨acc', ρ8⟩ := pr
              rw [et] at eq
              replace eq : loopA (turnA call elt tg tg' it' vs vs1) (ds.drop (i + 1)) acc' ρ8 = .ok q := eq
              obtain ⟨ρ2, ds1, ρp1, ρ3, ρ7, t1, t2, t3, t4, t5⟩ := turnA_ok et
              refine tg_ok (fx := fun j => !vs.contains j) S' hx t1 (fun j hj => by simp [htg j hj]) fun σ2 S2 st2 _ ot => ?_
              have hw : wipe σ2 vs = wipe σ vs := wipe_same (by rw [← S2.len, putTg_len t1, S'.len, wipe_length]) fun j hj => ot j fun z => hj (htg j z)
              refine ⟨hw, ρ2, F', S2, ?_⟩
              intro b F3 H3 st3 S3 rb
              have rb : b = true := rb
              rw [rb, if_pos rfl]
              refine ⟨ρ2, F3, S3, ?_⟩
              rw [t2]
              intro J1 Fq H4 st4 S4 gs1
              obtain ⟨S5, st5⟩ := wipe_ok S4 t3
              have st05 := (((st'.trans st2).trans st3).trans st4).trans st5
              have d0 : Hi D' ≠ none := by rw [hDi]; exact fun z => by cases z
              have nt0 : NT Hi D' := fun vs e => by rw [hDi] at e; cases e
              have hD4 : H4 D' = some (.lst accV) := st05.keep D' _ hDi fun q => hnD q.own
              have hF5 : Fq D' = none := st05.frz D' hFD d0 (fun q => hnD q.own) nt0
              have hn5 : ¬ Own ρ3 (wipe σ2 vs1) D' := fun q => (st05.own D' q).elim hnD d0
              let J3 : Nat → Hp → Prop := fun j Hj => ∃ ρj Fj ac acV, Sim K ρj Fj (wipe σ2 vs1) Hj ∧ Step ρ1 (wipe σ vs) Fp H1 ρj (wipe σ2 vs1) Fj Hj ∧ Hj D' = some (.lst acV) ∧ Reps K Fj acV ac ∧ Fj D' = none ∧ ¬ Own ρj (wipe σ2 vs1) D' ∧
                  loopC (turnC call elt tg' .no vs1) (ds1.drop j) ac ρj = .ok (acc', ρ7)
              have hv1 : ∀ {σ3 : St} {ρa ρb : Env} {d : D}, σ3.length = (wipe σ2 vs1).length → (∀ j, j ∉ tgSlots tg' → σ3[j]? = (wipe σ2 vs1)[j]?) → wipe σ3 vs1 = wipe σ2 vs1 := by
                intro σ3 ρa ρb d hl ho
                refine wipe_same (by rw [hl, wipe_length]) fun j hj => ?_
                exact ho j fun z => hj (htg1 j z)
              refine ⟨fun j m Hj => m = ds1.length - j ∧ j ≤ ds1.length ∧ J3 j Hj, ⟨ds1.length, by simp, Nat.zero_le _, ρ3, Fq, acc, accV, S5, sti.trans st05, hD4, hacc.mono st05.ext, hF5, hn5, by simpa using t4⟩, ?_⟩
              rintro j m Hj ⟨rfl, hj, ρj, Fj, ac, acV, Sj, stj0, hDj, hacj, hFj, hnj, eqj⟩
              by_cases hlj : j < ds1.length
              · refine .inr ⟨gs1.go j ρj Fj _ Hj hlj trivial Sj, J3 (j + 1), fun H' hN => ⟨ds1.length - (j + 1), by omega, rfl, hlj, hN⟩, fun x1 H5 y1 => ?_⟩
                have ed1 : ds1[j]? = some ds1[j] := List.getElem?_eq_getElem hlj
                obtain ⟨F5, st6, S6, hx1⟩ := gs1.yld j _ ρj Fj _ Hj x1 H5 ed1 trivial Sj y1
                rw [List.drop_eq_getElem_cons hlj] at eqj
                unfold loopC at eqj
                cases et1 : turnC call elt tg' .no vs1 ds1[j] ρj with
                | no => rw [et1] at eqj; cases eqj
                | exc _ _ _ => rw [et1] at eqj; cases eqj
                | ok pr1 =>
                  obtain ⟨o, ρ9⟩ := pr1
                  obtain ⟨ρ10, t, u1, u2, u3⟩ := turnC_ok et1
                  refine tg_ok (fx := fun j => !vs1.contains j) S6 hx1 u1 (fun j hj => by simp [htg1 j hj]) fun σ3 S7 st7 _ ot1 => ?_
                  have hw1 : wipe σ3 vs1 = wipe σ2 vs1 := by
                    have := wipe_same (σ := wipe σ2 vs1) (σ2 := σ3) (vs := vs1) (by rw [← S7.len, putTg_len u1, S6.len]) fun j hj => by
                      rw [wipe_out hj]
                      exact ot1 j fun z => hj (htg1 j z)
                    rw [this]
                    exact wipe_wipe fun i hi => hi
                  refine ⟨hw1, ρ10, F5, S7, ?_⟩
                  rw [u2]
                  intro b F7 H7 st8 S8 rb
                  have rb : b = t.1 := rb
                  have d1 : Hj D' ≠ none := by rw [hDj]; exact fun z => by cases z
                  have ntj : NT Hj D' := fun vs e => by rw [hDj] at e; cases e
                  have st68 := (st6.trans st7).trans st8
                  rcases u3 with ⟨tb, r, xx, ρ4, e3, e4, e5, eo⟩ | ⟨tb, e5, eo⟩
                  · rw [rb, tb, if_pos rfl]
                    refine ⟨t.2, F7, S8, ?_⟩
                    rw [e3]
                    intro y F9 H9 st9 S9 ry
                    obtain ⟨Fa, sta, Sa, hy⟩ := fix_step st9 S9 ry e4
                    have st6a := st68.trans sta
                    have hD9 : H9 D' = some (.lst acV) := st6a.keep D' _ hDj fun q => hnj q.own
                    obtain ⟨Sb, stb⟩ := wipe_ok Sa e5
                    rw [hw1] at Sb stb
                    have st6b := st6a.trans stb
                    have hFb : Fa D' = none := st6b.frz D' hFj d1 (fun q => hnj q.own) ntj
                    have hnb : ¬ Own ρ9 (wipe σ2 vs1) D' := fun q => (st6b.own D' q).elim hnj d1
                    rw [et1, eo] at eqj
                    dsimp only at eqj
                    split at eqj
                    · rename_i cs
                      have h4D : H4 D' ≠ none := by rw [hD4]; exact fun z => by cases z
                      refine ⟨acV, hD9, ?_, ρ9, Fa, ac ++ [xx], acV ++ [y], Sb.touch hFb hnb, (stj0.trans st6b).touch hD, upd_same, (hacj.mono st6b.ext).append (.cons hy .nil), hFb, hnb, eqj⟩
                      rw [hacj.length]
                      exact Nat.lt_of_lt_of_le (of_decide_eq_true cs) lim_le
                    · cases eqj
                  · rw [rb, tb, if_neg Bool.false_ne_true]
                    obtain ⟨Sb, stb⟩ := wipe_ok S8 e5
                    rw [hw1] at Sb stb
                    have st6b := st68.trans stb
                    rw [et1, eo] at eqj
                    dsimp only at eqj
                    exact ⟨ρ9, F7, ac, acV, Sb, stj0.trans st6b, st6b.keep D' _ hDj (fun q => hnj q.own), hacj.mono st6b.ext, st6b.frz D' hFj d1 (fun q => hnj q.own) ntj, fun q => (st6b.own D' q).elim hnj d1, eqj⟩
              · have ej : j = ds1.length := by omega
                subst ej
                refine .inl ⟨gs1.stop ρj Fj _ Hj trivial Sj, ?_⟩
                rw [List.drop_length] at eqj
                cases eqj
                obtain ⟨Sb, stb⟩ := wipe_ok Sj t5
                rw [wipe_wipe hv, hw] at Sb stb
                exact ⟨ρ8, Fj, _, acV, Sb, stj0.trans stb, hDj, hacj, hFj, fun q => (stb.own D' q).elim hnj fun z => (by rw [hDj] at z; cases z), eq⟩
          · have ei : i = ds.length := by omega
            subst ei
            refine .inl ⟨gs.stop ρi Fi _ Hi hPi Si, ?_⟩
            rw [List.drop_length] at eq
            cases eq
            obtain ⟨Sb, stb, owb⟩ := back_ok Sp e1 (stw.trans sti) Si
            have h0 : H D' = none := stp.dom D' hD
            have hnb : ¬ Own (backE ρp vs ρi) σ D' := fun q => hnD (owb D' q)
            cases lk with
            | none => exact h (.ref D') Fi Hi (stp.trans stb) Sb ⟨D', rfl, hFD, ⟨accV, hDi, hacc⟩, hnb, h0⟩
            | some j =>
              obtain ⟨pp, hp1, hp2⟩ := hlk j rfl
              replace h : Out T K W ρ F σ H (relE K σ) ((Res.of (match (backE ρp vs ρi)[j]? with
                | some (.lck o) => some ((backE ρp vs ρi).set j (.own o))
                | _ => none)).bind fun ρ' => .ok (.tmp (.lst acc), ρ')) Q := h
              split at h
              · rename_i o eo
                obtain ⟨Su, stu⟩ := Sb.unlock (stp.trans stb) eo hp2 hp1
                refine h (.ref D') Fi Hi stu Su ⟨D', rfl, hFD, ⟨accV, hDi, hacc⟩, fun q => ?_, h0⟩
                obtain ⟨j', s', o', a1, a2, a3⟩ := q
                rcases isOwn_set (lt_of_get eo) a1 a2 with ⟨rfl, _⟩ | ⟨_, hj⟩
                · exact hnb ⟨_, _, o, eo, rfl, a3⟩
                · exact hnb ⟨j', s', o', hj, a2, a3⟩
              · exact h.elim
theorem lc2_parts {elt a : Mlg.E} {tg tg' : Tg} {it : Mlg.It} {vs vs1 : List Nat} (ii : PrI fnm T call k N it) (ia : PrE fnm T call k N a) (ie : PrE fnm T call k N elt) {X : Cx} {W : WX} {sc : Scope} {x t i t1 i1 : Expr} {scope : Scope} (C : Cok fnm T call k N X sc) (tk : Takes X W)
    (h : ((blkC N sc scope (ownOf N vs) && decide ((ownOf N vs).map (·.2) = vs) && plainX i && tgB N scope (fun j => !vs.contains j) tg t && enuB it tg && (mIt fnm N sc it i && true && mE fnm N (relS scope sc) elt x)) && (plainX i1 && tgB N scope (fun j => !vs1.contains j) tg' t1 && vs1.all (vs.contains ·) && mIt fnm N (relS scope sc) (.r1 a) i1)) = true) :
    (PI X t i (LW T X.K W (Mlg.walk call it)) ∧ BlkOk X.N X.env.scope scope (ownOf N vs) ∧ (ownOf N vs).map (·.2) = vs ∧ plainX i = true ∧ (∀ j ∈ tgSlots tg, j ∈ vs) ∧
    (∀ (s : Shared) (H : Hp) (Ca : Addr) (cl : List (Str × Addr)) (fp : List Addr), PG (X.blk s H scope (compEnvC scope cl Ca X.env) fp) t (gTg X.K tg)) ∧
    (∀ (s : Shared) (H : Hp) (Ca : Addr) (cl : List (Str × Addr)) (fp : List Addr), PTs (X.blk s H scope (compEnvC scope cl Ca X.env) fp) [] (LB T X.K (fun _ _ _ _ => False) (Mlg.test call .no))) ∧
    (∀ (s : Shared) (H : Hp) (Ca : Addr) (cl : List (Str × Addr)) (fp : List Addr), PE (X.blk s H scope (compEnvC scope cl Ca X.env) fp) x (LE T X.K (fun _ _ _ _ => False) (Mlg.eval call elt)))) ∧
    plainX i1 = true ∧ (∀ j ∈ tgSlots tg', j ∈ vs1) ∧ (∀ j ∈ vs1, j ∈ vs) ∧
    (∀ (s : Shared) (H : Hp) (Ca : Addr) (cl : List (Str × Addr)) (fp : List Addr), PG (X.blk s H scope (compEnvC scope cl Ca X.env) fp) t1 (gTg X.K tg')) ∧
    (∀ (s : Shared) (H : Hp) (Ca : Addr) (cl : List (Str × Addr)) (fp : List Addr), PI (X.blk s H scope (compEnvC scope cl Ca X.env) fp) t1 i1 (LWf T X.K (fun _ _ _ _ => False) (Mlg.walk call (.r1 a)))) := by
  obtain ⟨h, h'⟩ := and2 h
  obtain ⟨g1, g2, g3⟩ := and3 h'
  obtain ⟨gp, gt⟩ := and2 g1
  refine ⟨lc_parts ii c_no ie C tk (ifs := []) (by
    have e : mIf fnm N (relS scope sc) .no [] = true := by unfold mIf; rfl
    rw [e]; exact h), gp, fun j hj => ?_, fun j hj => ?_, fun s H Ca cl fp => ?_, fun s H Ca cl fp => i_r1f ia (C.blk s H scope cl Ca fp) takes0 g3⟩
  · have := tg_fx gt j hj
    simpa using this
  · have := List.all_eq_true.mp g2 j hj
    simpa using this
  · refine pg_tg C.hN C.nd (fun x hx => ?_) C.calm (fun x hx => ?_) gt
    · show Loc (relS scope X.env.scope) x
      exact (relS_loc hx).1
    · rcases (relS_loc (sc := X.env.scope) hx).2 with z | z
      · exact .inl z
      · exact .inr z
theorem e_lc2 {elt : Mlg.E} {tg tg' : Tg} {it it' : Mlg.It} {vs vs1 : List Nat} (ii : PrI fnm T call k N it) (ia : ∀ a, it' = .r1 a → PrE fnm T call k N a) (ie : PrE fnm T call k N elt) : PrE fnm T call k N (.lc2 elt tg it tg' it' vs vs1) := by
  intro X W sc x C tk h
  unfold mE at h
  try dsimp only at h
  split at h
  · rename_i x t i t1 i1 scope pos
    cases it' with
    | r1 a =>
      obtain ⟨⟨p1, p2, p3, p4, p5, p6, p7, p8⟩, q1, q2, q3, q4, q5⟩ := lc2_parts (a := a) (tg' := tg') (vs1 := vs1) (t1 := t1) (i1 := i1) ii (ia a rfl) ie C tk h
      refine PE.imp (pe_lc2 (vs1 := vs1) C.calm (by rw [C.hN]; exact C.nd) p1 p2 (by rw [p3]; exact q3) p6 p7 q5 q4 p7 p8 (fun x => plain_folded p4 x) (fun e x => plain_folded q1 x)) fun σ H Q q => ?_
      rw [p3]
      exact lc2_ok p5 q2 q3 q
    | _ => simp at h
  · cases h
end
end Msd
/-! SoundM: methods that change nothing. -/
namespace Msd
open PySem PySem.Spec PyProof.Rows L2 Mlg TL
section
variable {fnm : Nat → Option Str} {T : Errs} {call : CallT} {k : Nat} {N : List Str}
theorem Reps.texts {K : Frag} {F : Hp} : ∀ {vs : List V} {ds : List D} {xs : List Str}, Reps K F vs ds → Mlg.texts ds = some xs → vs = xs.map V.str
  | [], [], _, .nil, e => by cases e; rfl
  | v :: vs, d :: ds, xs, .cons h r, e => by
    cases d with
    | str b =>
      cases h
      have e : (Mlg.texts ds).map (b :: ·) = some xs := e
      cases q : Mlg.texts ds with
      | none => rw [q] at e; cases e
      | some js => rw [q] at e; cases e; rw [Reps.texts r q]; rfl
    | none => cases e
    | int _ => cases e
    | bool _ => cases e
    | list _ => cases e
    | tuple _ => cases e
    | dict _ => cases e
theorem str_ext {a b : Str} (h : a.cps.toList = b.cps.toList) : a = b := by
  obtain ⟨a⟩ := a
  obtain ⟨b⟩ := b
  have : a = b := by rw [← Array.toList_inj]; exact h
  rw [this]
theorem join_is (s : Str) : ∀ xs : List Str, (Str.join s xs).cps.toList = Mlg.joinL s.cps.toList xs
  | [] => rfl
  | [x] => rfl
  | x :: y :: r => by
    show (x.cps ++ s.cps ++ (Str.join s (y :: r)).cps).toList = x.cps.toList ++ s.cps.toList ++ Mlg.joinL s.cps.toList (y :: r)
    rw [Array.toList_append, Array.toList_append, join_is s (y :: r)]
theorem join_eq' (s : Str) (xs : List Str) : Txt.join s xs = ⟨(Mlg.joinL s.cps.toList xs).toArray⟩ := by
  rw [TL.join_eq]
  exact str_ext (by rw [join_is])
theorem spl_is (c : Nat) : ∀ (l acc : List Nat), spl [c] 0 acc l = match splitL c l with | w :: ws => (acc ++ w) :: ws | [] => [acc]
  | [], acc => by rw [spl_nil]; show [acc] = [acc ++ []]; rw [List.append_nil]
  | x :: r, acc => by
    by_cases h : x = c
    · subst h
      have hp : pre [x] (x :: r) = true := by unfold pre; simp
      rw [spl_hit hp]
      show acc :: spl [x] 0 [] r = _
      rw [spl_is x r []]
      have e0 : splitL x (x :: r) = [] :: splitL x r := by
        show (if x = x then [] :: splitL x r else _) = _
        rw [if_pos rfl]
      rw [e0]
      dsimp only
      rw [List.append_nil]
      congr 1
      cases e : splitL x r with
      | nil =>
        cases r with
        | nil => cases e
        | cons y r' =>
          exfalso
          unfold splitL at e
          split at e
          · cases e
          · split at e <;> cases e
      | cons w ws => simp
    · have hp : pre [c] (x :: r) = false := by unfold pre; simp [h]
      rw [spl_miss hp, spl_is c r (acc ++ [x])]
      have e0 : splitL c (x :: r) = match splitL c r with | w :: ws => (x :: w) :: ws | [] => [[x]] := by
        exact (if_neg h).trans rfl
      rw [e0]
      cases e : splitL c r with
      | nil => simp
      | cons w ws => simp
theorem split_is {s : Str} {c : Nat} (x : Str) (hs : s.cps.toList = [c]) (hc : c < 256) : Txt.split x s = (splitL c x.cps.toList).map fun w => ⟨w.toArray⟩ := by
  have ha : s.cps.all (· < 256) = true := by
    rw [← Array.all_toList, hs]
    simp [hc]
  have h1 := split_spl x s (by show s.cps.toList ≠ []; rw [hs]; simp) (kind_ok ha)
  have h2 : spl s.cps.toList 0 [] x.cps.toList = splitL c x.cps.toList := by
    rw [hs, spl_is]
    cases e : splitL c x.cps.toList with
    | nil =>
      cases hx : x.cps.toList with
      | nil => rw [hx] at e; cases e
      | cons y r' =>
        exfalso
        rw [hx] at e
        unfold splitL at e
        split at e
        · cases e
        · split at e <;> cases e
    | cons w ws => simp
  have h3 : (Txt.split x s).map (fun z : Str => z.cps.toList) = splitL c x.cps.toList := h1.trans h2
  rw [← h3, List.map_map]
  conv => lhs; rw [← List.map_id (Txt.split x s)]
  congr 1
theorem reps_strs {K : Frag} {F : Hp} (l : List (List Nat)) : Reps K F ((l.map fun w => (⟨w.toArray⟩ : Str)).map V.str) (l.map fun w => PyData.str ⟨w.toArray⟩) := by
  induction l with
  | nil => exact .nil
  | cons w l ih => exact .cons (.str _) ih
def kM1 (f : M1) (r1 r2 : R) (ρ : Env) : Res (R × Env) := match look ρ r1, look ρ r2 with
  | some x, some y => (Res.of (m1 f x y)).bind fun r => .ok (r, ρ)
  | _, _ => .no
theorem kM1_ok {K : Frag} {W : WX} {f : M1} {ρ : Env} {F H H0 : Hp} {σ : St} {Q : VK} {r1 r2 : R} {v w : V} (S : Sim K ρ F σ H) (rl1 : RelR K H0 σ ρ F H v r1) (rl2 : RelR K H0 σ ρ F H w r2) (h : Out T K W ρ F σ H (relE K σ) (kM1 f r1 r2 ρ) Q) :
    ∃ d e r', View K F H v d ∧ View K F H w e ∧ m1 f d e = some r' ∧ Out T K W ρ F σ H (relE K σ) (.ok (r', ρ)) Q := by
  unfold kM1 at h
  cases e1 : look ρ r1 with
  | none => rw [e1] at h; exact h.elim
  | some d =>
    cases e2 : look ρ r2 with
    | none => rw [e1, e2] at h; exact h.elim
    | some e =>
      rw [e1, e2] at h
      obtain ⟨r', er, h⟩ := out_of h
      exact ⟨d, e, r', look_ok S rl1 e1, look_ok S rl2 e2, er, h⟩
theorem e_m1 (f : M1) {a b : Mlg.E} (ia : PrE fnm T call k N a) (ib : PrE fnm T call k N b) : PrE fnm T call k N (.m1 f a b) := by
  intro X W sc x C tk h
  unfold mE at h
  try dsimp only at h
  split at h
  · rename_i o m p y q
    obtain ⟨h1, hp, h2⟩ := and3 h
    obtain ⟨hm, hl, ho⟩ := and3 h1
    obtain ⟨hi, hm⟩ := and2 hm
    obtain ⟨h2, h3⟩ := and2 h2
    have em : m = m1nm f := of_decide_eq_true hm
    subst em
    have po := ia X W sc o C tk h2
    have pb := ib X W sc y C tk h3
    have pa : PA X [y] (tCons (LE T X.K W (Mlg.eval call b)) tNil) := pa_cons pb pa_nil (starEach_plain hp)
    have hst : starEach [y] X.env = [(false, PySem.eval y X.env)] := starEach_plain hp
    cases f with
    | index => cases hi
    | count =>
      refine PE.imp (pe_bm PySem.F.plainAttrs_list PySem.F.slot_list_count PySem.F.type_list_count mt_lcount po pa (atr_base ho) (few_one hp) hl (starEach_plain hp) (by rfl)) fun σ H Q q => ?_
      obtain ⟨ρ, F, S, q⟩ := q
      unfold Mlg.eval at q
      refine ⟨ρ, F, S, Out.bind back_E q fun r1 ρ1 v F1 H1 s1 S1 rl1 h1 => ?_⟩
      dsimp only at h1
      split at h1
      · rename_i cm
        cases e1 : look ρ1 r1 with
        | none => rw [e1] at cm; cases cm
        | some d =>
          rw [e1] at cm
          cases d <;> first | (cases cm; done) | skip
          obtain ⟨a1, vs1, rfl, g1, g2⟩ := (look_ok S1 rl1 e1).list S1.fh
          refine ⟨.inl ⟨rfl, vs1, g1⟩, ρ1, F1, S1, Out.bind (k := fun q => kM1 .count r1 q.1 q.2) back_E h1 fun r2 ρ2 w F2 H2 s2 S2 rl2 h2 => ?_⟩
          obtain ⟨d, e, r', hv, hw, er, h⟩ := kM1_ok S2 (rl1.step S1 S2 s2) (back_E _ _ _ _ _ _ _ s1.dom rl2) h2
          cases d <;> first | (cases er; done) | skip
          cases e <;> first | (cases er; done) | skip
          rename_i ds i
          replace er : (Mlg.intsD ds).map (fun is => R.val (.int (is.count i : Nat))) = some r' := er
          cases qi : Mlg.intsD ds with
          | none => rw [qi] at er; cases er
          | some is =>
            rw [qi] at er
            cases er
            obtain ⟨a2, vs2, ea, k1, k2⟩ := hv.list S2.fh
            cases ea
            obtain ⟨k3, _⟩ := k2.ints qi
            subst k3
            exact ⟨_, is, i, rfl, by rw [hw.int], k1, out_val S2 h (.int _)⟩
      · exact h1.elim
    | join =>
      refine PE.imp (pe_join po pb hst (atr_base ho) hl) fun σ H Q q => ?_
      obtain ⟨ρ, F, S, q⟩ := q
      unfold Mlg.eval at q
      refine ⟨ρ, F, S, Out.bind back_E q fun r1 ρ1 v F1 H1 s1 S1 rl1 h1 => ?_⟩
      dsimp only at h1
      split at h1
      · rename_i cm
        cases e1 : look ρ1 r1 with
        | none => rw [e1] at cm; cases cm
        | some d =>
          rw [e1] at cm
          cases d <;> first | (cases cm; done) | skip
          have g1 := (look_ok S1 rl1 e1).str
          refine ⟨⟨_, g1⟩, ρ1, F1, S1, Out.bind (k := fun q => kM1 .join r1 q.1 q.2) back_E h1 fun r2 ρ2 w F2 H2 s2 S2 rl2 h2 => ?_⟩
          obtain ⟨d, e, r', hv, hw, er, h⟩ := kM1_ok S2 (rl1.step S1 S2 s2) (back_E _ _ _ _ _ _ _ s1.dom rl2) h2
          cases d <;> first | (cases er; done) | skip
          cases e <;> first | (cases er; done) | skip
          rename_i z ds
          replace er : (Mlg.texts ds).bind (fun xs => if (xs.map (·.cps.size)).sum + xs.length * z.cps.size < lim then some (R.val (.str ⟨(Mlg.joinL z.cps.toList xs).toArray⟩)) else none) = some r' := er
          cases qi : Mlg.texts ds with
          | none => rw [qi] at er; cases er
          | some xs =>
            rw [qi] at er
            replace er : (if (xs.map (·.cps.size)).sum + xs.length * z.cps.size < lim then some (R.val (.str ⟨(Mlg.joinL z.cps.toList xs).toArray⟩)) else none) = some r' := er
            split at er
            · rename_i cl
              cases er
              obtain ⟨a2, vs2, ea, k1, k2⟩ := hw.list S2.fh
              subst ea
              have k3 := k2.texts qi
              subst k3
              refine ⟨z, a2, xs, hv.str, rfl, .inl k1, ?_, ?_⟩
              · have : lim ≤ 16777216 := by decide
                exact Nat.le_trans (Nat.le_of_lt cl) this
              · rw [join_eq']
                exact out_val S2 h (.str _)
            · cases er
      · exact h1.elim
    | split =>
      refine PE.imp (pe_split po pb hst (atr_base ho) hl) fun σ H Q q => ?_
      obtain ⟨ρ, F, S, q⟩ := q
      unfold Mlg.eval at q
      refine ⟨ρ, F, S, Out.bind back_E q fun r1 ρ1 v F1 H1 s1 S1 rl1 h1 => ?_⟩
      dsimp only at h1
      split at h1
      · rename_i cm
        cases e1 : look ρ1 r1 with
        | none => rw [e1] at cm; cases cm
        | some d =>
          rw [e1] at cm
          cases d <;> first | (cases cm; done) | skip
          have g1 := (look_ok S1 rl1 e1).str
          refine ⟨⟨_, g1⟩, ρ1, F1, S1, Out.bind (k := fun q => kM1 .split r1 q.1 q.2) back_E h1 fun r2 ρ2 w F2 H2 s2 S2 rl2 h2 => ?_⟩
          obtain ⟨d, e, r', hv, hw, er, h⟩ := kM1_ok S2 (rl1.step S1 S2 s2) (back_E _ _ _ _ _ _ _ s1.dom rl2) h2
          cases d <;> first | (cases er; done) | skip
          cases e <;> first | (cases er; done) | skip
          rename_i z y
          replace er : (match y.cps.toList with | [c] => if c < 256 ∧ z.cps.size < lim then some (R.tmp (.lst ((splitL c z.cps.toList).map fun w => .str ⟨w.toArray⟩))) else none | _ => none) = some r' := er
          split at er
          · rename_i c ec
            split at er
            · rename_i cl
              cases er
              refine ⟨z, y, hv.str, by rw [hw.str], ?_, ?_, ?_⟩
              · have : y.length = 1 := by show y.cps.size = 1; rw [← Array.length_toList, ec]; rfl
                rw [this]; rfl
              · have h1 : lim + 1 ≤ sizeLine := by decide
                have h2 : z.length < lim := cl.2
                omega
              · intro p hp
                rw [split_is z ec cl.1]
                exact out_lst S2 h (reps_strs _) hp
            · cases er
          · cases er
      · exact h1.elim
  · cases h
end
end Msd
/-! Sound16: all expressions. -/
namespace Msd
open PySem PySem.Spec PyProof.Rows L2 Mlg
section
variable {fnm : Nat → Option Str} {T : Errs} {call : CallT} {k : Nat} {N : List Str}
theorem noE {e : Mlg.E} (h : ∀ sc x, mE fnm N sc e x = false) : PrE fnm T call k N e := fun X W sc x C tk h' => by rw [h] at h'; cases h'
theorem noT {e : Mlg.E} (h : tstB e = false) : PrT fnm T call k N e := fun X W sc x C tk ht h' => by rw [h] at ht; cases ht
theorem noW {e : Mlg.E} (h : ∀ sc op xs p, mE fnm N sc e (.BoolOp op xs p) = false) : PrW fnm T call k N e := fun X W sc op xs p C tk h' => by rw [h] at h'; cases h'
theorem t_var (i : Nat) : PrT fnm T call k N (.var i) := by
  intro X W sc x C tk ht h
  have hx := e_var (T := T) (call := call) (k := k) i X W sc x C tk h
  unfold mE at h
  cases x <;> first | (cases h; done) | skip
  exact pt_of hx (by intro _; rfl)
theorem e_rev {a : Mlg.E} (ia : PrE fnm T call k N a) : PrE fnm T call k N (.rev a) := by
  intro X W sc x C tk h
  unfold mE at h
  try dsimp only at h
  split at h
  · rename_i x kk p1 p2 p3 pos
    refine PE.imp (pe_revL (ia X W sc x C tk h)) fun σ H Q q => ?_
    obtain ⟨ρ, F, S, q⟩ := q
    refine ⟨ρ, F, S, Out.bind back_E q fun r1 ρ1 v F1 H1 s1 S1 rl1 h1 => ?_⟩
    try dsimp only at h1
    cases e1 : look ρ1 r1 with
    | none => rw [e1] at h1; exact h1.elim
    | some d =>
      rw [e1] at h1
      obtain ⟨r, er, h⟩ := out_of h1
      have hv := look_ok S1 rl1 e1
      cases d <;> first | (cases er; done) | skip
      · cases er
        obtain ⟨a, vs, rfl, h4, h5⟩ := hv.list S1.fh
        exact ⟨a, vs, rfl, h4, fun p hp => out_lst S1 h h5.reverse hp⟩
  · cases h
mutual
theorem allE : ∀ e : Mlg.E, PrE fnm T call k N e ∧ PrT fnm T call k N e ∧ PrW fnm T call k N e
  | .var i => ⟨e_var i, t_var i, noW fun _ _ _ _ => by unfold mE; rfl⟩
  | .cst d => ⟨e_cst d, noT rfl, noW fun _ _ _ _ => by unfold mE; rfl⟩
  | .glo g d => ⟨e_glo g d, noT rfl, noW fun _ _ _ _ => by unfold mE; rfl⟩
  | .bin o a b => ⟨e_bin o (allE a).1 (allE b).1, noT rfl, noW fun _ _ _ _ => by unfold mE; rfl⟩
  | .neg a => ⟨e_neg (allE a).1, noT rfl, noW fun _ _ _ _ => by unfold mE; rfl⟩
  | .cmp o a b => ⟨(e_cmp o (allE a).1 (allE b).1).1, (e_cmp o (allE a).1 (allE b).1).2, noW fun _ _ _ _ => by unfold mE; rfl⟩
  | .chn o o2 a b c => ⟨(e_chn o o2 (allE a).1 (allE b).1 (allE c).1).1, (e_chn o o2 (allE a).1 (allE b).1 (allE c).1).2, noW fun _ _ _ _ => by unfold mE; rfl⟩
  | .isN a => ⟨(e_isN (allE a).1).1, (e_isN (allE a).1).2, noW fun _ _ _ _ => by unfold mE; rfl⟩
  | .ntN a => ⟨(e_ntN (allE a).1).1, (e_ntN (allE a).1).2, noW fun _ _ _ _ => by unfold mE; rfl⟩
  | .and a b => e_and (allE a).1 (allE a).2.1 (allE b).1 (allE b).2.1 (allE b).2.2
  | .or a b => e_or (allE a).1 (allE a).2.1 (allE b).1 (allE b).2.1 (allE b).2.2
  | .not a => ⟨(e_not (allE a).1 (allE a).2.1).1, (e_not (allE a).1 (allE a).2.1).2, noW fun _ _ _ _ => by unfold mE; rfl⟩
  | .ite c a b => ⟨e_ite (allE c).2.1 (allE a).1 (allE b).1, noT rfl, noW fun _ _ _ _ => by unfold mE; rfl⟩
  | .call f as => ⟨(e_call f (allS as).2).1, (e_call f (allS as).2).2, noW fun _ _ _ _ => by unfold mE; rfl⟩
  | .b1 f a => ⟨(e_b1 f (allE a).1).1, (e_b1 f (allE a).1).2, noW fun _ _ _ _ => by unfold mE; rfl⟩
  | .b2 f a b => ⟨e_b2 f (allE a).1 (allE b).1, noT rfl, noW fun _ _ _ _ => by unfold mE; rfl⟩
  | .m1 f a b => ⟨e_m1 f (allE a).1 (allE b).1, noT rfl, noW fun _ _ _ _ => by unfold mE; rfl⟩
  | .ix a i => ⟨(e_ix (allE a).1 (allE i).1).1, (e_ix (allE a).1 (allE i).1).2, noW fun _ _ _ _ => by unfold mE; rfl⟩
  | .sl a lo hi => ⟨e_sl (allE a).1 (allO lo).1 (allO hi).1, noT rfl, noW fun _ _ _ _ => by unfold mE; rfl⟩
  | .rev a => ⟨e_rev (allE a).1, noT rfl, noW fun _ _ _ _ => by unfold mE; rfl⟩
  | .tup es => ⟨e_tup (allS es).1, noT rfl, noW fun _ _ _ _ => by unfold mE; rfl⟩
  | .lst es => ⟨e_lst (allS es).1, noT rfl, noW fun _ _ _ _ => by unfold mE; rfl⟩
  | .dnew t => ⟨e_dnew t, noT rfl, noW fun _ _ _ _ => by unfold mE; rfl⟩
  | .dsp a b => ⟨e_dsp (allE a).1 (allE b).1, noT rfl, noW fun _ _ _ _ => by unfold mE; rfl⟩
  | .din neg a i => ⟨(e_din neg i (allE a).1).1, (e_din neg i (allE a).1).2, noW fun _ _ _ _ => by unfold mE; rfl⟩
  | .dvals i => ⟨e_dvals i, noT rfl, noW fun _ _ _ _ => by unfold mE; rfl⟩
  | .rg1 l a => ⟨e_rg1 l (allE a).1, noT rfl, noW fun _ _ _ _ => by unfold mE; rfl⟩
  | .rg2 l a b => ⟨e_rg2 l (allE a).1 (allE b).1, noT rfl, noW fun _ _ _ _ => by unfold mE; rfl⟩
  | .lc elt tg it c vs => ⟨e_lc (allJ it).1 (allO c).2.1 (allE elt).1, noT rfl, noW fun _ _ _ _ => by unfold mE; rfl⟩
  | .lc2 elt tg it tg' it' vs vs1 => ⟨e_lc2 (allJ it).1 (allJ it').2 (allE elt).1, noT rfl, noW fun _ _ _ _ => by unfold mE; rfl⟩
  | .dc a b tg it c vs => ⟨e_dc (allJ it).1 (allO c).2.1 (allE a).1 (allE b).1, noT rfl, noW fun _ _ _ _ => by unfold mE; rfl⟩
  | .app i a => ⟨e_app i (allE a).1, noT rfl, noW fun _ _ _ _ => by unfold mE; rfl⟩
  | .pop i a => ⟨e_pop i (allO a).2.2, noT rfl, noW fun _ _ _ _ => by unfold mE; rfl⟩
  | .get i a d => ⟨noE fun _ _ => by unfold mE; rfl, noT rfl, noW fun _ _ _ _ => by unfold mE; rfl⟩
theorem allS : ∀ es : Mlg.Es, PrV fnm T call k N es ∧ PrA fnm T call k N es
  | .nil => ⟨v_nil, a_nil⟩
  | .cons e es => ⟨v_cons (allE e).1 (allS es).1, a_cons (allE e).1 (allS es).2⟩
  | .star e es => ⟨v_star (allE e).1 (allS es).1, a_star⟩
theorem allO : ∀ o : Mlg.Eo, PrO fnm T call k N o ∧ PrC fnm T call k N o ∧ ∀ e, o = .so e → PrE fnm T call k N e
  | .no => ⟨o_no, c_no, fun e h => by cases h⟩
  | .so e => ⟨o_so (allE e).1, c_so (allE e).2.1, fun e' h => by cases h; exact (allE e).1⟩
theorem allJ : ∀ it : Mlg.It, PrI fnm T call k N it ∧ ∀ a, it = .r1 a → PrE fnm T call k N a
  | .r1 a => ⟨i_r1 (allE a).1, fun b h => by cases h; exact (allE a).1⟩
  | .r2 a b => ⟨i_r2 (allE a).1 (allE b).1, fun _ h => by cases h⟩
  | .r3 a b c => ⟨i_r3 (allE a).1 (allE b).1 (allE c).1, fun _ h => by cases h⟩
  | .envar i => ⟨i_envar i, fun _ h => by cases h⟩
  | .enu a => ⟨i_enu (allE a).1, fun _ h => by cases h⟩
  | .var i => ⟨i_var i, fun _ h => by cases h⟩
  | .val a => ⟨i_val (allE a).1, fun _ h => by cases h⟩
end
theorem allI (it : Mlg.It) : PrI fnm T call k N it := (allJ it).1
end
end Msd
/-! Sound17: statements. -/
namespace Msd
open PySem PySem.Spec PyProof.Rows L2 Mlg
/-! ### a term tells a text: statements -/
def fxAnd (fx : Nat → Bool) (lk : Mlg.It) : Nat → Bool := match lk with
  | .var j => fun i => fx i || decide (i = j)
  | .envar j => fun i => fx i || decide (i = j)
  | _ => fx
/-- the value of a plain store is no comprehension that is stored within -/
def swB (sc : Scope) (y : Str) (py : Pos) : Expr → Bool
  | .ListComp _ _ scope p => decide (sc.names.lookup y = some .local) && (py.line == p.line) && !(scope.names.any fun (n, k) => n == y && (k == .local || k == .cell))
  | .DictComp _ _ _ scope p => decide (sc.names.lookup y = some .local) && (py.line == p.line) && !(scope.names.any fun (n, k) => n == y && (k == .local || k == .cell))
  | _ => false
def compB : Expr → Bool
  | .ListComp _ _ _ _ => true
  | .SetComp _ _ _ _ => true
  | .DictComp _ _ _ _ _ => true
  | _ => false
def cellB (sc : Scope) (y : Str) : Bool := decide (sc.names.lookup y = some .cell)
def starB : Expr → Bool
  | .Starred _ _ => true
  | _ => false
def swNames (sc : Scope) (ts : List Expr) : List Str :=
  ts.filterMap fun
    | .Name id pos => if sc.names.lookup id == some .local && pos.line == (ts.head?.map (·.pos.line)).getD 0 then some id else none
    | _ => none
def isLoc (sc : Scope) (line : Nat) : Expr → Bool
  | .Name x p => (sc.names.lookup x == some .local) && (p.line == line)
  | _ => false
/-- .. the stores exchanged -/
def parB (sc : Scope) (is : List Nat) (ts vs : List Expr) : Bool :=
  (is.length == 2 || is.length == 3) && decide (is.Nodup) && decide (vs.length = is.length) && ts.all (isLoc sc ((ts.head?.map (·.pos.line)).getD 0)) && decide ((swNames sc ts).eraseDups.length = is.length) && !(vs.all (foldedForSure 8)) && !(vs.all (constantsAlone 8))
/-- .. a plain tuple taken apart -/
def tupB (sc : Scope) (ts vs : List Expr) : Bool :=
  (!(ts.length == 2 || ts.length == 3) || vs.length != ts.length) || ((swNames sc ts).length != ts.length || (swNames sc ts).eraseDups.length != (swNames sc ts).length) || vs.all (foldedForSure 8)
/-- an except suite -/
def mU (N : List Str) (sc : Scope) (fx : Nat → Bool) : U → List Stmt → Bool
  | .set i d, [.Assign [.Name y _] (.Constant c _ _) _] => decide (N[i]? = some y) && locB sc y && nameB y && !fx i && cstB d c
  | .inc i n, [.Assign [.Name y _] (.BinOp (.Name y' _) .Add (.Constant c _ _) _) _] => decide (N[i]? = some y) && locB sc y && nameB y && !fx i && (decide (y' = y) && cstB (.int n) c)
  | .app i d, [.Expr (.Call (.Attribute (.Name y _) m p) [.Constant c _ _] [] q) _] => decide (m = ("append" : Str)) && decide (N[i]? = some y) && visB sc y && nameB y && (p.endLine == q.line) && cstB d c
  | _, _ => false
def mHs (ern : Nat → Option Str) (N : List Str) (sc : Scope) (fx : Nat → Bool) : List (Nat × Option Nat × U) → List ExceptHandler → Bool
  | [], [] => true
  | (c, none, u) :: hs, .ExceptHandler (some (.Name y _)) none (b0 :: su) _ :: hds => decide (ern c = some y) && gloB sc y && nameB y && mU N sc fx u (b0 :: su) && mHs ern N sc fx hs hds
  | _, _ => false
section
variable (fnm ern : Nat → Option Str) (N : List Str) (sc : Scope)
mutual
def mS (fx : Nat → Bool) : Mlg.S → Stmt → Bool
  | .asg i e, x => match x with
    | .Assign [.Name y py] v pos => decide (N[i]? = some y) && locB sc y && nameB y && !fx i && !(compB v && !(swB sc y py v || cellB sc y)) && mE fnm N sc e v
    | _ => false
  | .par is es, x => match x with
    | .Assign [.Tuple ts j p] (.Tuple vs _ _) pos => tgB N sc fx (.tup is) (.Tuple ts j p) && (parB sc is ts vs || (decide (is.length ≤ 8) && tupB sc ts vs)) && (nst es && mEs fnm N sc es vs)
    | _ => false
  | .unp is e, x => match x with
    | .Assign [.Tuple ts k p] v pos => tgB N sc fx (.tup is) (.Tuple ts k p) && plainX v && (match v with | .Tuple _ _ _ => false | _ => true) && mE fnm N sc e v
    | _ => false
  | .sub i ix e, x => match x with
    | .Assign [.Subscript (.Name y _) z _] v pos => decide (N[i]? = some y) && visB sc y && nameB y && plainX z && !compB v && (mE fnm N sc ix z && mE fnm N sc e v)
    | _ => false
  | .swp i a b c d, x => match x with
    | .Assign [.Tuple [.Subscript (.Name y _) za _, .Subscript (.Name y' _) zb _] _ _] (.Tuple [u, v] _ _) pos => decide (N[i]? = some y) && visB sc y && nameB y && (decide (y' = y) && plainX za && plainX zb) && (plainX u && plainX v) && (mE fnm N sc a za && mE fnm N sc b zb && (mE fnm N sc (.ix (.var i) c) u && mE fnm N sc (.ix (.var i) d) v))
    | _ => false
  | .aug i o e, x => match x with
    | .AugAssign (.Name y _) op v pos => decide (N[i]? = some y) && locB sc y && nameB y && !fx i && (decide (o = .add) || decide (o = .sub)) && decide (op = opOf o) && mE fnm N sc e v
    | _ => false
  | .exp e, x => match x with
    | .Expr v pos => !compB v && mE fnm N sc e v
    | _ => false
  | .ret e, x => match x with
    | .Return (some v) _ => mE fnm N sc e v
    | _ => false
  | .cond c a b, x => match x with
    | .If c' a' b' _ => tstB c && (mE fnm N sc c c' && mSs fx a a' && mSs fx b b')
    | _ => false
  | .loop tg it b, x => match x with
    | .For t i b' [] _ => tgB N sc (fxAnd fx it) tg t && enuB it tg && plainX i && (mIt fnm N sc it i && mSs (fxAnd fx it) b b')
    | _ => false
  | .whil c b, x => match x with
    | .While c' b' [] _ => tstB c && (mE fnm N sc c c' && mSs fx b b')
    | _ => false
  | .rais c e, x => match e, x with
    | .no, .Raise (some (.Call (.Name y _) [] [] _)) none _ => decide (ern c = some y) && gloB sc y && nameB y && !(c == 7 || c == 13)
    | _, _ => false
  | .tri b hs, x => match x with
    | .Try body (h0 :: hds) [] [] _ => mHs ern N sc fx hs (h0 :: hds) && mSs fx b body
    | _ => false
  | .stuck, _ => true
  | .pass, x => match x with
    | .Pass _ => true
    | _ => false
def mSs (fx : Nat → Bool) : Mlg.Ss → List Stmt → Bool
  | .nil, x => match x with
    | [] => true
    | _ => false
  | .cons s r, x => match x with
    | x :: xs => mS fx s x && mSs fx r xs
    | _ => false
end
end
/-- the context of statements -/
structure Sok (fnm : Nat → Option Str) (T : Errs) (call : CallT) (k : Nat) (N : List Str) (X : Cx) (sc : Scope) : Prop extends Cok fnm T call k N X sc where
  kind : sc.kind = .function
  fn : ∀ x, X.fn x = true
  stk : X.stack = X.env :: X.outer
  frm : X.env.frame = some X.env.locals
  po : PassesOwn (model X.prog X.w) X.A X.env X.xe
theorem PS.imp {X : Cx} {x : Stmt} {t t' : TS} (h : PS X x t) (i : ∀ D σ H, t' D σ H → t D σ H) : PS X x t' := ⟨fun pins s σ H D I q => h.run pins s σ H D I (i D σ H q)⟩
theorem PSs.imp {X : Cx} {x : List Stmt} {t t' : TS} (h : PSs X x t) (i : ∀ D σ H, t' D σ H → t D σ H) : PSs X x t' := ⟨fun pins s σ H D I q => h.run pins s σ H D I (i D σ H q)⟩
def OutS (T : Errs) (K : Frag) (W : WX) (fx : Nat → Bool) (ρ : Env) (F : Hp) (σ : St) (H : Hp) (res : Res (Env × Option R)) (D : Ends) : Prop := match res with
  | .ok (ρ', none) => ∀ σ' F' H', Step ρ σ F H ρ' σ' F' H' → Sim K ρ' F' σ' H' → Fx fx σ σ' → D.nx σ' H'
  | .ok (ρ', some r) => ∀ v σ' F' H', Step ρ σ F H ρ' σ' F' H' → Sim K ρ' F' σ' H' → Fx fx σ σ' → RetR K ρ σ H ρ' F' σ' H' v r → D.rt v H'
  | .exc c f ρ' => ∀ σ' F' H' cls d, Step ρ σ F H ρ' σ' F' H' → Sim K ρ' F' σ' H' → Fx fx σ σ' → ExcR T K F' H' c f cls d → W cls d σ' H'
  | .no => False
section
variable {T : Errs} {K : Frag} {W : WX} {fx : Nat → Bool} {ρ ρ1 : Env} {F H F1 H1 : Hp} {σ σ1 : St} {D : Ends}
theorem OutS.rebase {res : Res (Env × Option R)} (st : Step ρ σ F H ρ1 σ1 F1 H1) (fxs : Fx fx σ σ1) (h : OutS T K W fx ρ F σ H res D) : OutS T K W fx ρ1 F1 σ1 H1 res D := by
  cases res with
  | no => exact h
  | exc c f ρ' => exact fun σ' F' H' cls d s S x e => h σ' F' H' cls d (st.trans s) S (fxs.trans x) e
  | ok p =>
    obtain ⟨ρ', o⟩ := p
    cases o with
    | none => exact fun σ' F' H' s S x => h σ' F' H' (st.trans s) S (fxs.trans x)
    | some r => exact fun v σ' F' H' s S x rl => h v σ' F' H' (st.trans s) S (fxs.trans x) (by
        cases r with
        | val d => exact rl
        | loc _ => exact rl.elim
        | tmp o =>
          obtain ⟨p, a, b, c, d, e⟩ := rl
          exact ⟨p, a, b, c, d, e.elim (fun z => .inl (st.dom p z)) fun z => (st.own p z).elim .inr .inl⟩)
/-- an expression, then the rest -/
theorem OutS.bind {α β : Type} {Rl : Hp → Env → Hp → Hp → β → α → Prop} {res : Res (α × Env)} {kk : α × Env → Res (Env × Option R)} {Q1 : β → Hp → Prop} (h : OutS T K W fx ρ F σ H (res.bind kk) D)
    (hk : ∀ a ρ1 b F1 H1, Step ρ σ F H ρ1 σ F1 H1 → Sim K ρ1 F1 σ H1 → Rl H ρ1 F1 H1 b a → OutS T K W fx ρ F σ H (kk (a, ρ1)) D → Q1 b H1) : Out T K W ρ F σ H Rl res Q1 := by
  cases res with
  | ok p => exact fun b F' H' s S r => hk p.1 p.2 b F' H' s S r h
  | exc c f ρ' => exact fun F' H' cls d s S e => h σ F' H' cls d s S .refl e
  | no => exact h
theorem OutS.bind1 {α β : Type} {Rl : Hp → Env → Hp → Hp → β → α → Prop} {res : Res (α × Env)} {kk : α × Env → Res (Env × Option R)} {Q1 : β → Hp → Prop} (st : Step ρ σ F H ρ1 σ F1 H1) (h : OutS T K W fx ρ F σ H (res.bind kk) D)
    (hk : ∀ a ρ2 b F2 H2, Step ρ1 σ F1 H1 ρ2 σ F2 H2 → Sim K ρ2 F2 σ H2 → Rl H1 ρ2 F2 H2 b a → OutS T K W fx ρ F σ H (kk (a, ρ2)) D → Q1 b H2) : Out T K W ρ1 F1 σ H1 Rl res Q1 := by
  cases res with
  | ok p => exact fun b F' H' s S r => hk p.1 p.2 b F' H' s S r h
  | exc c f ρ' => exact fun F' H' cls d s S r => h σ F' H' cls d (st.trans s) S .refl r
  | no => exact h
end
def LS (T : Errs) (K : Frag) (W : WX) (fx : Nat → Bool) (m : Env → Res (Env × Option R)) : TS := fun D σ H => ∃ ρ F, Sim K ρ F σ H ∧ OutS T K W fx ρ F σ H (m ρ) D
section
variable {fnm : Nat → Option Str} {T : Errs} {call : CallT} {k np : Nat} {N : List Str}
def PrS (fnm : Nat → Option Str) (T : Errs) (call : CallT) (k np : Nat) (N : List Str) (s : Mlg.S) : Prop :=
  ∀ (X : Cx) (W : WX) (sc : Scope) (fx : Nat → Bool) (x : Stmt), Sok fnm T call k N X sc → Takes X W → mS fnm T.nm N sc fx s x = true → PS X x (LS T X.K W fx (Mlg.exec call np s))
def PrSs (fnm : Nat → Option Str) (T : Errs) (call : CallT) (k np : Nat) (N : List Str) (s : Mlg.Ss) : Prop :=
  ∀ (X : Cx) (W : WX) (sc : Scope) (fx : Nat → Bool) (xs : List Stmt), Sok fnm T call k N X sc → Takes X W → mSs fnm T.nm N sc fx s xs = true → PSs X xs (LS T X.K W fx (Mlg.execs call np s))
theorem ss_nil : PrSs fnm T call k np N .nil := by
  intro X W sc fx x C tk h
  unfold mSs at h
  try dsimp only at h
  split at h
  · exact PSs.imp pss_nil fun D σ H q => by obtain ⟨ρ, F, S, q⟩ := q; exact q σ F H .refl S .refl
  · cases h
theorem ss_cons {s : Mlg.S} {r : Mlg.Ss} (is : PrS fnm T call k np N s) (ir : PrSs fnm T call k np N r) : PrSs fnm T call k np N (.cons s r) := by
  intro X W sc fx x C tk h
  unfold mSs at h
  try dsimp only at h
  split at h
  · rename_i x xs
    obtain ⟨h1, h2⟩ := and2 h
    refine PSs.imp (pss_cons (is X W sc fx x C tk h1) (ir X W sc fx xs C tk h2)) fun D σ H q => ?_
    obtain ⟨ρ, F, S, q⟩ := q
    refine ⟨ρ, F, S, ?_⟩
    unfold Mlg.execs at q
    cases e : Mlg.exec call np s ρ with
    | no => rw [e] at q; exact q
    | exc c f ρ' => rw [e] at q; exact q
    | ok p =>
      rw [e] at q
      obtain ⟨ρ', o⟩ := p
      cases o with
      | none => exact fun σ' F' H' st S' fxs => ⟨ρ', F', S', OutS.rebase st fxs q⟩
      | some r => exact q
  · cases h
theorem s_pass : PrS fnm T call k np N .pass := by
  intro X W sc fx x C tk h
  unfold mS at h
  try dsimp only at h
  split at h
  · exact PS.imp ps_pass fun D σ H q => by obtain ⟨ρ, F, S, q⟩ := q; exact q σ F H .refl S .refl
  · cases h
/-- a name gets a result -/
theorem put_res {K : Frag} {ρ0 ρ ρ' : Env} {F0 H0 F H : Hp} {σ : St} {i : Nat} {r : R} {v : V} (st : Step ρ0 σ F0 H0 ρ σ F H) (S : Sim K ρ F σ H) (rl : RelR K H0 σ ρ F H v r) (e : put ρ i r = some ρ') : ∃ F', Step ρ0 σ F0 H0 ρ' (σ.set i (some v)) F' H ∧ Sim K ρ' F' (σ.set i (some v)) H := by
  cases r with
  | val d =>
    unfold Mlg.put at e
    dsimp only at e
    split at e
    · rename_i c
      cases e
      exact ⟨F, st.trans (Step.setSlot c rfl), S.putV c rl⟩
    · cases e
  | tmp o =>
    unfold Mlg.put at e
    dsimp only at e
    split at e
    · rename_i c
      cases e
      obtain ⟨p, rfl, hF, ho, hn, h0⟩ := rl
      exact ⟨F, Step.putOwn st c h0 (by rw [← S.len]; exact c), S.putOwn c hF ho hn⟩
    · cases e
  | loc j =>
    unfold Mlg.put at e
    dsimp only at e
    split at e
    · rename_i c
      cases ef : fix ρ (.loc j) with
      | none => rw [ef] at e; cases e
      | some p =>
        rw [ef] at e
        cases e
        obtain ⟨F', st', S', hr⟩ := fix_step st S rl ef
        have c' : i < p.2.length := by
          have : p.2.length = ρ.length := by rw [S'.len, S.len]
          rw [this]; exact c
        exact ⟨F', st'.trans (Step.setSlot c' rfl), S'.putV c' hr⟩
    · cases e
theorem swaps_no {v : Expr} {t : Option Expr} {l : Nat} {env : PySem.Env} (h : compB v = false) : swapsWith v t l env = pure false := by
  cases v <;> first | rfl | cases h
theorem s_asg (i : Nat) {e : Mlg.E} : PrS fnm T call k np N (.asg i e) := by
  intro X W sc fx x C tk h
  unfold mS at h
  try dsimp only at h
  split at h
  · rename_i y py v pos
    obtain ⟨h1, hsw, he⟩ := and3 h
    obtain ⟨h1, hn, hfx⟩ := and3 h1
    obtain ⟨hN, hl⟩ := and2 h1
    have hfx : fx i = false := by simpa using hfx
    have rd : ∀ D σ H, LS T X.K W fx (Mlg.exec call np (.asg i e)) D σ H → tAsg (LE T X.K W (Mlg.eval call e)) (gName i) D σ H := by
      intro D σ H q
      obtain ⟨ρ, F, S, q⟩ := q
      refine ⟨ρ, F, S, OutS.bind q fun r ρ1 v F1 H1 st S1 rl h => ?_⟩
      try dsimp only at h
      cases ep : put ρ1 i r with
      | none => rw [ep] at h; exact h.elim
      | some ρ2 =>
        rw [ep] at h
        obtain ⟨F2, st2, S2⟩ := put_res st S1 rl ep
        exact h _ F2 H1 st2 S2 (Fx.set hfx)
    cases hc : compB v with
    | false =>
      exact PS.imp (ps_set (by rw [C.hN]; exact C.nd) (by rw [C.hN]; exact of_decide_eq_true hN) (by rw [C.hsc]; exact locB_ok hl) ((allE e).1 X W sc v C.toCok tk he) (swaps_no hc) (.inl (C.fn y))) rd
    | true =>
      cases hcl : cellB sc y with
      | true =>
        have hk : X.env.kindOf y = some .cell := by show X.env.scope.names.lookup y = _; rw [C.hsc]; exact of_decide_eq_true hcl
        have sw : swapsWith v (some (.Name y py)) pos.line X.env = pure false := by
          cases v <;> first | (cases hc; done) | skip
          all_goals
            unfold swapsWith
            simp only [hk]
            rw [show ((some NameKind.cell : Option NameKind) == some NameKind.local) = false from rfl]
            simp
        exact PS.imp (ps_set (by rw [C.hN]; exact C.nd) (by rw [C.hN]; exact of_decide_eq_true hN) (by rw [C.hsc]; exact locB_ok hl) ((allE e).1 X W sc v C.toCok tk he) sw (.inl (C.fn y))) rd
      | false =>
      have hs : swB sc y py v = true := by rw [hc, hcl] at hsw; simpa using hsw
      cases v <;> first | (cases hs; done) | skip
      rotate_left
      · rename_i kx vx gens scope lpos
        cases e <;> first | (unfold mE at he; cases he; done) | skip
        rename_i ke ve tg it c vs
        unfold mE at he
        try dsimp only at he
        split at he
        · rename_i y' x t i' ifs scope' pos' heq
          cases heq
          obtain ⟨he, hk⟩ := and2 he
          obtain ⟨p1, p2, p3, p4, p5, p6, p7, p8⟩ := lc_parts (allI it) (allO c).2.1 (allE ve).1 C.toCok tk he
          obtain ⟨s1, s2, s3⟩ := and3 hs
          have hyl : X.env.scope.names.lookup y = some .local := by rw [C.hsc]; exact of_decide_eq_true s1
          refine PS.imp (ps_setDc (tk := LE T X.K (fun _ _ _ _ => False) (Mlg.eval call ke)) C.calm (by rw [C.hN]; exact C.nd) (by rw [C.hN]; exact of_decide_eq_true hN) hyl (sw_dc (by rw [C.hsc]; exact C.kind) hyl s2 (by simpa using s3)) p1 p2 p6 p7 (fun s H Ca cl fp => (allE ke).1 _ _ _ _ (C.toCok.blk s H scope cl Ca fp) takes0 hk) p8 (fun x => plain_folded p4 x)) fun D σ H q => ?_
          rw [p3]
          exact dc_ok p5 (rd D σ H q)
        · cases he
      rename_i elt gens scope lpos
      have he0 := he
      cases e <;> first | (unfold mE at he; cases he; done) | skip
      rotate_left
      · rename_i el tg it tg' it' vs vs1
        unfold mE at he
        try dsimp only at he
        split at he
        · rename_i x t i' t1 i1 scope' pos' heq
          cases heq
          cases it' with
          | r1 a =>
            obtain ⟨⟨p1, p2, p3, p4, p5, p6, p7, p8⟩, q1, q2, q3, q4, q5⟩ := lc2_parts (a := a) (tg' := tg') (vs1 := vs1) (t1 := t1) (i1 := i1) (allI it) ((allJ (.r1 a)).2 a rfl) (allE el).1 C.toCok tk he
            obtain ⟨s1, s2, s3⟩ := and3 hs
            have hyl : X.env.scope.names.lookup y = some .local := by rw [C.hsc]; exact of_decide_eq_true s1
            refine PS.imp (ps_setLc2 (vs1 := vs1) C.calm (by rw [C.hN]; exact C.nd) (by rw [C.hN]; exact of_decide_eq_true hN) hyl (sw_true (by rw [C.hsc]; exact C.kind) hyl s2 (by simpa using s3)) p1 p2 (by rw [p3]; exact q3) p6 p7 q5 q4 p7 p8 (fun x => plain_folded p4 x) (fun e x => plain_folded q1 x)) fun D σ H q => ?_
            rw [p3]
            exact lc2_ok p5 q2 q3 (rd D σ H q)
          | _ => simp at he
        · cases he
      rename_i el tg it c vs
      unfold mE at he
      try dsimp only at he
      split at he
      · rename_i x t i' ifs scope' pos' heq
        cases heq
        obtain ⟨p1, p2, p3, p4, p5, p6, p7, p8⟩ := lc_parts (allI it) (allO c).2.1 (allE el).1 C.toCok tk he
        obtain ⟨s1, s2, s3⟩ := and3 hs
        have hyl : X.env.scope.names.lookup y = some .local := by rw [C.hsc]; exact of_decide_eq_true s1
        refine PS.imp (ps_setLc C.calm (by rw [C.hN]; exact C.nd) (by rw [C.hN]; exact of_decide_eq_true hN) hyl (sw_true (by rw [C.hsc]; exact C.kind) hyl s2 (by simpa using s3)) p1 p2 p6 p7 p8 (fun x => plain_folded p4 x)) fun D σ H q => ?_
        rw [p3]
        exact lc_ok p5 (rd D σ H q)
      · cases he
  · cases h
theorem s_exp {e : Mlg.E} : PrS fnm T call k np N (.exp e) := by
  intro X W sc fx x C tk h
  unfold mS at h
  try dsimp only at h
  split at h
  · rename_i v pos
    obtain ⟨hc, he⟩ := and2 h
    refine PS.imp (ps_expr ((allE e).1 X W sc v C.toCok tk he) (swaps_no (by simpa using hc))) fun D σ H q => ?_
    obtain ⟨ρ, F, S, q⟩ := q
    exact ⟨ρ, F, S, OutS.bind q fun r ρ1 v F1 H1 st S1 rl h => h σ F1 H1 st S1 .refl⟩
  · cases h
theorem s_cond {c : Mlg.E} {a b : Mlg.Ss} (ia : PrSs fnm T call k np N a) (ib : PrSs fnm T call k np N b) : PrS fnm T call k np N (.cond c a b) := by
  intro X W sc fx x C tk h
  unfold mS at h
  try dsimp only at h
  split at h
  · rename_i c' a' b' pos
    obtain ⟨ht, h1⟩ := and2 h
    obtain ⟨h1, h2, h3⟩ := and3 h1
    refine PS.imp (ps_if ((allE c).2.1 X W sc c' C.toCok tk ht h1) (ia X W sc fx a' C tk h2) (ib X W sc fx b' C tk h3)) fun D σ H q => ?_
    obtain ⟨ρ, F, S, q⟩ := q
    refine ⟨ρ, F, S, OutS.bind q fun r ρ1 v F1 H1 st S1 rl h => ?_⟩
    have rl : v = r := rl
    subst rl
    cases v with
    | true => rw [if_pos rfl] at h ⊢; exact ⟨ρ1, F1, S1, OutS.rebase st .refl h⟩
    | false => rw [if_neg Bool.false_ne_true] at h ⊢; exact ⟨ρ1, F1, S1, OutS.rebase st .refl h⟩
  · cases h

theorem s_ret {e : Mlg.E} : PrS fnm T call k np N (.ret e) := by
  intro X W sc fx x C tk h
  unfold mS at h
  try dsimp only at h
  split at h
  · rename_i v pos
    refine PS.imp (ps_ret ((allE e).1 X W sc v C.toCok tk h)) fun D σ H q => ?_
    obtain ⟨ρ, F, S, q⟩ := q
    refine ⟨ρ, F, S, OutS.bind q fun r ρ1 v F1 H1 st S1 rl h => ?_⟩
    try dsimp only at h
    cases r with
    | val d => exact h v σ F1 H1 st S1 .refl rl
    | tmp o =>
      obtain ⟨p, a, b, c, d, e⟩ := rl
      exact h v σ F1 H1 st S1 .refl ⟨p, a, b, c, d, .inl e⟩
    | loc i =>
      unfold retOf at h
      dsimp only at h
      split at h
      · cases ef : fix ρ1 (.loc i) with
        | none => rw [ef] at h; exact h.elim
        | some p =>
          rw [ef] at h
          obtain ⟨F', st', S', hr⟩ := fix_step st S1 rl ef
          exact h v σ F' H1 st' S' .refl hr
      · obtain ⟨rl, pp, rfl⟩ := rl
        have key : ∀ o s, ρ1[i]? = some s → isOwn s = some o → SlotR X.K F1 H1 σ i s → OutS T X.K W fx ρ F σ H (.ok (ρ1.set i .un, some (.tmp o))) D → (∃ p, σ[i]? = some (some (.ref p)) ∧ F1 p = none ∧ ObjR X.K F1 H1 p o) → D.rt (.ref pp) H1 := by
          intro o s hs ho _ h ⟨p, g1, g2, g3⟩
          rw [rl] at g1
          cases g1
          have hi := lt_of_get hs
          have S2 := S1.putUn (x := some (.ref pp)) hi
          have eσ : σ.set i (some (.ref pp)) = σ := by
            apply List.ext_getElem?
            intro j
            by_cases ej : j = i
            · subst ej; rw [List.getElem?_set_self (by rw [← S1.len]; exact hi), rl]
            · rw [List.getElem?_set_ne (Ne.symm ej)]
          rw [eσ] at S2
          have st2 : Step ρ1 σ F1 H1 (ρ1.set i .un) σ F1 H1 := by
            have := Step.setSlot (ρ := ρ1) (σ := σ) (F := F1) (H := H1) (x := some (.ref pp)) (s' := .un) hi rfl
            rw [eσ] at this
            exact this
          refine h _ σ F1 H1 (st.trans st2) S2 .refl ⟨pp, rfl, g2, g3, ?_, (st.own pp ⟨i, s, o, hs, ho, rl⟩).elim .inr .inl⟩
          rintro ⟨j, s', o', a1, a2, a3⟩
          rcases isOwn_set hi a1 a2 with ⟨_, z⟩ | ⟨nj, hj⟩
          · cases z
          · exact nj (S1.sep j i s' s o' o pp hj hs a2 ho a3 rl)
        split at h
        · rename_i o hi
          exact key o _ hi rfl (S1.slot i _ hi) h (S1.slot i _ hi)
        · rename_i o hi
          exact key o _ hi rfl (S1.slot i _ hi) h (S1.slot i _ hi)
        · rename_i d hi
          obtain ⟨v', g1, g2⟩ := S1.slot i _ hi
          rw [rl] at g1
          cases g1
          exact h _ σ F1 H1 st S1 .refl g2
        · exact h.elim
  · cases h
end
end Msd
/-! Sound18: loops, stores. -/
namespace Msd
open PySem PySem.Spec PyProof.Rows L2 Mlg
section
variable {fnm : Nat → Option Str} {T : Errs} {call : CallT} {k np : Nat} {N : List Str}
theorem Fx.le {fx fx' : Nat → Bool} {σ σ' : St} (h : Fx fx' σ σ') (l : ∀ i, fx i = true → fx' i = true) : Fx fx σ σ' := ⟨h.1, fun i hi => h.2 i (l i hi)⟩
theorem fxAnd_le {fx : Nat → Bool} {it : Mlg.It} {i : Nat} (h : fx i = true) : fxAnd fx it i = true := by
  cases it <;> first | exact h | (show (fx i || _) = true; rw [h]; rfl)
/-- which name is locked -/
theorem walk_lk {it : Mlg.It} {ρ ρ' : Env} {ds : List D} {j : Nat} {fx : Nat → Bool} (h : Mlg.walk call it ρ = .ok ((ds, some j), ρ')) : fxAnd fx it j = true := by
  cases it with
  | r1 a =>
    unfold Mlg.walk at h
    cases e : Mlg.eval call a ρ with
    | no => rw [e] at h; cases h
    | exc _ _ _ => rw [e] at h; cases h
    | ok p =>
      rw [e] at h
      obtain ⟨r, ρ1⟩ := p
      cases r with
      | tmp _ => cases h
      | loc _ => cases h
      | val d =>
        cases d <;> first | (cases h; done) | skip
        rename_i i
        replace h : (if rangeOk i = true then Res.ok ((rangeL 0 i, none), ρ1) else .no) = .ok ((ds, some j), ρ') := h
        split at h <;> cases h
  | r2 a b =>
    unfold Mlg.walk at h
    cases e : Mlg.eval call a ρ with
    | no => rw [e] at h; cases h
    | exc _ _ _ => rw [e] at h; cases h
    | ok p =>
      rw [e] at h
      replace h : ((Mlg.eval call b p.2).bind fun q => match p.1, q.1 with
        | .val (.int i), .val (.int j) => if (rangeOk i && rangeOk j) = true then Res.ok ((rangeL i j, (none : Option Nat)), q.2) else .no
        | _, _ => .no) = .ok ((ds, some j), ρ') := h
      cases e2 : Mlg.eval call b p.2 with
      | no => rw [e2] at h; cases h
      | exc _ _ _ => rw [e2] at h; cases h
      | ok q =>
        rw [e2] at h
        replace h : (match p.1, q.1 with
          | .val (.int i), .val (.int j) => if (rangeOk i && rangeOk j) = true then Res.ok ((rangeL i j, (none : Option Nat)), q.2) else .no
          | _, _ => .no) = .ok ((ds, some j), ρ') := h
        split at h
        · split at h <;> cases h
        · cases h
  | r3 a b c =>
    unfold Mlg.walk at h
    cases e : Mlg.eval call a ρ with
    | no => rw [e] at h; cases h
    | exc _ _ _ => rw [e] at h; cases h
    | ok p =>
      rw [e] at h
      replace h : ((Mlg.eval call b p.2).bind fun q => (Mlg.eval call c q.2).bind fun r => match p.1, q.1, r.1 with
        | .val (.int i), .val (.int j), .val (.int k) => if (rangeOk i && rangeOk j && rangeOk k && decide (0 < k)) = true then Res.ok ((stepL i j k, (none : Option Nat)), r.2) else .no
        | _, _, _ => .no) = .ok ((ds, some j), ρ') := h
      cases e2 : Mlg.eval call b p.2 with
      | no => rw [e2] at h; cases h
      | exc _ _ _ => rw [e2] at h; cases h
      | ok q =>
        rw [e2] at h
        replace h : ((Mlg.eval call c q.2).bind fun r => match p.1, q.1, r.1 with
          | .val (.int i), .val (.int j), .val (.int k) => if (rangeOk i && rangeOk j && rangeOk k && decide (0 < k)) = true then Res.ok ((stepL i j k, (none : Option Nat)), r.2) else .no
          | _, _, _ => .no) = .ok ((ds, some j), ρ') := h
        cases e3 : Mlg.eval call c q.2 with
        | no => rw [e3] at h; cases h
        | exc _ _ _ => rw [e3] at h; cases h
        | ok r =>
          rw [e3] at h
          replace h : (match p.1, q.1, r.1 with
            | .val (.int i), .val (.int j), .val (.int k) => if (rangeOk i && rangeOk j && rangeOk k && decide (0 < k)) = true then Res.ok ((stepL i j k, (none : Option Nat)), r.2) else .no
            | _, _, _ => .no) = .ok ((ds, some j), ρ') := h
          split at h
          · split at h <;> cases h
          · cases h
  | envar i =>
    unfold Mlg.walk at h
    split at h
    · cases h
    · cases e : lockV ρ i with
      | none => rw [e] at h; cases h
      | some p =>
        rw [e] at h
        obtain ⟨⟨xs, lk⟩, ρ1⟩ := p
        replace h : Res.ok ((enumL 0 xs, lk), ρ1) = .ok ((ds, some j), ρ') := h
        cases h
        obtain ⟨rfl, _⟩ := lockV_own e
        show (fx j || decide (j = j)) = true
        simp
  | enu a =>
    unfold Mlg.walk at h
    cases e : Mlg.eval call a ρ with
    | no => rw [e] at h; cases h
    | exc _ _ _ => rw [e] at h; cases h
    | ok p =>
      rw [e] at h
      replace h : (if isStr (look p.2 p.1) = true then .no else (Res.of (walkR p.1)).bind fun xs => Res.ok ((enumL 0 xs, (none : Option Nat)), p.2)) = .ok ((ds, some j), ρ') := h
      split at h
      · cases h
      · cases e2 : walkR p.1 with
        | none => rw [e2] at h; cases h
        | some xs => rw [e2] at h; cases h
  | var i =>
    unfold Mlg.walk at h
    cases e : lockV ρ i with
    | none => rw [e] at h; cases h
    | some p =>
      rw [e] at h
      obtain ⟨⟨xs, lk⟩, ρ1⟩ := p
      replace h : Res.ok ((xs, lk), ρ1) = .ok ((ds, some j), ρ') := h
      cases h
      obtain ⟨rfl, _⟩ := lockV_own e
      show (fx j || decide (j = j)) = true
      simp
  | val a =>
    unfold Mlg.walk at h
    cases e : Mlg.eval call a ρ with
    | no => rw [e] at h; cases h
    | exc _ _ _ => rw [e] at h; cases h
    | ok p =>
      rw [e] at h
      replace h : ((Res.of (walkR p.1)).bind fun xs => Res.ok ((xs, (none : Option Nat)), p.2)) = .ok ((ds, some j), ρ') := h
      cases e2 : walkR p.1 with
      | none => rw [e2] at h; cases h
      | some xs => rw [e2] at h; cases h
def turnF (call : CallT) (np : Nat) (tg : Tg) (b : Mlg.Ss) : D → Env → Res (Env × Option R) := fun d ρ => match putTg ρ tg d with
  | none => .no
  | some ρ1 => Mlg.execs call np b ρ1
theorem loop_ok {K : Frag} {W : WX} {fx : Nat → Bool} {tg : Tg} {it : Mlg.It} {b : Mlg.Ss} {σ : St} {H : Hp} {D : Ends} (htg : ∀ i ∈ tgSlots tg, fxAnd fx it i = false) (h : LS T K W fx (Mlg.exec call np (.loop tg it b)) D σ H) :
    tFor (LW T K W (Mlg.walk call it)) (gTg K tg) (LS T K W (fxAnd fx it) (Mlg.execs call np b)) D σ H := by
  obtain ⟨ρ, F, S, h⟩ := h
  refine ⟨ρ, F, S, ?_⟩
  replace h : OutS T K W fx ρ F σ H ((Mlg.walk call it ρ).bind fun p => (loopF (turnF call np tg b) p.1.1 p.2).bind fun q => match q.2 with
      | none => (Res.of (unlockE q.1 p.1.2)).bind fun ρ' => .ok (ρ', none)
      | some s => .ok (q.1, some s)) D := h
  cases ew : Mlg.walk call it ρ with
  | no => rw [ew] at h; exact h
  | exc _ _ _ => rw [ew] at h; exact fun F' H' cls d st S' e => h σ F' H' cls d st S' .refl e
  | ok p =>
    rw [ew] at h
    obtain ⟨⟨ds, lk⟩, ρp⟩ := p
    replace h : OutS T K W fx ρ F σ H ((loopF (turnF call np tg b) ds ρp).bind fun q => match q.2 with
      | none => (Res.of (unlockE q.1 lk)).bind fun ρ' => .ok (ρ', none)
      | some s => .ok (q.1, some s)) D := h
    intro J Fp H1 P stp Sp gs hP hlk
    have hle : ∀ i, fx i = true → fxAnd fx it i = true := fun i hi => fxAnd_le hi
    generalize hres : loopF (turnF call np tg b) ds ρp = res at h
    refine ⟨fun i m σi Hi => m = ds.length - i ∧ i ≤ ds.length ∧ ∃ ρi Fi, Sim K ρi Fi σi Hi ∧ Step ρp σ Fp H1 ρi σi Fi Hi ∧ Fx (fxAnd fx it) σ σi ∧ loopF (turnF call np tg b) (ds.drop i) ρi = res,
      ⟨ds.length, by simp, Nat.zero_le _, ρp, Fp, Sp, .refl, .refl, by simpa using hres⟩, ?_⟩
    rintro i m σi Hi ⟨rfl, hi, ρi, Fi, Si, sti, fxi, eq⟩
    have hPi := gs.stays _ _ _ _ _ _ _ _ hP sti
    by_cases hlt : i < ds.length
    · refine .inr ⟨gs.go i ρi Fi _ Hi hlt hPi Si, fun σ' H' => ∃ ρi Fi, Sim K ρi Fi σ' H' ∧ Step ρp σ Fp H1 ρi σ' Fi H' ∧ Fx (fxAnd fx it) σ σ' ∧ loopF (turnF call np tg b) (ds.drop (i + 1)) ρi = res,
        fun σ' H' hN => ⟨ds.length - (i + 1), by omega, rfl, hlt, hN⟩, fun x H' y => ?_⟩
      have ed : ds[i]? = some ds[i] := List.getElem?_eq_getElem hlt
      obtain ⟨F', st', S', hx⟩ := gs.yld i _ ρi Fi _ Hi x H' ed hPi Si y
      rw [List.drop_eq_getElem_cons hlt] at eq
      unfold loopF at eq
      cases e1 : putTg ρi tg ds[i] with
      | none =>
        have : turnF call np tg b ds[i] ρi = .no := by unfold turnF; rw [e1]
        rw [this] at eq
        rw [← eq] at h
        exact h.elim
      | some ρ2 =>
        have et : turnF call np tg b ds[i] ρi = Mlg.execs call np b ρ2 := by unfold turnF; rw [e1]
        rw [et] at eq
        refine tg_ok S' hx e1 htg fun σ2 S2 st2 fx2 _ => ⟨ρ2, F', S2, ?_⟩
        have st02 := (sti.trans st').trans st2
        have fx02 := fxi.trans fx2
        cases ee : Mlg.execs call np b ρ2 with
        | no =>
          rw [ee] at eq
          rw [← eq] at h
          exact h.elim
        | exc c f ρ3 =>
          rw [ee] at eq
          rw [← eq] at h
          exact fun σ3 F3 H3 cls d st3 S3 fx3 e => h σ3 F3 H3 cls d (stp.trans (st02.trans st3)) S3 ((fx02.trans fx3).le hle) e
        | ok p =>
          rw [ee] at eq
          obtain ⟨ρ3, o⟩ := p
          cases o with
          | none => exact fun σ3 F3 H3 st3 S3 fx3 => ⟨ρ3, F3, S3, st02.trans st3, fx02.trans fx3, eq⟩
          | some r =>
            rw [← eq] at h
            intro v σ3 F3 H3 st3 S3 fx3 rr
            refine h v σ3 F3 H3 (stp.trans (st02.trans st3)) S3 ((fx02.trans fx3).le hle) ?_
            cases r with
            | val d => exact rr
            | loc _ => exact rr.elim
            | tmp o =>
              obtain ⟨p, a, b, c, d, e⟩ := rr
              have st0 := stp.trans st02
              exact ⟨p, a, b, c, d, e.elim (fun z => .inl (st0.dom p z)) fun z => (st0.own p z).elim .inr .inl⟩
    · have ei : i = ds.length := by omega
      subst ei
      refine .inl ⟨gs.stop ρi Fi _ Hi hPi Si, ?_⟩
      rw [List.drop_length] at eq
      replace eq : Res.ok (ρi, (none : Option R)) = res := eq
      rw [← eq] at h
      replace h : OutS T K W fx ρ F σ H ((Res.of (unlockE ρi lk)).bind fun ρ' => .ok (ρ', none)) D := h
      cases lk with
      | none => exact h σi Fi Hi (stp.trans sti) Si (fxi.le hle)
      | some j =>
        obtain ⟨pp, hp1, hp2⟩ := hlk j rfl
        have hj := walk_lk (fx := fx) ew
        have hσ : σi[j]? = some (some (.ref pp)) := (fxi.2 j hj).trans hp2
        replace h : OutS T K W fx ρ F σ H ((Res.of (match ρi[j]? with
          | some (.lck o) => some (ρi.set j (.own o))
          | _ => none)).bind fun ρ' => .ok (ρ', none)) D := h
        split at h
        · rename_i o eo
          obtain ⟨Su, stu⟩ := Si.unlock (stp.trans sti) eo hσ hp1
          exact h σi Fi Hi stu Su (fxi.le hle)
        · exact h.elim
theorem s_loop {tg : Tg} {it : Mlg.It} {b : Mlg.Ss} (ib : PrSs fnm T call k np N b) : PrS fnm T call k np N (.loop tg it b) := by
  intro X W sc fx x C tk h
  unfold mS at h
  try dsimp only at h
  split at h
  · rename_i t i b' pos
    obtain ⟨h1, hp, h2⟩ := and3 h
    obtain ⟨ht, hE⟩ := and2 h1
    obtain ⟨h2, h3⟩ := and2 h2
    refine PS.imp (ps_for C.po C.calm (allI it X W sc i t C.toCok tk (enuT_of ht hE) h2) (pg_tg C.hN C.nd (fun x hx => by rw [C.hsc]; exact locB_ok hx) C.calm (fun x _ => .inl (C.fn x)) ht) (ib X W sc _ b' C tk h3) (fun x => plain_folded hp x)) fun D σ H q => loop_ok (tg_fx ht) q
  · cases h
theorem s_whil {c : Mlg.E} {b : Mlg.Ss} (ib : PrSs fnm T call k np N b) : PrS fnm T call k np N (.whil c b) := by
  intro X W sc fx x C tk h
  unfold mS at h
  try dsimp only at h
  split at h
  · rename_i c' b' pos
    obtain ⟨ht, h1⟩ := and2 h
    obtain ⟨h1, h2⟩ := and2 h1
    refine PS.imp (ps_while C.po ((allE c).2.1 X W sc c' C.toCok tk ht h1) (ib X W sc fx b' C tk h2)) fun D σ H q => ?_
    obtain ⟨ρ, F, S, q⟩ := q
    replace q : OutS T X.K W fx ρ F σ H (loopW (fun ρ => asB (Mlg.eval call c ρ)) (Mlg.execs call np b) 1000000 ρ) D := q
    generalize 1000000 = fuel at q
    refine ⟨fun m σi Hi => ∃ ρi Fi, Sim X.K ρi Fi σi Hi ∧ Step ρ σ F H ρi σi Fi Hi ∧ Fx fx σ σi ∧ loopW (fun ρ => asB (Mlg.eval call c ρ)) (Mlg.execs call np b) m ρi = loopW (fun ρ => asB (Mlg.eval call c ρ)) (Mlg.execs call np b) fuel ρ, ⟨fuel, ρ, F, S, .refl, .refl, rfl⟩, ?_⟩
    rintro m σi Hi ⟨ρi, Fi, Si, sti, fxi, eq⟩
    generalize loopW (fun ρ => asB (Mlg.eval call c ρ)) (Mlg.execs call np b) fuel ρ = res at q eq
    cases m with
    | zero => rw [← eq] at q; exact q.elim
    | succ m =>
      unfold loopW at eq
      refine ⟨ρi, Fi, Si, ?_⟩
      show Out T X.K W ρi Fi σi Hi (relT σi) (asB (Mlg.eval call c ρi)) _
      cases e1 : asB (Mlg.eval call c ρi) with
      | no =>
        replace eq : (match asB (Mlg.eval call c ρi) with
          | .ok (true, ρ1) => (match Mlg.execs call np b ρ1 with
            | .ok (ρ2, none) => loopW (fun ρ => asB (Mlg.eval call c ρ)) (Mlg.execs call np b) m ρ2
            | .ok (ρ2, some s) => .ok (ρ2, some s)
            | .exc c f ρ' => .exc c f ρ'
            | .no => .no)
          | .ok (false, ρ1) => .ok (ρ1, none)
          | .exc c f ρ' => .exc c f ρ'
          | .no => .no) = res := eq
        rw [e1] at eq
        rw [← eq] at q
        exact q.elim
      | exc cc f ρ' =>
        replace eq : (match asB (Mlg.eval call c ρi) with
          | .ok (true, ρ1) => (match Mlg.execs call np b ρ1 with
            | .ok (ρ2, none) => loopW (fun ρ => asB (Mlg.eval call c ρ)) (Mlg.execs call np b) m ρ2
            | .ok (ρ2, some s) => .ok (ρ2, some s)
            | .exc c f ρ' => .exc c f ρ'
            | .no => .no)
          | .ok (false, ρ1) => .ok (ρ1, none)
          | .exc c f ρ' => .exc c f ρ'
          | .no => .no) = res := eq
        rw [e1] at eq
        rw [← eq] at q
        exact fun F' H' cls d st S' e => q σi F' H' cls d (sti.trans st) S' fxi e
      | ok p =>
        replace eq : (match asB (Mlg.eval call c ρi) with
          | .ok (true, ρ1) => (match Mlg.execs call np b ρ1 with
            | .ok (ρ2, none) => loopW (fun ρ => asB (Mlg.eval call c ρ)) (Mlg.execs call np b) m ρ2
            | .ok (ρ2, some s) => .ok (ρ2, some s)
            | .exc c f ρ' => .exc c f ρ'
            | .no => .no)
          | .ok (false, ρ1) => .ok (ρ1, none)
          | .exc c f ρ' => .exc c f ρ'
          | .no => .no) = res := eq
        rw [e1] at eq
        obtain ⟨bb, ρ1⟩ := p
        intro b0 F1 H1 st S1 rb
        have rb : b0 = bb := rb
        subst rb
        have st01 := sti.trans st
        cases b0 with
        | false =>
          rw [if_neg Bool.false_ne_true]
          rw [← eq] at q
          exact q σi F1 H1 st01 S1 fxi
        | true =>
          rw [if_pos rfl]
          refine ⟨fun σ' H' => ∃ ρi Fi, Sim X.K ρi Fi σ' H' ∧ Step ρ σ F H ρi σ' Fi H' ∧ Fx fx σ σ' ∧ loopW (fun ρ => asB (Mlg.eval call c ρ)) (Mlg.execs call np b) m ρi = res, fun σ' H' hN => ⟨m, Nat.lt_succ_self _, hN⟩, ρ1, F1, S1, ?_⟩
          replace eq : (match Mlg.execs call np b ρ1 with
            | .ok (ρ2, none) => loopW (fun ρ => asB (Mlg.eval call c ρ)) (Mlg.execs call np b) m ρ2
            | .ok (ρ2, some s) => .ok (ρ2, some s)
            | .exc c f ρ' => .exc c f ρ'
            | .no => .no) = res := eq
          cases ee : Mlg.execs call np b ρ1 with
          | no => rw [ee] at eq; rw [← eq] at q; exact q.elim
          | exc cc f ρ3 =>
            rw [ee] at eq
            rw [← eq] at q
            exact fun σ3 F3 H3 cls d st3 S3 fx3 e => q σ3 F3 H3 cls d (st01.trans st3) S3 (fxi.trans fx3) e
          | ok p =>
            rw [ee] at eq
            obtain ⟨ρ3, o⟩ := p
            cases o with
            | none => exact fun σ3 F3 H3 st3 S3 fx3 => ⟨ρ3, F3, S3, st01.trans st3, fxi.trans fx3, eq⟩
            | some r =>
              rw [← eq] at q
              exact fun v σ3 F3 H3 st3 S3 fx3 rr => OutS.rebase st01 fxi q v σ3 F3 H3 st3 S3 fx3 rr
  · cases h

/-! ### x op= e, xs[i] = e, a, b = e -/
def ipOf : Bi → TIp
  | .add => ipI fun i j => i + j
  | .sub => ipI fun i j => i - j
  | _ => fun _ _ _ _ => False
theorem s_aug (i : Nat) (o : Bi) {e : Mlg.E} : PrS fnm T call k np N (.aug i o e) := by
  intro X W sc fx x C tk h
  unfold mS at h
  try dsimp only at h
  split at h
  · rename_i y py op v pos
    obtain ⟨h1, hop, he⟩ := and3 h
    obtain ⟨h1, hfx, ho⟩ := and3 h1
    obtain ⟨hN, hl, hn⟩ := and3 h1
    have hfx : fx i = false := by simpa using hfx
    have eop : op = opOf o := of_decide_eq_true hop
    subst eop
    have hp : PIp X (opOf o) (ipOf o) := by
      cases o <;> first | exact ip_add | exact ip_sub | (simp at ho)
    refine PS.imp (ps_aug (by rw [C.hN]; exact C.nd) (by rw [C.hN]; exact of_decide_eq_true hN) (by rw [C.hsc]; exact locB_ok hl) ((allE e).1 X W sc v C.toCok tk he) hp (.inl (C.fn y))) fun D σ H q => ?_
    obtain ⟨ρ, F, S, q⟩ := q
    unfold Mlg.exec at q
    cases es : ρ[i]? with
    | none => rw [es] at q; exact q.elim
    | some s =>
      rw [es] at q
      cases s <;> first | exact q.elim | skip
      rename_i dx
      cases dx <;> first | exact q.elim | skip
      rename_i xi
      obtain ⟨vx, g1, g2⟩ := S.slot i _ es
      cases g2
      refine ⟨_, g1, ρ, F, S, OutS.bind q fun r ρ1 v F1 H1 st S1 rl h => ?_⟩
      cases r with
      | tmp _ => exact h.elim
      | loc _ => exact h.elim
      | val dy =>
        cases dy <;> first | exact h.elim | skip
        rename_i yi
        cases rl
        replace h : OutS T X.K W fx ρ F σ H ((Res.of (augI o xi yi)).bind fun z => (Res.of (Mlg.putV ρ1 i (.int z))).bind fun ρ' => .ok (ρ', none)) D := h
        have fin : ∀ z : Int, augI o xi yi = some z → D.nx (σ.set i (some (.int z))) H1 := by
          intro z ez
          rw [ez] at h
          replace h : OutS T X.K W fx ρ F σ H ((Res.of (Mlg.putV ρ1 i (.int z))).bind fun ρ' => .ok (ρ', none)) D := h
          cases ep : Mlg.putV ρ1 i (.int z) with
          | none => rw [ep] at h; exact h.elim
          | some ρ2 =>
            rw [ep] at h
            obtain ⟨S2, st2⟩ := put_ok (v := .int z) S1 (.int z) ep
            exact h _ F1 H1 (st.trans st2) S2 (Fx.set hfx)
        cases o <;> first | (simp at ho; done) | exact ⟨_, _, rfl, rfl, fin _ rfl⟩
  · cases h
theorem s_unp (is : List Nat) {e : Mlg.E} : PrS fnm T call k np N (.unp is e) := by
  intro X W sc fx x C tk h
  unfold mS at h
  try dsimp only at h
  split at h
  · rename_i ts kk p v pos
    obtain ⟨h1, hnt, he⟩ := and3 h
    obtain ⟨ht, hp⟩ := and2 h1
    have hsw : swapsWithSole [.Tuple ts kk p] v pos.line X.env = pure false := by cases v <;> rfl
    have hst : swappedStores [.Tuple ts kk p] v X.env = pure none := by
      cases v <;> first | rfl | cases hnt
    refine PS.imp (ps_asg ((allE e).1 X W sc v C.toCok tk he) (pg_tg (tg := .tup is) C.hN C.nd (fun x hx => by rw [C.hsc]; exact locB_ok hx) C.calm (fun x _ => .inl (C.fn x)) ht) hsw hst) fun D σ H q => ?_
    obtain ⟨ρ, F, S, q⟩ := q
    refine ⟨ρ, F, S, OutS.bind q fun r ρ1 v F1 H1 st S1 rl h => ?_⟩
    cases r with
    | tmp _ => exact h.elim
    | loc _ => exact h.elim
    | val d =>
      cases d <;> first | exact h.elim | skip
      rename_i ds
      try dsimp only at h
      cases ep : putVs ρ1 is ds with
      | none => rw [ep] at h; exact h.elim
      | some ρ2 =>
        rw [ep] at h
        exact tg_ok (tg := .tup is) S1 rl ep (tg_fx ht) fun σ' S' st' fx' _ => h σ' F1 H1 (st.trans st') S' fx'
  · cases h
theorem hasObj_at {K : Frag} {ρ : Env} {F H : Hp} {σ : St} {i : Nat} (S : Sim K ρ F σ H) (h : hasObj ρ i = true) : ∃ p, σ[i]? = some (some (.ref p)) := by
  unfold hasObj at h
  split at h
  · rename_i o e
    obtain ⟨p, h1, _⟩ := S.slot i _ e
    exact ⟨p, h1⟩
  · cases h
def rSetA : TSet := fun o i v H Q => rSetL o i v H Q ∨ ∃ a H', o = .ref a ∧ DPut H a i v H' ∧ Q H'
theorem set_any {X : Cx} (hu : X.A.units + 1 < cLine) : PSet X rSetA := by
  intro pins s σ H o i v ov iv u Q I ro ri rv h
  rcases h with h | ⟨a, H', rfl, g, q⟩
  · exact set_list pins s σ H o i v ov iv u Q I ro ri rv h
  · obtain rfl : ov = Value.ref a := ro
    exact d_setItem hu I g ri rv fun s' I' => ⟨H', I', q⟩
/-- a store to a name's object -/
theorem store_ok' {K : Frag} {ρ ρ' : Env} {F H : Hp} {σ : St} {i : Nat} {p : Addr} {kd x : D} {kv v : V} (S : Sim K ρ F σ H) (hp : σ[i]? = some (some (.ref p))) (hk : Rep K F kv kd) (hv : Rep K F v x) (e : storeD ρ i kd x = some ρ') :
    ∃ H', (∀ Q : Hp → Prop, Q H' → rSetA (.ref p) kv v H Q) ∧ Sim K ρ' F σ H' ∧ Step ρ σ F H ρ' σ F H' := by
  unfold storeD at e
  split at e
  · rename_i xs hi
    cases kd <;> first | (cases e; done) | skip
    rename_i j
    replace e : (place xs.length j).map (fun n => ρ.set i (.own (.lst (xs.set n x)))) = some ρ' := e
    cases ep : place xs.length j with
    | none => rw [ep] at e; cases e
    | some n =>
      rw [ep] at e
      cases e
      cases hk
      obtain ⟨p', k1, kF, vs, k2, k3⟩ := S.slot i _ hi
      rw [hp] at k1
      cases k1
      obtain ⟨S2, st2⟩ := S.change (u := .lst (vs.set n v)) (o' := .lst (xs.set n x)) hi hp ⟨_, upd_same, k3.set hv n⟩
      refine ⟨_, fun Q q => .inl ⟨p, vs, j, n, rfl, rfl, k2, ?_, q⟩, S2, st2⟩
      rw [k3.length]
      exact ep
  · rename_i t kvs hi
    split at e
    · rename_i c
      cases e
      obtain ⟨c1, c2⟩ := and2 c
      obtain ⟨p', k1, kF, k2⟩ := S.slot i _ hi
      rw [hp] at k1
      cases k1
      obtain ⟨u, g1, g2⟩ := dic_put S.fh k2 (of_decide_eq_true c2) c1 hk hv
      obtain ⟨S2, st2⟩ := S.change (u := u) (o' := .dic t (setKey kvs kd x)) hi hp g2
      exact ⟨_, fun Q q => .inr ⟨p, _, rfl, g1, q⟩, S2, st2⟩
    · cases e
  · cases e
theorem s_sub (i : Nat) {ix e : Mlg.E} : PrS fnm T call k np N (.sub i ix e) := by
  intro X W sc fx x C tk h
  unfold mS at h
  try dsimp only at h
  split at h
  · rename_i y py z pz v pos
    obtain ⟨h1, hcb, h2⟩ := and3 h
    obtain ⟨h1, hn, hpz⟩ := and3 h1
    obtain ⟨hN, hv⟩ := and2 h1
    obtain ⟨h2, h3⟩ := and2 h2
    obtain ⟨n1, n2, _⟩ := nameB_ok hn
    have po : PE X (.Name y py) (tVar i) := pe_var (i := i) (by rw [C.hN]; exact of_decide_eq_true hN) (by rw [C.hsc]; exact visB_ok hv) n1 n2
    have hst : swappedStores [.Subscript (.Name y py) z pz] v X.env = pure none := by cases v <;> rfl
    refine PS.imp (ps_asg ((allE e).1 X W sc v C.toCok tk h3) (pg_sub po ((allE ix).1 X W sc z C.toCok tk h2) (set_any (by have := C.room.un; omega)) (by intro v; cases z <;> first | rfl | cases hpz)) (show swapsWith v (some (.Subscript (.Name y py) z pz)) pos.line X.env = pure false from swaps_no (by simpa using hcb)) hst) fun D σ H q => ?_
    obtain ⟨ρ, F, S, q⟩ := q
    refine ⟨ρ, F, S, OutS.bind q fun r ρ1 v F1 H1 st S1 rl h => ?_⟩
    try dsimp only at h
    cases ef : fix ρ1 r with
    | none => rw [ef] at h; exact h.elim
    | some p =>
      obtain ⟨d, ρ2⟩ := p
      rw [ef] at h
      try dsimp only at h
      obtain ⟨F2, st2, S2, hr⟩ := fix_step st S1 rl ef
      split at h
      · rename_i hob
        obtain ⟨pp, g1⟩ := hasObj_at S2 hob
        refine ⟨_, g1, ρ2, F2, S2, OutS.bind1 (Rl := relE X.K σ) st2 h fun r3 ρ3 w F3 H3 st3 S3 rl3 h3 => ?_⟩
        cases r3 with
        | tmp _ => exact h3.elim
        | loc _ => exact h3.elim
        | val kd =>
          try dsimp only at h3
          cases es : storeD ρ3 i kd d with
          | none => rw [es] at h3; exact h3.elim
          | some ρ4 =>
            rw [es] at h3
            obtain ⟨H4, c1, S4, st4⟩ := store_ok' S3 g1 rl3 (hr.mono st3.ext) es
            exact c1 _ (h3 σ F3 H4 ((st2.trans st3).trans st4) S4 .refl)
      · exact h.elim
  · cases h
end
end Msd
/-! Sound19: a, b = x, y. -/
namespace Msd
open PySem PySem.Spec PyProof.Rows L2 Mlg
/-! ### several stores -/
def setAll : St → List Nat → List V → St
  | σ, i :: is, v :: vs => setAll (σ.set i (some v)) is vs
  | σ, _, _ => σ
/-- results that are no name's -/
def RelP (K : Frag) (H0 : Hp) (ρ : Env) (σ : St) (F H : Hp) (v : V) : R → Prop
  | .val d => Rep K F v d
  | .tmp o => ∃ p, v = .ref p ∧ F p = none ∧ ObjR K F H p o ∧ ¬ Own ρ σ p ∧ H0 p = none
  | .loc _ => False
inductive RelPs (K : Frag) (H0 : Hp) (ρ : Env) (σ : St) (F H : Hp) : List V → List R → Prop
  | nil : RelPs K H0 ρ σ F H [] []
  | cons {v : V} {vs : List V} {r : R} {rs : List R} : RelP K H0 ρ σ F H v r → RelPs K H0 ρ σ F H vs rs →
      (∀ p o, v = .ref p → r = .tmp o → ∀ i : Nat, vs[i]? = some (.ref p) → ∀ o', rs[i]? ≠ some (.tmp o')) → RelPs K H0 ρ σ F H (v :: vs) (r :: rs)
section
variable {K : Frag} {ρ0 : Env} {σ0 : St} {F0 H0 F H : Hp}
theorem RelPs.get {ρ : Env} {σ : St} : ∀ {vs : List V} {rs : List R} {i : Nat} {r : R}, RelPs K H0 ρ σ F H vs rs → rs[i]? = some r → ∃ v, vs[i]? = some v ∧ RelP K H0 ρ σ F H v r
  | _, _, _, _, .nil, e => by simp at e
  | _, _, 0, _, .cons h _ _, e => by simp at e; subst e; exact ⟨_, rfl, h⟩
  | _, _, i + 1, r, .cons _ t _, e => by
    obtain ⟨v, a, b⟩ := RelPs.get (i := i) t (by simpa using e)
    exact ⟨v, by simpa using a, b⟩
/-- the rest behind one store -/
theorem RelPs.after {ρ ρ' : Env} {σ σ' : St} : ∀ {vs : List V} {rs : List R}, RelPs K H0 ρ σ F H vs rs → (∀ (i : Nat) (p : Addr) (o : O), vs[i]? = some (.ref p) → rs[i]? = some (.tmp o) → ¬ Own ρ σ p → ¬ Own ρ' σ' p) → RelPs K H0 ρ' σ' F H vs rs
  | _, _, .nil, _ => .nil
  | _, _, .cons (v := v) (r := r) h t d, hn => by
    refine .cons ?_ (RelPs.after t fun i p o h1 h2 => hn (i + 1) p o (by simpa using h1) (by simpa using h2)) d
    cases r with
    | val _ => exact h
    | loc _ => exact h
    | tmp o =>
      obtain ⟨p, e, a, b, c, g⟩ := h
      exact ⟨p, e, a, b, hn 0 p o (by simp [e]) (by simp) c, g⟩
theorem putsR_ok : ∀ {is : List Nat} {vs : List V} {rs : List R} {ρ ρ' : Env} {σ : St}, Sim K ρ F σ H → Step ρ0 σ0 F0 H0 ρ σ F H → RelPs K H0 ρ σ F H vs rs → puts ρ is rs = some ρ' → Sim K ρ' F (setAll σ is vs) H ∧ Step ρ0 σ0 F0 H0 ρ' (setAll σ is vs) F H
  | [], _, _, ρ, ρ', σ, S, st, .nil, e => by cases e; exact ⟨S, st⟩
  | [], _, _, ρ, ρ', σ, S, st, .cons _ _ _, e => by cases e
  | _ :: _, _, _, ρ, ρ', σ, S, st, .nil, e => by cases e
  | i :: is, _, _, ρ, ρ', σ, S, st, .cons (v := v) (vs := vs) (r := r) (rs := rs) h t d, e => by
    have e : (put ρ i r).bind (fun ρ' => puts ρ' is rs) = some ρ' := e
    cases ep : put ρ i r with
    | none => rw [ep] at e; cases e
    | some ρ1 =>
      rw [ep] at e
      cases r with
      | loc _ => exact h.elim
      | val dd =>
        unfold Mlg.put at ep
        dsimp only at ep
        split at ep
        · rename_i c
          cases ep
          exact putsR_ok (is := is) (vs := vs) (rs := rs) (S.putV c h) (st.trans (Step.setSlot c rfl)) (t.after fun j p o _ _ hn q => hn (own_set c rfl q)) e
        · cases ep
      | tmp o =>
        unfold Mlg.put at ep
        dsimp only at ep
        split at ep
        · rename_i c
          cases ep
          obtain ⟨p, ev, a, b, g, h0⟩ := h
          subst ev
          have ci : i < σ.length := by rw [← S.len]; exact c
          refine putsR_ok (is := is) (vs := vs) (rs := rs) (S.putOwn c a b g) (Step.putOwn st c h0 ci) (t.after fun j q o' h1 h2 hn hq => ?_) e
          obtain ⟨j', s, o2, a1, a2, a3⟩ := hq
          rcases isOwn_set c a1 a2 with ⟨ej, _⟩ | ⟨nj, hj⟩
          · subst ej
            rw [List.getElem?_set_self ci] at a3
            cases a3
            exact d p o rfl rfl j h1 o' h2
          · rw [List.getElem?_set_ne (Ne.symm nj)] at a3
            exact hn ⟨j', s, o2, hj, a2, a3⟩
        · cases ep
theorem RelRs.froze {σ : St} {ρ ρ1 : Env} {F F1 : Hp} (ex : Same F F1) (hf : ∀ p, F p = none → ¬ Own ρ σ p → F1 p = none) (ho : ∀ p, Own ρ1 σ p → Own ρ σ p) : ∀ {vs : List V} {rs : List R}, RelRs K H0 σ ρ F H vs rs → RelRs K H0 σ ρ1 F1 H vs rs
  | _, _, .nil => .nil
  | _, _, .cons (r := r) h t d => by
    refine .cons ?_ (RelRs.froze ex hf ho t) d
    cases r with
    | val _ => exact Rep.mono ex h
    | loc _ => exact h
    | tmp o =>
      obtain ⟨p, e, a, b, c, g⟩ := h
      exact ⟨p, e, hf p a c, b.move ex fun u hu => hu, fun q => c (ho p q), g⟩
/-- names' objects among them are frozen -/
theorem fixLocs_ok {σ : St} : ∀ {vs : List V} {rs rs' : List R} {ρ ρ' : Env} {F : Hp}, Sim K ρ F σ H → Step ρ0 σ F0 H0 ρ σ F H → RelRs K H0 σ ρ F H vs rs → fixLocs ρ rs = some (rs', ρ') →
    ∃ F', Sim K ρ' F' σ H ∧ Step ρ0 σ F0 H0 ρ' σ F' H ∧ RelPs K H0 ρ' σ F' H vs rs' ∧ (∀ p, Own ρ' σ p → Own ρ σ p) ∧ Same F F' ∧ (∀ p, F p = none → ¬ Own ρ σ p → F' p = none) ∧ ∀ (i : Nat) (o : O), rs'[i]? = some (.tmp o) → rs[i]? = some (.tmp o)
  | _, _, rs', ρ, ρ', F, S, st, .nil, e => by cases e; exact ⟨F, S, st, .nil, fun _ h => h, .refl _, fun _ h _ => h, fun _ _ h => h⟩
  | _, _, rs', ρ, ρ', F, S, st, .cons (v := v) (vs := vs) (r := r) (rs := rs) h t d, e => by
    -- what is no name's stays
    have plain : (∀ i, r ≠ .loc i) → (fixLocs ρ rs).map (fun q => (r :: q.1, q.2)) = some (rs', ρ') → ∃ F', Sim K ρ' F' σ H ∧ Step ρ0 σ F0 H0 ρ' σ F' H ∧ RelPs K H0 ρ' σ F' H (v :: vs) rs' ∧ (∀ p, Own ρ' σ p → Own ρ σ p) ∧ Same F F' ∧ (∀ p, F p = none → ¬ Own ρ σ p → F' p = none) ∧ ∀ (i : Nat) (o : O), rs'[i]? = some (.tmp o) → (r :: rs)[i]? = some (.tmp o) := by
      intro hr e
      cases ef : fixLocs ρ rs with
      | none => rw [ef] at e; cases e
      | some q =>
        rw [ef] at e
        cases e
        obtain ⟨F', S', st', rp, ow, ex, fr, tm⟩ := fixLocs_ok S st t ef
        refine ⟨F', S', st', .cons ?_ rp fun p o e1 e2 i e3 o' e4 => d p o e1 e2 i e3 o' (tm i o' e4), ow, ex, fr, fun i o e => ?_⟩
        · cases r with
          | val _ => exact Rep.mono ex h
          | loc i => exact absurd rfl (hr i)
          | tmp o =>
            obtain ⟨p, e, a, b, c, g⟩ := h
            exact ⟨p, e, fr p a c, b.move ex fun u hu => hu, fun q => c (ow p q), g⟩
        · cases i with
          | zero => simpa using e
          | succ i => simp at e; simpa using tm i o e
    cases r with
    | val dd => exact plain (fun _ z => by cases z) e
    | tmp o => exact plain (fun _ z => by cases z) e
    | loc i =>
      have e : (fix ρ (.loc i)).bind (fun p => (fixLocs p.2 rs).map fun q => (R.val p.1 :: q.1, q.2)) = some (rs', ρ') := e
      cases ef : fix ρ (.loc i) with
      | none => rw [ef] at e; cases e
      | some p1 =>
        rw [ef] at e
        obtain ⟨dd, ρ1⟩ := p1
        have e : (fixLocs ρ1 rs).map (fun q => (R.val dd :: q.1, q.2)) = some (rs', ρ') := e
        obtain ⟨hσ, _⟩ := h
        -- one is frozen
        have one : ∃ F1, Sim K ρ1 F1 σ H ∧ Step ρ0 σ F0 H0 ρ1 σ F1 H ∧ Rep K F1 v dd ∧ Same F F1 ∧ (∀ p, F p = none → ¬ Own ρ σ p → F1 p = none) ∧ ∀ p, Own ρ1 σ p → Own ρ σ p := by
          unfold fix at ef
          dsimp only at ef
          split at ef
          · rename_i d' hi
            cases ef
            obtain ⟨v', h1, h2⟩ := S.slot i _ hi
            rw [hσ] at h1
            cases h1
            exact ⟨F, S, st, h2, .refl _, fun _ h _ => h, fun _ h => h⟩
          · rename_i o hi
            cases ef
            obtain ⟨p, u, h1, h2, h3, h4, h5, h6⟩ := S.freeze hi
            rw [hσ] at h1
            cases h1
            refine ⟨_, h5, st.trans h6, h4, same_new h3, fun q hq hn => ?_, fun q hq => ?_⟩
            · rw [upd_ne (show q ≠ p from fun z => hn ⟨i, _, o, hi, rfl, z ▸ hσ⟩)]; exact hq
            · refine own_sub (fun j s o' hj ho => ?_) q hq
              rcases isOwn_set (lt_of_get hi) hj ho with ⟨_, z⟩ | ⟨_, hj⟩
              · cases z
              · exact ⟨s, o', hj, ho⟩
          · cases ef
        obtain ⟨F1, S1, st1, hr, ex1, fr1, ow1⟩ := one
        cases ef2 : fixLocs ρ1 rs with
        | none => rw [ef2] at e; cases e
        | some q =>
          rw [ef2] at e
          cases e
          obtain ⟨F', S', st', rp, ow, ex, fr, tm⟩ := fixLocs_ok S1 st1 (t.froze ex1 fr1 ow1) ef2
          refine ⟨F', S', st', .cons (Rep.mono ex hr) rp (fun p o _ e2 => by cases e2), fun p q => ow1 p (ow p q), ex1.trans ex, fun p a b => fr p (fr1 p a b) fun q => b (ow1 p q), fun j o e => ?_⟩
          cases j with
          | zero => simp at e
          | succ j => simp at e; simpa using tm j o e
end
theorem setAll_gNames {K : Frag} : ∀ {is : List Nat} {vs : List V} {σ : St} {H : Hp} {Q : St → Hp → Prop}, vs.length = is.length → Q (setAll σ is vs) H → gNames is vs σ H Q
  | [], [], _, _, _, _, q => ⟨rfl, q⟩
  | [], _ :: _, _, _, _, h, _ => by simp at h
  | _ :: _, [], _, _, _, h, _ => by simp at h
  | i :: is, v :: vs, σ, H, Q, h, q => ⟨v, vs, rfl, setAll_gNames (K := K) (by simpa using h) q⟩
theorem setAll_fx {fx : Nat → Bool} : ∀ {is : List Nat} {vs : List V} {σ : St}, (∀ i ∈ is, fx i = false) → Fx fx σ (setAll σ is vs)
  | [], _, _, _ => .refl
  | _ :: _, [], _, _ => .refl
  | i :: is, v :: vs, σ, h => (Fx.set (h i List.mem_cons_self)).trans (setAll_fx fun j hj => h j (List.mem_cons_of_mem _ hj))
theorem sw_some {ts vs : List Expr} {k k2 : Nat} {p p2 : Pos} {env : PySem.Env} (hk : env.blockKind = .function) (h1 : (ts.length == 2 || ts.length == 3) = true) (h2 : vs.length = ts.length) (h3 : vs.any starB = false)
    (h4 : (swNames env.scope ts).length = ts.length) (h4' : (swNames env.scope ts).eraseDups.length = (swNames env.scope ts).length) (h5 : vs.all (foldedForSure 8) = false) (h6 : vs.all (constantsAlone 8) = false) :
    swappedStores [.Tuple ts k p] (.Tuple vs k2 p2) env = pure (some (swNames env.scope ts)) := by
  have a1 : (!(ts.length == 2 || ts.length == 3) || vs.length != ts.length || env.blockKind != ScopeKind.function) = false := by
    rw [h1, hk, h2]; simp
  have a3 : (vs.any fun | .Starred .. => true | _ => false) = false := by
    have e : (fun x : Expr => match x with | .Starred .. => true | _ => false) = starB := by funext x; cases x <;> rfl
    rw [e]; exact h3
  have a4 : ((swNames env.scope ts).length != ts.length || (swNames env.scope ts).eraseDups.length != (swNames env.scope ts).length) = false := by
    rw [h4', h4]; simp
  unfold swappedStores
  show (if (!(ts.length == 2 || ts.length == 3) || vs.length != ts.length || env.blockKind != ScopeKind.function) = true then _ else _) = _
  rw [a1]
  show (if (vs.any fun | .Starred .. => true | _ => false) = true then _ else _) = _
  rw [a3]
  show (if ((swNames env.scope ts).length != ts.length || (swNames env.scope ts).eraseDups.length != (swNames env.scope ts).length) = true then _ else _) = _
  rw [a4]
  show (if vs.all (foldedForSure 8) = true then _ else _) = _
  rw [h5]
  show (if vs.all (constantsAlone 8) = true then _ else _) = _
  rw [h6]
  rfl
theorem sw_none {ts vs : List Expr} {k k2 : Nat} {p p2 : Pos} {env : PySem.Env} (h : ((!(ts.length == 2 || ts.length == 3) || vs.length != ts.length) || ((swNames env.scope ts).length != ts.length || (swNames env.scope ts).eraseDups.length != (swNames env.scope ts).length) || vs.all (foldedForSure 8)) = true) :
    swappedStores [.Tuple ts k p] (.Tuple vs k2 p2) env = pure none := by
  unfold swappedStores
  show (if (!(ts.length == 2 || ts.length == 3) || vs.length != ts.length || env.blockKind != ScopeKind.function) = true then _ else _) = _
  split
  · rfl
  · rename_i a1
    show (if (vs.any fun | .Starred .. => true | _ => false) = true then _ else _) = _
    split
    · rfl
    · show (if ((swNames env.scope ts).length != ts.length || (swNames env.scope ts).eraseDups.length != (swNames env.scope ts).length) = true then _ else _) = _
      split
      · rfl
      · rename_i a4
        show (if vs.all (foldedForSure 8) = true then _ else _) = _
        split
        · rfl
        · rename_i a5
          exfalso
          simp only [Bool.or_eq_true, not_or] at h a1 a4
          rcases h with (h | h) | h
          · exact absurd h (by simpa using a1.1)
          · exact absurd h (by simpa using a4)
          · exact a5 h
end Msd
/-! Sound20: a, b = x, y (continued). -/
namespace Msd
open PySem PySem.Spec PyProof.Rows L2 Mlg
section
variable {fnm : Nat → Option Str} {T : Errs} {call : CallT} {k np : Nat} {N : List Str}
theorem RelPs.laid {K : Frag} {H0 H : Hp} {ρ : Env} {σ : St} {F : Hp} {p : Addr} {u : HO} (hp : H p = none) : ∀ {vs : List V} {rs : List R}, RelPs K H0 ρ σ F H vs rs → RelPs K H0 ρ σ F (upd H p u) vs rs
  | _, _, .nil => .nil
  | _, _, .cons (r := r) h t d => by
    refine .cons ?_ (t.laid hp) d
    cases r with
    | val _ => exact h
    | loc _ => exact h
    | tmp o =>
      obtain ⟨q, e, a, b, c, g⟩ := h
      refine ⟨q, e, a, b.move (.refl _) fun w hw => ?_, c, g⟩
      rw [upd_ne (fun z => by rw [z, hp] at hw; cases hw)]
      exact hw
theorem RelPs.length {K : Frag} {H0 H : Hp} {ρ : Env} {σ : St} {F : Hp} : ∀ {vs : List V} {rs : List R}, RelPs K H0 ρ σ F H vs rs → vs.length = rs.length
  | _, _, .nil => rfl
  | _, _, .cons _ t _ => by simp [t.length]
theorem puts_len : ∀ {is : List Nat} {rs : List R} {ρ ρ1 : Env}, puts ρ is rs = some ρ1 → rs.length = is.length
  | [], [], _, _, _ => rfl
  | [], _ :: _, _, _, e => by cases e
  | _ :: _, [], _, _, e => by cases e
  | i :: is, d :: ds, ρ, ρ1, e => by
    have e : (put ρ i d).bind (fun ρ' => puts ρ' is ds) = some ρ1 := e
    cases e1 : put ρ i d with
    | none => rw [e1] at e; cases e
    | some ρ2 => rw [e1] at e; simp [puts_len e]
/-- the reading of it: the values, then what holds behind the stores -/
theorem par_read {K : Frag} {W : WX} {fx : Nat → Bool} {is : List Nat} {es : Mlg.Es} {σ : St} {H : Hp} {D : Ends} {Q : List V → Hp → Prop} (hfx : ∀ i ∈ is, fx i = false) (q : LS T K W fx (Mlg.exec call np (.par is es)) D σ H)
    (hQ : ∀ (vs : List V) (H1 : Hp), vs.length = is.length → D.nx (setAll σ is vs) H1 → (∀ p u, H1 p = none → D.nx (setAll σ is vs) (upd H1 p u)) → Q vs H1) : LX T K W (relA K) (Mlg.evals call es) σ H Q := by
  obtain ⟨ρ, F, S, q⟩ := q
  refine ⟨ρ, F, S, OutS.bind (Rl := relA K σ) q fun rs ρ1 vs F1 H1 st S1 rl h => ?_⟩
  try dsimp only at h
  cases ef : fixLocs ρ1 rs with
  | none => rw [ef] at h; exact h.elim
  | some p1 =>
    obtain ⟨rs', ρ2⟩ := p1
    rw [ef] at h
    replace h : OutS T K W fx ρ F σ H ((Res.of (puts ρ2 is rs')).bind fun ρ' => .ok (ρ', none)) D := h
    cases ep : puts ρ2 is rs' with
    | none => rw [ep] at h; exact h.elim
    | some ρ3 =>
      rw [ep] at h
      obtain ⟨F2, S2, st2, rp, _, _, _, _⟩ := fixLocs_ok S1 st rl ef
      have hl : vs.length = is.length := by rw [rp.length, puts_len ep]
      refine hQ vs H1 hl ?_ fun p u hp => ?_
      · obtain ⟨S3, st3⟩ := putsR_ok (is := is) S2 st2 rp ep
        exact h _ F2 H1 st3 S3 (setAll_fx hfx)
      · obtain ⟨S3, st3⟩ := putsR_ok (is := is) (S2.laid (u := u) hp) (st2.trans (Step.laid hp)) (rp.laid hp) ep
        exact h _ F2 _ st3 S3 (setAll_fx hfx)
theorem star_no {x : Expr} (h : plainX x = true) : starB x = false := by cases x <;> first | rfl | cases h
theorem isLoc_name {sc : Scope} {l : Nat} {x : Str} {p : Pos} (h : isLoc sc l (.Name x p) = true) : sc.names.lookup x = some .local ∧ p.line = l := by
  obtain ⟨h1, h2⟩ := and2 h
  exact ⟨by simpa using h1, by simpa using h2⟩
theorem swN_cons {sc : Scope} {l : Nat} {x : Str} {p : Pos} {r : List Expr} (h : isLoc sc l (.Name x p) = true) : (Expr.Name x p :: r).filterMap (fun | .Name id pos => if sc.names.lookup id == some .local && pos.line == l then some id else none | _ => none) = x :: r.filterMap (fun | .Name id pos => if sc.names.lookup id == some .local && pos.line == l then some id else none | _ => none) := by
  have h : (sc.names.lookup x == some .local && p.line == l) = true := h
  rw [List.filterMap_cons]
  simp only [h, if_true]
theorem go_name {sc : Scope} {fx : Nat → Bool} {i : Nat} {is : List Nat} {t : Expr} {ts : List Expr} (h : tgB.go N sc fx (i :: is) (t :: ts) = true) : ∃ x p, t = .Name x p ∧ N[i]? = some x ∧ tgB.go N sc fx is ts = true := by
  cases t <;> first | (cases h; done) | skip
  rename_i x p
  obtain ⟨g1, go2⟩ := and2 h
  exact ⟨x, p, rfl, of_decide_eq_true (and2 (and2 (and2 g1).1).1).1, go2⟩
theorem s_par (is : List Nat) {es : Mlg.Es} : PrS fnm T call k np N (.par is es) := by
  intro X W sc fx x C tk h
  unfold mS at h
  try dsimp only at h
  split at h
  · rename_i ts j p vs j2 p2 pos
    obtain ⟨ht, hor, he⟩ := and3 h
    obtain ⟨hns, he⟩ := and2 he
    obtain ⟨PA1, pl⟩ := (allS es).2 hns X W sc vs C.toCok tk he
    have hst : vs.any starB = false := by
      rw [List.any_eq_false]
      intro x hx
      rw [star_no (pl x hx)]
      exact Bool.false_ne_true
    have go : tgB.go N sc fx is ts = true := ht
    have hlen := go_len go
    have hfx := go_fx go
    have hN := C.hN
    have hsc := C.hsc
    have hbk : X.env.blockKind = .function := by unfold PySem.Env.blockKind; rw [hsc, C.kind]; rfl
    rcases (Bool.or_eq_true _ _).mp hor with hp | hp
    · obtain ⟨h1, hf, hcn⟩ := and3 hp
      obtain ⟨h1, hl, hdd⟩ := and3 h1
      obtain ⟨h1, hnd, hvl⟩ := and3 h1
      have hvl : vs.length = is.length := of_decide_eq_true hvl
      have hnd : is.Nodup := of_decide_eq_true hnd
      have hdd : (swNames sc ts).eraseDups.length = is.length := of_decide_eq_true hdd
      have hf : vs.all (foldedForSure 8) = false := by simpa using hf
      have hcn : vs.all (constantsAlone 8) = false := by simpa using hcn
      rcases (Bool.or_eq_true _ _).mp h1 with hL | hL
      · have hL : is.length = 2 := by simpa using hL
        match is, hL with
        | [i, j], _ =>
        match ts, hlen with
        | [t1, t2], _ =>
        obtain ⟨x, px, rfl, gx, go⟩ := go_name go
        obtain ⟨y, py, rfl, gy, go⟩ := go_name go
        have hl : (isLoc sc px.line (.Name x px) && (isLoc sc px.line (.Name y py) && true)) = true := hl
        obtain ⟨l1, l2⟩ := and2 hl
        have l2 := (and2 l2).1
        have esw : swNames sc [.Name x px, .Name y py] = [x, y] := by
          show List.filterMap _ [Expr.Name x px, .Name y py] = _
          exact (swN_cons (l := px.line) l1).trans (congrArg _ ((swN_cons (l := px.line) l2).trans rfl))
        match vs, hvl with
        | [a, b], _ =>
        have hij : i ≠ j := by simpa using hnd
        have hw := sw_some (ts := [.Name x px, .Name y py]) (vs := [a, b]) (k := j2) (k2 := j2) (p := p) (p2 := p2) (env := X.env) hbk rfl rfl hst (by rw [hsc, esw]; rfl) (by rw [hsc, hdd, esw]; rfl) hf hcn
        rw [hsc, esw] at hw
        refine PS.imp (ps_par C.calm (by rw [hN]; exact C.nd) (by rw [hN]; exact gx) (by rw [hN]; exact gy) hij (by rw [hsc]; exact (isLoc_name l1).1) (by rw [hsc]; exact (isLoc_name l2).1) PA1 hw) fun D σ H q => ?_
        refine par_read hfx q fun vs H1 hl hD _ => ?_
        match vs, hl with
        | [v, w], _ => exact ⟨v, w, rfl, hD⟩
      · have hL : is.length = 3 := by simpa using hL
        match is, hL with
        | [i, j, l], _ =>
        match ts, hlen with
        | [t1, t2, t3], _ =>
        obtain ⟨x, px, rfl, gx, go⟩ := go_name go
        obtain ⟨y, py, rfl, gy, go⟩ := go_name go
        obtain ⟨z, pz, rfl, gz, go⟩ := go_name go
        have hl : (isLoc sc px.line (.Name x px) && (isLoc sc px.line (.Name y py) && (isLoc sc px.line (.Name z pz) && true))) = true := hl
        obtain ⟨l1, l2⟩ := and2 hl
        obtain ⟨l2, l3⟩ := and2 l2
        have l3 := (and2 l3).1
        have esw : swNames sc [.Name x px, .Name y py, .Name z pz] = [x, y, z] := by
          show List.filterMap _ [Expr.Name x px, .Name y py, .Name z pz] = _
          exact (swN_cons (l := px.line) l1).trans (congrArg _ ((swN_cons (l := px.line) l2).trans (congrArg _ ((swN_cons (l := px.line) l3).trans rfl))))
        match vs, hvl with
        | [a, b, c], _ =>
        have hij : i ≠ j ∧ i ≠ l ∧ j ≠ l := by
          simp at hnd
          exact ⟨hnd.1.1, hnd.1.2, hnd.2⟩
        have hw := sw_some (ts := [.Name x px, .Name y py, .Name z pz]) (vs := [a, b, c]) (k := j2) (k2 := j2) (p := p) (p2 := p2) (env := X.env) hbk rfl rfl hst (by rw [hsc, esw]; rfl) (by rw [hsc, hdd, esw]; rfl) hf hcn
        rw [hsc, esw] at hw
        refine PS.imp (ps_par3 C.calm (by rw [hN]; exact C.nd) (by rw [hN]; exact gx) (by rw [hN]; exact gy) (by rw [hN]; exact gz) hij.1 hij.2.1 hij.2.2 (by rw [hsc]; exact (isLoc_name l1).1) (by rw [hsc]; exact (isLoc_name l2).1) (by rw [hsc]; exact (isLoc_name l3).1) PA1 hw) fun D σ H q => ?_
        refine par_read hfx q fun vs H1 hl hD _ => ?_
        match vs, hl with
        | [v, w, u], _ => exact ⟨v, w, u, rfl, hD⟩
    · obtain ⟨h8, hp⟩ := and2 hp
      have h8 : is.length ≤ 8 := of_decide_eq_true h8
      have hw := sw_none (ts := ts) (vs := vs) (k := j) (k2 := j2) (p := p) (p2 := p2) (env := X.env) (by rw [hsc]; exact hp)
      refine PS.imp (ps_asg (pe_tup PA1) (pg_tg (tg := .tup is) C.hN C.nd (fun x hx => by rw [C.hsc]; exact locB_ok hx) C.calm (fun x _ => .inl (C.fn x)) ht) rfl hw) fun D σ H q => ?_
      refine par_read hfx q fun vs H1 hl hD hD2 => ?_
      refine ⟨by rw [hl]; exact Nat.le_trans h8 (by decide), fun p hp => ?_⟩
      exact ⟨p, vs, rfl, SqT.of upd_same, hl, setAll_gNames (K := X.K) hl (hD2 p _ hp)⟩
  · cases h
end
end Msd
/-! Sound21: raise, try. -/
namespace Msd
open PySem PySem.Spec PyProof.Rows L2 Mlg
section
variable {fnm : Nat → Option Str} {T : Errs} {call : CallT} {k np : Nat} {N : List Str}
theorem s_stuck : PrS fnm T call k np N .stuck := by
  intro X W sc fx x C tk h
  exact ⟨fun pins s σ H D I q => by obtain ⟨ρ, F, S, q⟩ := q; exact q.elim⟩
/-- X() of an own class -/
theorem pmk_own0 {X : Cx} {C : Addr} {bmB : List Value} {B newId initId : String} {x : Str} {p pos : Pos} (F : ExcBaseFacts B newId initId bmB) (q : PySem.W.excIn X.K C bmB newId = true) (gC : X.mg x = some (.ref C)) (kC : PySem.W.keepIn X.K (.ref C) = true) (r : Raises X (.ref C)) (hg : Gl X x)
    (hdb : (x == ("__debug__" : Str)) = false) : PMk X (.Call (.Name x p) [] [] pos) (fun _ H Q => Q (.ref C) none H) := by
  intro pins s σ H Q I h
  refine wpAny_Call_Name_kw (ld_glob I hg gC ?_ hdb)
  refine PySem.W.callWith_K0 I.kIn kC ?_
  show wpAny _ _ (PySem.call (.ref C) []) _ _ _
  obtain ⟨bm, N, nm, qn, bs, hdct, sn, sub, ab, col, dd, k0, k1, k2, k3, k5, mN, hC, hN, hni, T⟩ := exc_obj I.kIn q
  refine wpAny_call_exc_subT F T hC hN hni (fun h' e hm => ?_) (Nat.zero_le _)
  exact mk_of I hm r h (I.hok.gone hm.new)
theorem gloB_ok {X : Cx} {sc : Scope} {x : Str} (e : X.env.scope = sc) (h : gloB sc x = true) : Gl X x := by
  have : sc.names.lookup x = some .globalImplicit := of_decide_eq_true h
  show X.env.scope.names.lookup x = _
  rw [e]; exact this
theorem s_rais (c : Nat) (e : Eo) : PrS fnm T call k np N (.rais c e) := by
  intro X W sc fx x C tk h
  unfold mS at h
  try dsimp only at h
  split at h
  · rename_i y py pc pr
    obtain ⟨h1, h3, h4⟩ := and3 h
    obtain ⟨h1, h2⟩ := and2 h1
    have hT : T.fld c = none := C.G.fl c (by simpa using h4)
    have hnm : T.nm c = some y := of_decide_eq_true h1
    have E := C.G.ex c y hnm
    refine PS.imp (ps_raise C.calm tk (pmk_own0 PySem.F.excBase_ValueError (C.G.ex0 c y hnm hT) E.gC E.kC (raises_own E.sb E.ty) (gloB_ok C.hsc h2) (nameB_ok h3).1)) fun D σ H q => ?_
    obtain ⟨ρ, F, S, q⟩ := q
    refine q σ F H _ _ .refl S .refl ⟨rfl, ⟨_, hnm⟩, ?_⟩
    rw [hT]
    exact ⟨rfl, rfl⟩
  · cases h
/-! ### except suites -/
/-- what a suite leaves -/
def tU (K : Frag) (fx : Nat → Bool) (u : U) : TS := fun D σ H => ∃ ρ F ρ' f, Sim K ρ F σ H ∧ suite ρ f u = some ρ' ∧ ∀ σ' F' H', Step ρ σ F H ρ' σ' F' H' → Sim K ρ' F' σ' H' → Fx fx σ σ' → D.nx σ' H'
theorem pe_cst {X : Cx} {d : D} {c : Const} {j : Nat} {p : Pos} (h : cstB d c = true) : ∃ v, PE X (.Constant c j p) (tC v) ∧ ∀ F, Rep X.K F v d := by
  cases d <;> first | (cases h; done) | skip
  · cases c <;> first | (cases h; done) | skip
    exact ⟨_, pe_non, fun _ => .non⟩
  · cases c <;> first | (cases h; done) | skip
    rename_i a b
    have : a = b := eq_of_beq h
    subst this
    exact ⟨_, pe_bl, fun _ => .bl a⟩
  · cases c <;> first | (cases h; done) | skip
    rename_i a b
    have : a = b := of_decide_eq_true h
    subst this
    exact ⟨_, pe_int, fun _ => .int a⟩
  · cases c <;> first | (cases h; done) | skip
    rename_i a b
    have : a = b := of_decide_eq_true h
    subst this
    exact ⟨_, pe_str, fun _ => .str a⟩
theorem u_ok {X : Cx} {sc : Scope} {fx : Nat → Bool} {u : U} {b : List Stmt} (hN : X.N = N) (nd : N.Nodup) (hsc : X.env.scope = sc) (fn : ∀ x, X.fn x = true) (h : mU N sc fx u b = true) : PSs X b (tU X.K fx u) := by
  unfold mU at h
  split at h
  · rename_i i d y py c j p pos
    obtain ⟨h1, hfx, hc⟩ := and3 h
    obtain ⟨h1, hl, hn⟩ := and3 h1
    have hfx : fx i = false := by simpa using hfx
    obtain ⟨v, pv, rv⟩ := pe_cst (X := X) (j := j) (p := p) hc
    refine PSs.imp (pss_cons (ps_set (i := i) (by rw [hN]; exact nd) (by rw [hN]; exact of_decide_eq_true h1) (by rw [hsc]; exact locB_ok hl) pv rfl (.inl (fn y))) pss_nil) fun D σ H q => ?_
    obtain ⟨ρ, F, ρ', f, S, e, q⟩ := q
    obtain ⟨S2, st2⟩ := put_ok S (rv F) e
    exact q _ F H st2 S2 (Fx.set hfx)
  · rename_i i n y py y' py' c j p p2 pos
    obtain ⟨h1, hfx, hc⟩ := and3 h
    obtain ⟨h1, hl, hn⟩ := and3 h1
    obtain ⟨hy, hc⟩ := and2 hc
    have hc0 := hc
    have hfx : fx i = false := by simpa using hfx
    have hy : y' = y := of_decide_eq_true hy
    subst hy
    obtain ⟨v, pv, rv⟩ := pe_cst (X := X) (j := j) (p := p) hc0
    obtain ⟨n1, n2, _⟩ := nameB_ok hn
    have hNi : X.N[i]? = some y' := by rw [hN]; exact of_decide_eq_true h1
    have hloc : Loc X.env.scope y' := by rw [hsc]; exact locB_ok hl
    have hvis : Vis X.env.scope y' := hloc.elim .inl fun z => .inr (.inl z)
    refine PSs.imp (pss_cons (ps_set (i := i) (by rw [hN]; exact nd) hNi hloc (pe_op (op_bin .add) (pe_var (i := i) hNi hvis n1 n2) pv) rfl (.inl (fn y'))) pss_nil) fun D σ H q => ?_
    obtain ⟨ρ, F, ρ', f, S, e, q⟩ := q
    unfold suite at e
    dsimp only at e
    split at e
    · rename_i kk hi
      obtain ⟨w, g1, g2⟩ := S.slot i _ hi
      cases g2
      refine ⟨_, g1, ?_⟩
      refine bin_ok (o := .add) (T := ⟨fun _ => 0, fun _ => none, fun _ => none⟩) (W := fun _ _ _ _ => True) (r := .val (.int (kk + n))) S (.inl (.int kk)) (.inl (rv F)) rfl fun v F1 H1 st S1 rl => ?_
      obtain ⟨S2, st2⟩ := put_ok S1 rl e
      exact q _ F1 H1 (st.trans st2) S2 (Fx.set hfx)
    · cases e
  · rename_i i d y py m p c j pc q pos
    obtain ⟨h1, hli, hc⟩ := and3 h
    obtain ⟨h1, hv, hn⟩ := and3 h1
    obtain ⟨hm, hNi⟩ := and2 h1
    obtain ⟨v, pv, rv⟩ := pe_cst (X := X) (j := j) (p := pc) hc
    obtain ⟨n1, n2, _⟩ := nameB_ok hn
    have e : m = ("append" : Str) := of_decide_eq_true hm
    subst e
    have po : PE X (.Name y py) (tVar i) := pe_var (i := i) (by rw [hN]; exact of_decide_eq_true hNi) (by rw [hsc]; exact visB_ok hv) n1 n2
    have pa : PA X [.Constant c j pc] (tCons (tC v) tNil) := pa_cons pv pa_nil rfl
    refine PSs.imp (pss_cons (ps_expr (pe_bm PySem.F.plainAttrs_list PySem.F.slot_list_append PySem.F.type_list_append mt_append po pa (by rfl) (few_one rfl) hli rfl (by rfl)) rfl) pss_nil) fun D σ H q => ?_
    obtain ⟨ρ, F, ρ', f, S, e, q⟩ := q
    unfold suite at e
    dsimp only at e
    split at e
    · rename_i xs hi
      split at e
      · rename_i cs
        cases e
        obtain ⟨p', k1, kF, vs, k2, k3⟩ := S.slot i _ hi
        obtain ⟨S2, st2⟩ := S.change (u := .lst (vs ++ [v])) (o' := .lst (xs ++ [d])) hi k1 ⟨_, upd_same, k3.append (.cons (rv F) .nil)⟩
        refine ⟨_, k1, .inl ⟨rfl, vs, SqL.of k2⟩, p', vs, v, rfl, rfl, k2, ?_, q σ F _ st2 S2 .refl⟩
        rw [k3.length]
        exact Nat.lt_of_lt_of_le (of_decide_eq_true cs) lim_le
      · cases e
    · cases e
  · cases h
/-! ### try -/
def tsU (K : Frag) (fx : Nat → Bool) (u : U) : Addr → Value → Option Addr → TS := fun _ _ _ => tU K fx u
def hsL (T : Errs) (K : Frag) (fx : Nat → Bool) (hs : List (Nat × Option Nat × U)) : List (Value × (Addr → Value → Option Addr → TS)) := hs.map fun h => (.ref (T.at_ h.1), tsU K fx h.2.2)
theorem hs_ok {X : Cx} {sc : Scope} {fx : Nat → Bool} (C : Sok fnm T call k N X sc) : ∀ {hs : List (Nat × Option Nat × U)} {hds : List ExceptHandler}, mHs T.nm N sc fx hs hds = true → HdsOk X hds (hsL T X.K fx hs) := by
  intro hs
  induction hs with
  | nil =>
    intro hds h
    cases hds with
    | nil => exact .nil
    | cons _ _ => unfold mHs at h; cases h
  | cons a hs ih =>
    intro hds h
    unfold mHs at h
    split at h
    · rename_i heq; cases heq
    · rename_i c u hs' y py b0 su pos hds heq
      cases heq
      obtain ⟨h1, hu, hr⟩ := and3 h
      obtain ⟨h1, h2, h3⟩ := and3 h1
      have hnm : T.nm c = some y := of_decide_eq_true h1
      have E := C.G.ex c y hnm
      refine .cons (c := .ref (T.at_ c)) ⟨gloB_ok C.hsc h2, (nameB_ok h3).1, .inl E.gC⟩ (fun a oe cls d pn _ _ => ?_) (ih hr)
      exact u_ok (X := X.suite a ((a, oe) :: pn)) C.hN C.nd C.hsc C.fn hu
    · cases h
/-- the clauses -/
theorem caught_ok {K : Frag} {W : WX} {fx : Nat → Bool} {D : Ends} {ρ ρ1 : Env} {F F1 H H1 : Hp} {σ σ1 : St} {c : Nat} {f : Mlg.D} {cls : Value} {d : Option Addr} (em : ∀ c c' x x', T.nm c = some x → T.nm c' = some x' → PySem.W.exmOne K (.ref (T.at_ c)) (.ref (T.at_ c')) = some (decide (c = c')))
    (st : Step ρ σ F H ρ1 σ1 F1 H1) (S : Sim K ρ1 F1 σ1 H1) (fxs : Fx fx σ σ1) (ex : ExcR T K F1 H1 c f cls d) {sc : Scope} : ∀ {hs : List (Nat × Option Nat × U)} {hds : List ExceptHandler}, mHs T.nm N sc fx hs hds = true → OutS T K W fx ρ F σ H (caught ρ1 c f hs) D → wMany K W D (hsL T K fx hs) cls d σ1 H1 := by
  intro hs
  induction hs with
  | nil => exact fun _ q => q σ1 F1 H1 cls d st S fxs ex
  | cons a hs ih =>
    intro hds h q
    unfold mHs at h
    split at h
    · rename_i heq; cases heq
    · rename_i c' u hs' y py b0 su pos hds heq
      cases heq
      obtain ⟨h1, hu, hr⟩ := and3 h
      obtain ⟨h1, h2, h3⟩ := and3 h1
      have hnm : T.nm c' = some y := of_decide_eq_true h1
      obtain ⟨ec, ⟨x, hx⟩, _⟩ := id ex
      subst ec
      refine ⟨_, em c c' x y hx hnm, fun b a ha => ?_, fun b => ?_⟩
      · have b : c = c' := of_decide_eq_true b
        have q : OutS T K W fx ρ F σ H (if c = c' then (Res.of (suite ρ1 f u)).bind fun ρ' => .ok (ρ', none) else caught ρ1 c f hs) D := q
        rw [if_pos b] at q
        cases e : suite ρ1 f u with
        | none => rw [e] at q; exact q.elim
        | some ρ2 =>
          rw [e] at q
          exact ⟨ρ1, F1, ρ2, f, S, e, fun σ' F' H' st' S' fx' => q σ' F' H' (st.trans st') S' (fxs.trans fx')⟩
      · have b : ¬ c = c' := of_decide_eq_false b
        have q : OutS T K W fx ρ F σ H (if c = c' then (Res.of (suite ρ1 f u)).bind fun ρ' => .ok (ρ', none) else caught ρ1 c f hs) D := q
        rw [if_neg b] at q
        exact ih hr q
    · cases h
theorem s_tri {b : Mlg.Ss} (hs : List (Nat × Option Nat × U)) (ib : PrSs fnm T call k np N b) : PrS fnm T call k np N (.tri b hs) := by
  intro X W sc fx x C tk h
  unfold mS at h
  try dsimp only at h
  split at h
  · rename_i body h0 hds pos
    obtain ⟨hh, hb⟩ := and2 h
    refine PS.imp (ps_try_many C.stk C.frm tk (tb := fun W => LS T X.K W fx (Mlg.execs call np b)) (fun W' pn xe tk' po' => ?_) (hs_ok C hh)) fun D σ H q => ?_
    · exact ib (X.tr pn xe) W' sc fx body { C with po := po' } tk' hb
    · obtain ⟨ρ, F, S, q⟩ := q
      refine ⟨ρ, F, S, ?_⟩
      unfold Mlg.exec at q
      cases e : Mlg.execs call np b ρ with
      | no => rw [e] at q; exact q
      | ok p =>
        rw [e] at q
        obtain ⟨ρ', o⟩ := p
        cases o <;> exact q
      | exc c f ρ' =>
        rw [e] at q
        exact fun σ' F' H' cls d st S' fxs ex => caught_ok C.G.em st S' fxs ex hh q
  · cases h
end
end Msd
/-! Sound22: xs[a], xs[b] = xs[c], xs[d]; all statements. -/
namespace Msd
open PySem PySem.Spec PyProof.Rows L2 Mlg
section
variable {fnm : Nat → Option Str} {T : Errs} {call : CallT} {k np : Nat} {N : List Str}
theorem s_swp (i : Nat) (a b c d : Mlg.E) : PrS fnm T call k np N (.swp i a b c d) := by
  intro X W sc fx x C tk h
  unfold mS at h
  try dsimp only at h
  split at h
  · rename_i y py za pa y' py' zb pb j p u v j2 p2 pos
    obtain ⟨h1, hpl, hm⟩ := and3 h
    obtain ⟨h1, hn, hy⟩ := and3 h1
    obtain ⟨hNi, hv⟩ := and2 h1
    obtain ⟨hy, hpa, hpb⟩ := and3 hy
    obtain ⟨hpu, hpv⟩ := and2 hpl
    obtain ⟨ha, hb, hcd⟩ := and3 hm
    obtain ⟨hc, hd⟩ := and2 hcd
    have hy : y' = y := of_decide_eq_true hy
    subst hy
    obtain ⟨n1, n2, _⟩ := nameB_ok hn
    have po : ∀ {q : Pos}, PE X (.Name y' q) (tVar i) := fun {q} => pe_var (i := i) (by rw [C.hN]; exact of_decide_eq_true hNi) (by rw [C.hsc]; exact visB_ok hv) n1 n2
    have pt := pe_tup (x1 := j2) (pos := p2) (pa_cons ((allE (.ix (.var i) c)).1 X W sc u C.toCok tk hc) (pa_cons ((allE (.ix (.var i) d)).1 X W sc v C.toCok tk hd) pa_nil (starEach_plain hpv)) (starEach_plain hpu))
    have g1 := pg_sub (pos := pa) (po (q := py)) ((allE a).1 X W sc za C.toCok tk ha) (set_any (by have := C.room.un; omega)) (by intro v; cases za <;> first | rfl | cases hpa)
    have g2 := pg_sub (pos := pb) (po (q := py')) ((allE b).1 X W sc zb C.toCok tk hb) (set_any (by have := C.room.un; omega)) (by intro v; cases zb <;> first | rfl | cases hpb)
    have hw : swappedStores [.Tuple [.Subscript (.Name y' py) za pa, .Subscript (.Name y' py') zb pb] j p] (.Tuple [u, v] j2 p2) X.env = pure none := sw_none (by rfl)
    refine PS.imp (ps_asg pt (pg_tup (n := 2) (k := j) (pos := p) C.calm (pgs_cons g1 (pgs_cons g2 pgs_nil))) rfl hw) fun D σ H q => ?_
    obtain ⟨ρ, F, S, q⟩ := q
    unfold Mlg.exec at q
    split at q
    · refine ⟨ρ, F, S, OutS.bind q fun r1 ρ1 w1 F1 H1 s1 S1 rl1 h1 => ⟨ρ1, F1, S1, OutS.bind1 (Rl := relE X.K σ) s1 h1 fun r2 ρ2 w2 F2 H2 s2 S2 rl2 h2 => ?_⟩⟩
      have s12 := s1.trans s2
      cases r1 with
      | tmp _ => exact h2.elim
      | loc _ => exact h2.elim
      | val d1 =>
      cases r2 with
      | tmp _ => exact h2.elim
      | loc _ => exact h2.elim
      | val d2 =>
      try dsimp only at h2
      split at h2
      · rename_i hob
        refine ⟨by show 2 ≤ sizeLine; decide, fun pp hp => ?_⟩
        have S3 := S2.laid (u := .tup [w1, w2]) hp
        have s3 := s12.trans (Step.laid (u := .tup [w1, w2]) hp)
        obtain ⟨q0, e0⟩ := hasObj_at S3 hob
        refine ⟨pp, [w1, w2], rfl, SqT.of upd_same, rfl, w1, [w2], rfl, _, e0, ρ2, F2, S3, OutS.bind1 (Rl := relE X.K σ) s3 h2 fun r4 ρ4 k4 F4 H4 s4 S4 rl4 h4 => ?_⟩
        cases r4 with
        | tmp _ => exact h4.elim
        | loc _ => exact h4.elim
        | val j1 =>
        try dsimp only at h4
        cases es : storeD ρ4 i j1 d1 with
        | none => rw [es] at h4; exact h4.elim
        | some ρ5 =>
        rw [es] at h4
        have s34 := s3.trans s4
        have rl1' : Rep X.K F4 w1 d1 := Rep.mono (s2.ext.trans s4.ext) rl1
        obtain ⟨H5, c5, S5, st5⟩ := store_ok' S4 e0 rl4 rl1' es
        have s5 := s34.trans st5
        refine c5 _ ⟨w2, [], rfl, _, e0, ρ5, F4, S5, OutS.bind1 (Rl := relE X.K σ) s5 h4 fun r6 ρ6 k6 F6 H6 s6 S6 rl6 h6 => ?_⟩
        cases r6 with
        | tmp _ => exact h6.elim
        | loc _ => exact h6.elim
        | val j2 =>
        try dsimp only at h6
        cases es2 : storeD ρ6 i j2 d2 with
        | none => rw [es2] at h6; exact h6.elim
        | some ρ7 =>
        rw [es2] at h6
        have rl2' : Rep X.K F6 w2 d2 := Rep.mono (s4.ext.trans s6.ext) rl2
        obtain ⟨H7, c7, S7, st7⟩ := store_ok' S6 e0 rl6 rl2' es2
        exact c7 _ ⟨rfl, h6 σ F6 H7 ((s5.trans s6).trans st7) S7 .refl⟩
      · exact h2.elim
    · exact q.elim
  · cases h
mutual
theorem stS : ∀ s : Mlg.S, PrS fnm T call k np N s
  | .asg i e => s_asg i
  | .par is es => s_par is
  | .unp is e => s_unp is
  | .sub i ix e => s_sub i
  | .swp i a b c d => s_swp i a b c d
  | .aug i o e => s_aug i o
  | .exp e => s_exp
  | .ret e => s_ret
  | .cond c a b => s_cond (stSs a) (stSs b)
  | .loop tg it b => s_loop (stSs b)
  | .whil c b => s_whil (stSs b)
  | .rais c e => s_rais c e
  | .tri b hs => s_tri hs (stSs b)
  | .pass => s_pass
  | .stuck => s_stuck
theorem stSs : ∀ s : Mlg.Ss, PrSs fnm T call k np N s
  | .nil => ss_nil
  | .cons s r => ss_cons (stS s) (stSs r)
end
end
end Msd
/-! Sound23: defs. -/
namespace Msd
open PySem PySem.Spec PyProof.Rows L2 Mlg
def fxOf (d : Def) : Nat → Bool := fun i => decide (i < d.np) && !d.reb.contains i
def scopeB (N : List Str) (np : Nat) (sc : Scope) : Bool :=
  decide (sc.kind = .function) && decide (sc.isCoroutine = false) && decide (sc.isGenerator = false) && decide N.Nodup && decide (np ≤ N.length) && (N.take np).all (locB sc) && sc.names.all (fun y => decide (y.2 ≠ .free))
theorem scopeB_ok {N : List Str} {np : Nat} {sc : Scope} (h : scopeB N np sc = true) : FnScope N (N.take np) sc ∧ np ≤ N.length := by
  obtain ⟨h1, hp, hf⟩ := and3 h
  obtain ⟨h1, hnd, hle⟩ := and3 h1
  obtain ⟨hk, hco, hg⟩ := and3 h1
  have hle : np ≤ N.length := of_decide_eq_true hle
  refine ⟨⟨of_decide_eq_true hk, of_decide_eq_true hco, of_decide_eq_true hg, of_decide_eq_true hnd, ?_, fun x hx => ?_, fun y hy => ?_⟩, hle⟩
  · rw [List.length_take, Nat.min_eq_left hle]
  · exact locB_ok (List.all_eq_true.mp hp x hx)
  · exact of_decide_eq_true (List.all_eq_true.mp hf y hy)
section
variable {K : Frag} {F H F' H' : Hp}
theorem un_get {as : Env} {m i : Nat} {s : Slot} {o : O} (h : (as ++ List.replicate m Slot.un)[i]? = some s) (ho : isOwn s = some o) : as[i]? = some s := by
  rw [List.getElem?_append] at h
  split at h
  · exact h
  · rw [List.getElem?_replicate] at h
    split at h
    · cases h; cases ho
    · cases h
theorem st_get {vs : List V} {m i : Nat} {v : V} (hi : i < vs.length) : (vs.map some ++ List.replicate m none)[i]? = (vs.map some)[i]? := by
  rw [List.getElem?_append_left (by simpa using hi)]
/-- a def's names at its start -/
theorem Sim.begin {as : Env} {vs : List V} {m : Nat} (S : Sim K as F (vs.map some) H) : Sim K (as ++ List.replicate m .un) F (vs.map some ++ List.replicate m none) H := by
  have hl : as.length = vs.length := by have := S.len; simpa using this
  have old : ∀ {i : Nat} {v : V}, i < vs.length → (vs.map some ++ List.replicate m (none : Option V))[i]? = (vs.map some)[i]? := fun {i v} hi => List.getElem?_append_left (by simpa using hi)
  refine ⟨S.fh, by simp [hl], fun i s h => ?_, fun i j si sj oi oj p h1 h2 o1 o2 e1 e2 => ?_⟩
  · by_cases hi : i < as.length
    · rw [List.getElem?_append_left hi] at h
      have hs := S.slot i s h
      have e : (vs.map some ++ List.replicate m (none : Option V))[i]? = (vs.map some)[i]? := List.getElem?_append_left (by simpa [hl] using hi)
      cases s <;> first | trivial | (simp only [SlotR] at hs ⊢; rw [e]; exact hs)
    · rw [List.getElem?_append_right (by omega), List.getElem?_replicate] at h
      split at h
      · cases h; trivial
      · cases h
  · have a1 := un_get h1 o1
    have a2 := un_get h2 o2
    have l1 := lt_of_get a1
    have l2 := lt_of_get a2
    rw [List.getElem?_append_left (by simpa [hl] using l1)] at e1
    rw [List.getElem?_append_left (by simpa [hl] using l2)] at e2
    exact S.sep i j si sj oi oj p a1 a2 o1 o2 e1 e2
theorem own_begin {as : Env} {vs : List V} {m : Nat} {p : Addr} (hl : as.length = vs.length) : Own (as ++ List.replicate m .un) (vs.map some ++ List.replicate m none) p ↔ Own as (vs.map some) p := by
  constructor
  · rintro ⟨i, s, o, h1, h2, h3⟩
    have a := un_get h1 h2
    refine ⟨i, s, o, a, h2, ?_⟩
    rw [List.getElem?_append_left (by have := lt_of_get a; simpa [hl] using this)] at h3
    exact h3
  · rintro ⟨i, s, o, h1, h2, h3⟩
    have l := lt_of_get h1
    exact ⟨i, s, o, by rw [List.getElem?_append_left l]; exact h1, h2, by rw [List.getElem?_append_left (by simpa [hl] using l)]; exact h3⟩
theorem ownU_begin {as : Env} {vs : List V} {m : Nat} {p : Addr} (hl : as.length = vs.length) : OwnU (as ++ List.replicate m .un) (vs.map some ++ List.replicate m none) p ↔ OwnU as (vs.map some) p := by
  constructor
  · rintro ⟨i, o, h1, h3⟩
    have a := un_get h1 (o := o) rfl
    refine ⟨i, o, a, ?_⟩
    rw [List.getElem?_append_left (by have := lt_of_get a; simpa [hl] using this)] at h3
    exact h3
  · rintro ⟨i, o, h1, h3⟩
    have l := lt_of_get h1
    exact ⟨i, o, by rw [List.getElem?_append_left l]; exact h1, by rw [List.getElem?_append_left (by simpa [hl] using l)]; exact h3⟩
theorem mask_get {reb : List Nat} : ∀ {l : List Slot} {k i : Nat} {s : Slot}, (mask reb k l)[i]? = some s → (reb.contains (k + i) = true ∧ s = .un ∧ i < l.length) ∨ (reb.contains (k + i) = false ∧ l[i]? = some s)
  | [], _, _, _, h => by simp [mask] at h
  | t :: l, k, 0, s, h => by
    simp only [mask, List.getElem?_cons_zero, Option.some.injEq] at h
    by_cases c : reb.contains k = true
    · rw [if_pos c] at h; exact .inl ⟨c, h.symm, by simp⟩
    · rw [if_neg c] at h; exact .inr ⟨by simpa using c, by simp [h]⟩
  | t :: l, k, i + 1, s, h => by
    simp only [mask, List.getElem?_cons_succ] at h
    rcases mask_get h with ⟨a, b, c⟩ | ⟨a, b⟩
    · exact .inl ⟨by rw [show k + (i + 1) = k + 1 + i by omega]; exact a, b, by simpa using c⟩
    · exact .inr ⟨by rw [show k + (i + 1) = k + 1 + i by omega]; exact a, by simpa using b⟩
theorem mask_len {reb : List Nat} : ∀ {l : List Slot} {k : Nat}, (mask reb k l).length = l.length
  | [], _ => rfl
  | _ :: l, k => by simp [mask, mask_len (l := l)]
/-- the parameters behind it -/
theorem finish {d : Def} {as ρ' : Env} {vs : List V} {m : Nat} {σ' : St} (S0 : Sim K as F (vs.map some) H) (hnp : as.length = d.np) (st : Step (as ++ List.replicate m .un) (vs.map some ++ List.replicate m none) F H ρ' σ' F' H') (S : Sim K ρ' F' σ' H') (fx : Fx (fxOf d) (vs.map some ++ List.replicate m none) σ') :
    Step as (vs.map some) F H (mask d.reb 0 (ρ'.take d.np)) (vs.map some) F' H' ∧ Sim K (mask d.reb 0 (ρ'.take d.np)) F' (vs.map some) H' ∧ ∀ p, Own (mask d.reb 0 (ρ'.take d.np)) (vs.map some) p → Own ρ' σ' p := by
  have hl : as.length = vs.length := by have := S0.len; simpa using this
  have hσ : σ'.length = ρ'.length := S.len.symm
  -- one of them
  have one : ∀ {i : Nat} {s : Slot}, (mask d.reb 0 (ρ'.take d.np))[i]? = some s → s = .un ∨ (ρ'[i]? = some s ∧ σ'[i]? = (vs.map some)[i]?) := by
    intro i s h
    rcases mask_get h with ⟨_, b, _⟩ | ⟨a, b⟩
    · exact .inl b
    · have li : i < d.np := by have := lt_of_get b; simp at this; omega
      rw [List.getElem?_take_of_lt li] at b
      refine .inr ⟨b, ?_⟩
      have f := fx.2 i (by simp only [fxOf, Bool.and_eq_true, decide_eq_true_eq, Bool.not_eq_true']; exact ⟨li, by simpa using a⟩)
      rw [f, List.getElem?_append_left (by simp; omega)]
  have ow : ∀ p, Own (mask d.reb 0 (ρ'.take d.np)) (vs.map some) p → Own ρ' σ' p := by
    rintro p ⟨i, s, o, h1, h2, h3⟩
    rcases one h1 with rfl | ⟨a, b⟩
    · cases h2
    · exact ⟨i, s, o, a, h2, by rw [b]; exact h3⟩
  have owU : ∀ p, OwnU (mask d.reb 0 (ρ'.take d.np)) (vs.map some) p → OwnU ρ' σ' p := by
    rintro p ⟨i, o, h1, h3⟩
    rcases one h1 with z | ⟨a, b⟩
    · cases z
    · exact ⟨i, o, a, by rw [b]; exact h3⟩
  refine ⟨⟨st.ext, fun a o h n => st.keep a o h fun q => n ((ownU_begin hl).mp q), st.dom, fun p q => (st.own p (ow p q)).elim (fun z => .inl ((own_begin hl).mp z)) .inr, fun p q => (st.ownU p (owU p q)).elim (fun z => .inl ((ownU_begin hl).mp z)) .inr, fun p h1 h2 h3 h4 => st.frz p h1 h2 (fun q => h3 ((ownU_begin hl).mp q)) h4⟩, ⟨S.fh, ?_, fun i s h => ?_, fun i j si sj oi oj p h1 h2 o1 o2 e1 e2 => ?_⟩, ow⟩
  · rw [mask_len, List.length_take, S.len, fx.1]; simp; omega
  · rcases one h with rfl | ⟨a, b⟩
    · trivial
    · have hs := S.slot i s a
      cases s <;> first | trivial | (simp only [SlotR] at hs ⊢; rw [← b]; exact hs)
  · rcases one h1 with rfl | ⟨a1, b1⟩
    · cases o1
    rcases one h2 with rfl | ⟨a2, b2⟩
    · cases o2
    exact S.sep i j si sj oi oj p a1 a2 o1 o2 (by rw [b1]; exact e1) (by rw [b2]; exact e2)
end
/-- a def of the table against its text -/
def defB (fnm ern : Nat → Option Str) (d : Def) (N : List Str) (st : Stmt) : Bool :=
  scopeB N d.np (defScope st) && decide (N.length = d.np + d.ns) && mSs fnm ern N (defScope st) (fxOf d) d.body (defBody st)
section
variable {fnm : Nat → Option Str} {T : Errs} {tab : Nat → Option Def} {P : Program} {w : World} {K : Frag} {mg : Str → Option Value} {base : Heap}
theorem def_ok {n f : Nat} {d : Def} {N : List Str} {x qual : Str} {st : Stmt} {a : Addr} {fd : FuncData} (G : Glob fnm T (callF tab n) n P w K mg base) (Fu : L2.FunD K x qual (defArgs st) (defBody st) (defScope st) [] [] a fd) (hd : tab f = some d) (hB : defB fnm T.nm d N st = true) :
    FnOk P w K mg base (L2.CX P w) (n + 1) a fd (N.take d.np) (spF T K (callF tab (n + 1)) f) := by
  obtain ⟨hs, hlen, hm⟩ := and3 hB
  obtain ⟨FS, hle⟩ := scopeB_ok hs
  have hlen : N.length = d.np + d.ns := of_decide_eq_true hlen
  have hps : (N.take d.np).length = d.np := by rw [List.length_take]; omega
  -- what a call asks
  have ask : ∀ {as : Env} {F : Hp} {vs : List V} {H : Hp} {E : XK} {Q : VK}, OutF T K E as F (vs.map some) H (callF tab (n + 1) f as) Q → (as.length = d.np ∧ lendOk d.reb 0 as = true) ∧ OutF T K E as F (vs.map some) H (match execs (callF tab n) d.np d.body (as ++ List.replicate d.ns .un) with
        | .ok (ρ, none) => .ok (.val .none, mask d.reb 0 (ρ.take d.np))
        | .ok (ρ, some r) => .ok (r, mask d.reb 0 (ρ.take d.np))
        | .exc c f ρ => .exc c f (mask d.reb 0 (ρ.take d.np))
        | .no => .no) Q := by
    intro as F vs H E Q h
    unfold callF at h
    rw [hd] at h
    dsimp only at h
    split at h
    · rename_i c; exact ⟨c, h⟩
    · exact h.elim
  refine FunD.ok Fu FS (fun vs H Q E q => ?_) fun cdv A outer s H vs Q E hr q => ?_
  · obtain ⟨as, F, S, q⟩ := q
    have := (ask q).1.1
    have := S.len
    simp at this
    omega
  · obtain ⟨as, F, S, q⟩ := q
    obtain ⟨⟨hnp, _⟩, q⟩ := ask q
    have hl : as.length = vs.length := by have := S.len; simpa using this
    let X := cxOf (L2.CX P w) P w K mg base N qual (defScope st) a cdv A outer s H E
    have C : Sok fnm T (callF tab n) n N X (defScope st) := { hN := rfl, nd := FS.nd, hsc := rfl, calm := rfl, room := hr, G := G, kind := FS.kind, fn := fun _ => rfl, stk := rfl, frm := rfl, po := passes_of rfl }
    have tk : Takes X (fun cls d _ H => E cls d H) := takes_of (E := E) rfl rfl rfl rfl
    refine ⟨_, stSs (np := d.np) d.body X _ _ (fxOf d) _ C tk hm, ?_⟩
    have hst : L2.start N vs = vs.map some ++ List.replicate d.ns none := by
      unfold L2.start
      rw [show N.length - vs.length = d.ns by omega]
    rw [hst]
    refine ⟨as ++ List.replicate d.ns Slot.un, F, S.begin, ?_⟩
    show OutS T K _ _ _ _ _ _ (execs (callF tab n) d.np d.body (as ++ List.replicate d.ns .un)) _
    cases e : execs (callF tab n) d.np d.body (as ++ List.replicate d.ns .un) with
    | no => rw [e] at q; exact q
    | exc c f ρ' =>
      rw [e] at q
      intro σ' F' H' cls dd st' S' fx' ex
      obtain ⟨s2, S2, _⟩ := finish S hnp st' S' fx'
      exact q F' H' cls dd s2 S2 ex
    | ok p =>
      rw [e] at q
      obtain ⟨ρ', o⟩ := p
      cases o with
      | none =>
        intro σ' F' H' st' S' fx'
        obtain ⟨s2, S2, _⟩ := finish S hnp st' S' fx'
        exact q .non F' H' s2 S2 .non
      | some r =>
        intro v σ' F' H' st' S' fx' rl
        obtain ⟨s2, S2, ow⟩ := finish S hnp st' S' fx'
        refine q v F' H' s2 S2 ?_
        cases r with
        | val _ => exact rl
        | loc _ => exact rl.elim
        | tmp o =>
          obtain ⟨p, a1, a2, a3, a4, a5⟩ := rl
          exact ⟨p, a1, a2, a3, fun z => a4 (ow p z), a5.elim .inl fun z => .inr ((own_begin hl).mp z)⟩
/-- the defs of a text -/
structure Txt (fnm : Nat → Option Str) (T : Errs) (tab : Nat → Option Def) (K : Frag) (mg : Str → Option Value) : Prop extends GlobS fnm T K mg where
  def_ : ∀ f x, f < 100000 → fnm f = some x → ∃ (d : Def) (N : List Str) (st : Stmt) (qual : Str) (a : Addr) (fd : FuncData), tab f = some d ∧ mg x = some (.ref a) ∧ L2.FunD K x qual (defArgs st) (defBody st) (defScope st) [] [] a fd ∧ Binds K fd (N.take d.np) [] ∧ defB fnm T.nm d N st = true
theorem Txt.glob (X : Txt fnm T tab K mg) : ∀ n, Glob fnm T (callF tab n) n P w K mg base
  | 0 => ⟨X.toGlobS, fun f x hf0 hf => by
    obtain ⟨d, N, st, qual, a, fd, h1, h2, h3, h4, h5⟩ := X.def_ f x hf0 hf
    exact ⟨a, fd, _, h2, h3.kp, h4, ⟨fun vs H Q E q => by obtain ⟨as, F, S, q⟩ := q; exact q.elim, fun A outer s H args us vs Q E _ _ _ _ q => by obtain ⟨as, F, S, q⟩ := q; exact q.elim⟩⟩⟩
  | n + 1 => ⟨X.toGlobS, fun f x hf0 hf => by
    obtain ⟨d, N, st, qual, a, fd, h1, h2, h3, h4, h5⟩ := X.def_ f x hf0 hf
    exact ⟨a, fd, _, h2, h3.kp, h4, def_ok (X.glob n) h3 h1 h5⟩⟩
end
end Msd
/-! Sound24: a text and its head's facts. -/
namespace Msd
open PySem PySem.Spec PyProof.Rows L2 Mlg
/-- a def of the text: its number, name, term, names, statement -/
structure Rc where
  id : Nat
  nm : Str
  d : Def
  N : List Str
  st : Stmt
def tabOf (recs : List Rc) : Nat → Option Def := fun f => (recs.find? fun r => r.id == f).map (·.d)
def fnmOf (recs : List Rc) (gs : List Nat) : Nat → Option Str := fun f =>
  if f < 100000 then (recs.find? fun r => r.id == f).map (·.nm) else if gs.contains (f - 100000) then some (gnm (f - 100000)) else none
def ernOf (cs : List Nat) : Nat → Option Str := fun c => if cs.contains c then some (enm c) else none
def fldOf : Nat → Option Str := fun c => if c = 7 then some "index" else if c = 13 then some "word" else none
def errOf (K : Frag) (cs : List Nat) : Errs := ⟨fun c => He.ga K (enm c), fldOf, ernOf cs⟩
def Rc.dd (r : Rc) : He.DefD := ⟨(r.nm, none), r.nm, r.nm, defArgs r.st, defBody r.st, defScope r.st, [], []⟩
def gloFa (g : Nat) : He.Fa := match glov g with
  | .int i => .int (gnm g) i
  | .str x => .str (gnm g) x
  | _ => .free (gnm g)
def faOf (recs : List Rc) (gs cs : List Nat) : List He.Fa :=
  recs.map (fun r => .glo r.nm) ++ builtins.map (fun x => .free x) ++ gs.map gloFa ++ cs.map (fun c => .glo (enm c)) ++ cs.map (fun c => .exc (enm c)) ++ cs.flatMap fun c => cs.map fun c' => .exm (enm c) (enm c') (decide (c = c'))
/-- how arguments bind -/
def BindP (r : Rc) : Prop := ∀ (kV doc pm : Value) (an : Option Addr) (cdv ct : Value) (us : List Value), us.length = (r.N.take r.d.np).length → bindArgs (PySem.W.fnOf r.nm r.nm (defArgs r.st) (defBody r.st) (defScope r.st) .none kV doc pm an cdv ct) ⟨us, []⟩ = pure ((r.N.take r.d.np).zip us)
inductive AllB : List Rc → Prop
  | nil : AllB []
  | cons {r : Rc} {rs : List Rc} : BindP r → AllB rs → AllB (r :: rs)
inductive AllM (fnm ern : Nat → Option Str) : List Rc → Prop
  | nil : AllM fnm ern []
  | cons {r : Rc} {rs : List Rc} : defB fnm ern r.d r.N r.st = true → AllM fnm ern rs → AllM fnm ern (r :: rs)
theorem AllM.mem {fnm ern : Nat → Option Str} {r : Rc} : ∀ {rs : List Rc}, AllM fnm ern rs → r ∈ rs → defB fnm ern r.d r.N r.st = true
  | _, .nil, h => by simp at h
  | _, .cons b t, h => by
    rcases List.mem_cons.mp h with rfl | h
    · exact b
    · exact t.mem h
theorem AllB.mem {r : Rc} : ∀ {rs : List Rc}, AllB rs → r ∈ rs → BindP r
  | _, .nil, h => by simp at h
  | _, .cons b t, h => by
    rcases List.mem_cons.mp h with rfl | h
    · exact b
    · exact t.mem h
section
variable {K : Frag} {h : Heap} {mg : Str → Option Value} {recs : List Rc} {gs cs : List Nat}
theorem says_fact (c : He.SaysD (faOf recs gs cs) (recs.map Rc.dd) K) {f : He.Fa} (hf : f ∈ faOf recs gs cs) : f.ok K = true := by
  obtain ⟨i, hi⟩ := List.getElem?_of_mem hf
  exact c.fact i hi
theorem says_def (c : He.SaysD (faOf recs gs cs) (recs.map Rc.dd) K) {r : Rc} (hr : r ∈ recs) : ∃ fd, FunD K r.nm r.nm (defArgs r.st) (defBody r.st) (defScope r.st) [] [] (He.ga K r.nm) fd := by
  obtain ⟨i, hi⟩ := List.getElem?_of_mem hr
  exact c.def_ i (d := r.dd) (by rw [List.getElem?_map, hi]; rfl)
theorem ern_some {c : Nat} {x : Str} (e : ernOf cs c = some x) : c ∈ cs ∧ x = enm c := by
  unfold ernOf at e
  split at e
  · rename_i hc
    cases e
    exact ⟨by simpa using hc, rfl⟩
  · cases e
theorem txt_of (X : K.In h) (G : h.Ns mainGlobals mg) (c : He.SaysD (faOf recs gs cs) (recs.map Rc.dd) K) (hb : AllB recs) (hd : AllM (fnmOf recs gs) (ernOf cs) recs) : Txt (fnmOf recs gs) (errOf K cs) (tabOf recs) K mg := by
  have mem : ∀ {f : He.Fa}, f ∈ faOf recs gs cs → f.ok K = true := fun hf => says_fact c hf
  have gl : ∀ c ∈ cs, mg (enm c) = some (.ref (He.ga K (enm c))) := fun c hc => He.glo_ok X G (mem (by unfold faOf; simp only [List.mem_append, List.mem_map]; exact .inl (.inl (.inr ⟨c, hc, rfl⟩))))
  have exc : ∀ c ∈ cs, (He.Fa.exc (enm c)).ok K = true := fun c hc => mem (by unfold faOf; simp only [List.mem_append, List.mem_map]; exact .inl (.inr ⟨c, hc, rfl⟩))
  refine { bl := fun x hx => ?_, ex := fun c x e => ?_, ex0 := fun c x e _ => ?_, fl := fun c e => ?_, em := fun c c' x x' e e' => ?_, gl := fun g d hg hs => ?_, def_ := fun f x hf0 hf => ?_ }
  · exact He.free_ok X G (mem (by unfold faOf; simp only [List.mem_append, List.mem_map]; exact .inl (.inl (.inl (.inl (.inr ⟨x, hx, rfl⟩))))))
  · obtain ⟨hc, rfl⟩ := ern_some e
    obtain ⟨e1, e2, e3, e4⟩ := He.exc_ok (exc c hc)
    exact ⟨gl c hc, e2, e3, e4⟩
  · obtain ⟨hc, rfl⟩ := ern_some e
    exact (He.exc_ok (exc c hc)).1
  · show fldOf c = none
    unfold fldOf
    have h7 : c ≠ 7 := fun z => by subst z; cases e
    have h13 : c ≠ 13 := fun z => by subst z; cases e
    rw [if_neg h7, if_neg h13]
  · obtain ⟨hc, rfl⟩ := ern_some e
    obtain ⟨hc', rfl⟩ := ern_some e'
    exact He.exm_ok (mem (by unfold faOf; simp only [List.mem_append, List.mem_map, List.mem_flatMap]; exact .inr ⟨c, hc, c', hc', rfl⟩))
  · unfold fnmOf at hg
    rw [if_neg (by omega)] at hg
    split at hg
    · rename_i hgs
      have hgs : g ∈ gs := by simpa using hgs
      have f := mem (f := gloFa g) (by unfold faOf; simp only [List.mem_append, List.mem_map]; exact .inl (.inl (.inl (.inr ⟨g, hgs, rfl⟩))))
      have e := sameB_ok hs
      subst e
      unfold gloFa at f
      split at f
      · rename_i i ei
        obtain ⟨t, ht⟩ := He.int_ok X G f
        exact ⟨_, .int i, ht, ⟨t, rfl⟩, fun F => by rw [ei]; exact .int i⟩
      · rename_i y ey
        obtain ⟨t, ht⟩ := He.str_ok X G f
        exact ⟨_, .str y, ht, ⟨t, rfl⟩, fun F => by rw [ey]; exact .str y⟩
      · rename_i h1 h2
        exfalso
        revert hs h1 h2
        cases glov g <;> intro hs h1 h2 <;> first | cases hs | exact h1 _ rfl | exact h2 _ rfl
    · cases hg
  · unfold fnmOf at hf
    rw [if_pos hf0] at hf
    obtain ⟨r, hr, rfl⟩ := Option.map_eq_some_iff.mp hf
    have hmem := List.mem_of_find?_eq_some hr
    obtain ⟨fd, F⟩ := says_def c hmem
    refine ⟨r.d, r.N, r.st, r.nm, _, fd, by unfold tabOf; rw [hr]; rfl, He.glo_ok X G (mem (by unfold faOf; simp only [List.mem_append, List.mem_map]; exact .inl (.inl (.inl (.inl (.inl ⟨r, hmem, rfl⟩)))))), F, F.bindsN (hb.mem hmem), hd.mem hmem⟩
theorem reps_ints {F : Hp} : ∀ ns : List Int, Reps K F (ns.map V.int) (ns.map PyData.int)
  | [] => .nil
  | n :: r => .cons (.int n) (reps_ints r)
theorem law_end {P : Program} {w : World} {r : Rc} {x : Str} {fa : Addr} {n : Nat} (hid : recs.find? (fun q => q.id == r.id) = some r) (hN : r.N.take r.d.np = [x])
    (plain : ∀ xs : List Int, xs.length ≤ 63 → ∃ s, callF (tabOf recs) (n + 1) r.id [.ro (xs.map .int)] = .ok (.val (.bool true), s))
    (X : K.In h) (G : h.Ns mainGlobals mg) (c : He.SaysD (faOf recs gs cs) (recs.map Rc.dd) K) (hb : AllB recs) (hd : AllM (fnmOf recs gs) (ernOf cs) recs) (hmg : mg r.nm = some (.ref fa)) :
    ∃ (fd : FuncData) (sp : Sp), (∀ (s : Shared) (u : Value), BindsTo s fd ⟨[u], []⟩ [(x, u)]) ∧ (∀ (H : Hp) (a : Addr) (ns : List Int), ns.length ≤ 63 → Only H → SqL K H a (ns.map V.int) → sp [.ref a] H (fun v _ => v = .bl true) fun _ _ _ => False) ∧
      ∀ base : Heap, K.In base → base.Ns mainGlobals mg → FnOk P w K mg base (L2.CX P w) (n + 1) fa fd [x] sp := by
  have hmem := List.mem_of_find?_eq_some hid
  obtain ⟨fd, F⟩ := says_def c hmem
  have T := txt_of X G c hb hd
  have e := hmg.symm.trans (He.glo_ok X G (says_fact c (f := .glo r.nm) (by unfold faOf; simp only [List.mem_append, List.mem_map]; exact .inl (.inl (.inl (.inl (.inl ⟨r, hmem, rfl⟩)))))))
  have e : fa = He.ga K r.nm := by injection e with e; injection e
  subst e
  refine ⟨fd, spF (errOf K cs) K (callF (tabOf recs) (n + 1)) r.id, fun s u => ?_, fun H a ns hl _ hS => ?_, fun base _ _ => ?_⟩
  · have b := F.bindsA (hb.mem hmem) s [u] (by rw [hN]; rfl)
    rw [hN] at b
    exact b
  · obtain ⟨sl, es⟩ := plain ns hl
    refine ⟨[.ro (ns.map .int)], H, ⟨.refl _, rfl, fun i s hs => ?_, fun i j si sj oi oj p h1 h2 o1 o2 _ _ => ?_⟩, ?_⟩
    · cases i with
      | zero => cases hs; exact ⟨a, _, rfl, hS, reps_ints ns⟩
      | succ i => simp at hs
    · cases i with
      | zero => cases h1; cases o1
      | succ i => simp at h1
    · rw [es]
      exact fun v F' H' _ _ rl => by cases rl; rfl
  · have q := def_ok (P := P) (w := w) (base := base) (n := n) (f := r.id) (T.glob n) F (by unfold tabOf; rw [hid]; rfl) (hd.mem hmem)
    rw [hN] at q
    exact q
end
/-- as walk_ofE, what may be let out told over the world -/
theorem walk_ofW {l : PySem.W.OpenLaw} {n k : Nat} {q : Program} {loose : List Str} {XP : (Str → Option Value) → Heap → Prop} {YP : World → Heap → Prop} {d : DefRec} {x : Str}
    (hn : l.most = some n) (hn2 : n ≤ sizeLine) (hdf : d.params.defaults = []) (hr : Room k callerA)
    (F : ∀ (w : World) (mg : Str → Option Value) (fa : Addr) (h : Heap), YP w h → h.Ns mainGlobals mg → mg d.name = some (.ref fa) →
      ∃ (K : PySem.W.Frag) (fd : FuncData) (sp : Sp), K.In h ∧ (∀ (s : Shared) (u : Value), BindsTo s fd ⟨[u], []⟩ [(x, u)]) ∧
        (∀ (H : Hp) (a : Addr) (ns : List Int), ns.length ≤ n → Only H → SqL K H a (ns.map V.int) → sp [.ref a] H (fun v _ => v = .bl true) fun _ _ _ => False) ∧
        ∀ base : Heap, K.In base → base.Ns mainGlobals mg → FnOk l.prog w K mg base (L2.CX l.prog w) k fa fd [x] sp) :
    PySem.W.WalkO q loose XP YP l.row.toRowW d [] (fun f vs => PySem.call f vs) := by
  refine Att.attach_call hn hdf fun w s₀ s₁ mg mb fa o pm cd doc a vs ns G Y ho hd hcd hmg hobj hints hlen hg => ?_
  obtain ⟨K, fd, sp, KX, hb, hsp, hF⟩ := F w mg fa _ Y G.T.g hmg
  exact law_call KX G.T.g G.T.b G.T.builtins G.T.nolimit hg hobj hints (Nat.le_trans hlen hn2) hr hF hb (fun H hO hS => hsp H a ns hlen hO hS) fun H e s' z => by
    obtain ⟨_, _, _, _, _, _, _, _, _, _, _, _, z⟩ := z
    exact z
end Msd
/-! Pl0: what a run of the small language gives, by its first step. -/
namespace Mlg
open PySem (PyData Str)

/-- what is wanted behind a run: as instances, so that simp lets them be -/
class Post (α : Type) where
  p : α → Prop
class Xst where
  e : Nat → D → Env → Prop
/-- a run ends well, or in an error -/
def Wq {α : Type} (m : Res α) [Q : Post α] [E : Xst] : Prop := match m with
  | .ok a => Q.p a
  | .exc c f ρ => E.e c f ρ
  | .no => False
abbrev Wp {α : Type} (m : Res α) (Q : α → Prop) (E : Nat → D → Env → Prop) : Prop := @Wq α m ⟨Q⟩ ⟨E⟩
section
variable {α β : Type} {Q : Post α} {E : Xst}
@[simp ↓] theorem post_p (f : α → Prop) (a : α) : (Post.mk f).p a = f a := rfl
@[simp ↓] theorem xst_e (f : Nat → D → Env → Prop) (c : Nat) (d : D) (ρ : Env) : (Xst.mk f).e c d ρ = f c d ρ := rfl
@[simp ↓] theorem wp_ok (a : α) : @Wq α (.ok a) Q E = Q.p a := rfl
@[simp ↓] theorem wp_exc (c f ρ) : @Wq α (.exc c f ρ) Q E = E.e c f ρ := rfl
@[simp ↓] theorem wp_no : @Wq α .no Q E = False := rfl
@[simp ↓] theorem wp_bind {Q : Post β} (m : Res α) (k : α → Res β) : @Wq β (m.bind k) Q E = @Wq α m ⟨fun a => @Wq β (k a) Q E⟩ E := by cases m <;> rfl
@[simp] theorem rbind_ok (a : α) (k : α → Res β) : (Res.ok a).bind k = k a := rfl
@[simp] theorem rbind_exc (c f ρ) (k : α → Res β) : (Res.exc c f ρ : Res α).bind k = .exc c f ρ := rfl
@[simp] theorem rbind_no (k : α → Res β) : (Res.no : Res α).bind k = .no := rfl
end
section
variable {α β : Type} {Q : α → Prop} {E : Nat → D → Env → Prop}
theorem Wp.mono {m : Res α} {Q Q' : α → Prop} {E E' : Nat → D → Env → Prop} (h : Wp m Q E) (hq : ∀ a, Q a → Q' a) (he : ∀ c f ρ, E c f ρ → E' c f ρ) : Wp m Q' E' := by
  cases m with
  | ok a => exact hq a h
  | exc c f ρ => exact he c f ρ h
  | no => exact h
/-- without errors -/
theorem Wp.okk {m : Res α} (h : Wp m Q fun _ _ _ => False) : ∃ a, m = .ok a ∧ Q a := by
  cases m with
  | ok a => exact ⟨a, rfl, h⟩
  | exc c f ρ => exact h.elim
  | no => exact h.elim
theorem Wp.eq {m : Res α} {a : α} (h : Wp m (fun p => p = a) (fun _ _ _ => False)) : m = .ok a := by
  obtain ⟨p, e, rfl⟩ := h.okk
  exact e
theorem Wp.ex {m : Res α} {c : Nat} {f : D} {ρ : Env} (h : Wp m (fun _ => False) (fun c' f' ρ' => c' = c ∧ f' = f ∧ ρ' = ρ)) : m = .exc c f ρ := by
  cases m with
  | ok a => exact h.elim
  | exc c f ρ => obtain ⟨rfl, rfl, rfl⟩ := h; rfl
  | no => exact h.elim
theorem Wp.wk {m : Res α} {Q Q' : α → Prop} (h : Wp m Q fun _ _ _ => False) (hq : ∀ a, Q a → Q' a) : Wp m Q' E := h.mono hq fun _ _ _ z => z.elim
end
/-! ### loops -/
theorem wp_loopF {body : D → Env → Res (Env × Option R)} {xs : List D} {ρ : Env} {Q : Env × Option R → Prop} {E : Nat → D → Env → Prop} (I : Nat → Env → Prop)
    (h0 : I 0 ρ) (hs : ∀ i d ρ, xs[i]? = some d → I i ρ → Wp (body d ρ) (fun p => match p.2 with | none => I (i + 1) p.1 | some r => Q (p.1, some r)) E)
    (he : ∀ ρ, I xs.length ρ → Q (ρ, none)) : Wp (loopF body xs ρ) Q E := by
  induction xs generalizing ρ I with
  | nil => exact he ρ h0
  | cons d ds ih =>
    have h1 := hs 0 d ρ rfl h0
    unfold loopF
    cases e : body d ρ with
    | no => rw [e] at h1; exact h1
    | exc c f ρ' => rw [e] at h1; exact h1
    | ok p =>
      rw [e] at h1
      obtain ⟨ρ', o⟩ := p
      cases o with
      | some r => exact h1
      | none => exact ih (fun i => I (i + 1)) h1 (fun i d ρ hd => hs (i + 1) d ρ (by simpa using hd)) he
/-- .. over a range -/
theorem range_get {lo hi : Int} {i : Nat} {d : D} (h : (rangeL lo hi)[i]? = some d) : d = .int (lo + i) ∧ lo + i < hi := by
  unfold rangeL at h
  rw [List.getElem?_map] at h
  obtain ⟨j, h1, h2⟩ := Option.map_eq_some_iff.mp h
  obtain ⟨a, b⟩ := List.getElem?_eq_some_iff.mp h1
  rw [List.getElem_range] at b
  rw [List.length_range] at a
  subst b
  exact ⟨h2.symm, by omega⟩
@[simp] theorem range_len (lo hi : Int) : (rangeL lo hi).length = (hi - lo).toNat := by simp [rangeL]
theorem wp_loopR {body : D → Env → Res (Env × Option R)} {lo hi : Int} {ρ : Env} {Q : Env × Option R → Prop} {E : Nat → D → Env → Prop} (I : Int → Env → Prop)
    (h0 : I lo ρ) (hs : ∀ i ρ, lo ≤ i → i < hi → I i ρ → Wp (body (.int i) ρ) (fun p => match p.2 with | none => I (i + 1) p.1 | some r => Q (p.1, some r)) E)
    (he : ∀ ρ, I (max lo hi) ρ → Q (ρ, none)) : Wp (loopF body (rangeL lo hi) ρ) Q E := by
  refine wp_loopF (fun i => I (lo + i)) (by simpa using h0) (fun i d ρ hd hI => ?_) fun ρ h => he ρ ?_
  · obtain ⟨rfl, hi⟩ := range_get hd
    have := hs (lo + i) ρ (by omega) hi hI
    rw [show lo + ((i + 1 : Nat) : Int) = lo + i + 1 by omega]
    exact this
  · rw [range_len] at h
    rwa [show lo + ((hi - lo).toNat : Int) = max lo hi by omega] at h
/-- a comprehension that changes nothing -/
theorem loopC_same {turn : D → Env → Res (Option D × Env)} {ρ : Env} {f : D → Option D} : ∀ {xs acc : List D}, (∀ d ∈ xs, turn d ρ = .ok (f d, ρ)) → acc.length + xs.length ≤ lim → loopC turn xs acc ρ = .ok (acc ++ xs.filterMap f, ρ)
  | [], acc, _, _ => by simp [loopC]
  | d :: ds, acc, h, hl => by
    unfold loopC
    rw [h d List.mem_cons_self]
    have hd := fun x hx => h x (List.mem_cons_of_mem _ hx)
    rw [List.length_cons] at hl
    cases e : f d with
    | none =>
      dsimp only
      rw [loopC_same hd (by omega), List.filterMap_cons, e]
    | some x =>
      dsimp only
      have hs : small acc = true := by unfold small; simp; omega
      rw [if_pos hs, loopC_same hd (by rw [List.length_append]; simp; omega), List.filterMap_cons, e]
      simp
theorem loopC_map {turn : D → Env → Res (Option D × Env)} {ρ : Env} {f : D → D} {xs acc : List D} (h : ∀ d ∈ xs, turn d ρ = .ok (some (f d), ρ)) (hl : acc.length + xs.length ≤ lim) : loopC turn xs acc ρ = .ok (acc ++ xs.map f, ρ) := by
  rw [loopC_same (f := fun d => some (f d)) h hl, List.filterMap_eq_map']
/-- .. with a state -/
theorem wp_loopC {turn : D → Env → Res (Option D × Env)} {xs acc : List D} {ρ : Env} {Q : List D × Env → Prop} {E : Nat → D → Env → Prop} (I : Nat → List D → Env → Prop)
    (h0 : I 0 acc ρ) (hs : ∀ i d acc ρ, xs[i]? = some d → I i acc ρ → Wp (turn d ρ) (fun p => match p.1 with | none => I (i + 1) acc p.2 | some x => I (i + 1) (acc ++ [x]) p.2) fun _ _ _ => False)
    (hl : acc.length + xs.length ≤ lim) (he : ∀ acc ρ, I xs.length acc ρ → Q (acc, ρ)) : Wp (loopC turn xs acc ρ) Q E := by
  induction xs generalizing ρ acc I with
  | nil => exact he acc ρ h0
  | cons d ds ih =>
    have h1 := hs 0 d acc ρ rfl h0
    unfold loopC
    rw [List.length_cons] at hl
    cases e : turn d ρ with
    | no => rw [e] at h1; exact h1
    | exc c f ρ' => rw [e] at h1; exact h1.elim
    | ok p =>
      rw [e] at h1
      obtain ⟨o, ρ'⟩ := p
      cases o with
      | some x =>
        dsimp only
        rw [if_pos (by unfold small; simp; omega)]
        exact ih (fun i => I (i + 1)) h1 (fun i d acc ρ hd => hs (i + 1) d acc ρ (by simpa using hd)) (by rw [List.length_append]; simp; omega) he
      | none => exact ih (fun i => I (i + 1)) h1 (fun i d acc ρ hd => hs (i + 1) d acc ρ (by simpa using hd)) (by omega) he
theorem wp_loopW {c : Env → Res (Bool × Env)} {b : Env → Res (Env × Option R)} {ρ : Env} {Q : Env × Option R → Prop} {E : Nat → D → Env → Prop} (I : Nat → Env → Prop) (n : Nat) (hn : n < 1000000) (h0 : I n ρ)
    (hs : ∀ m ρ, m ≤ n → I m ρ → Wp (c ρ) (fun p => if p.1 = true then 0 < m ∧ Wp (b p.2) (fun q => match q.2 with | none => I (m - 1) q.1 | some r => Q (q.1, some r)) E else Q (p.2, none)) E) : Wp (loopW c b 1000000 ρ) Q E := by
  have key : ∀ (m : Nat) (fuel : Nat) (ρ : Env), m ≤ n → m < fuel → I m ρ → Wp (loopW c b fuel ρ) Q E := by
    intro m
    induction m with
    | zero =>
      intro fuel ρ hm hf hI
      have h1 := hs 0 ρ hm hI
      obtain ⟨f, rfl⟩ : ∃ f, fuel = f + 1 := ⟨fuel - 1, by omega⟩
      unfold loopW
      cases e : c ρ with
      | no => rw [e] at h1; exact h1
      | exc c f ρ' => rw [e] at h1; exact h1
      | ok p =>
        rw [e] at h1
        obtain ⟨t, ρ1⟩ := p
        cases t with
        | true => exact absurd h1.1 (Nat.lt_irrefl _)
        | false => exact h1
    | succ m ih =>
      intro fuel ρ hm hf hI
      have h1 := hs (m + 1) ρ hm hI
      obtain ⟨f, rfl⟩ : ∃ f, fuel = f + 1 := ⟨fuel - 1, by omega⟩
      unfold loopW
      cases e : c ρ with
      | no => rw [e] at h1; exact h1
      | exc c f ρ' => rw [e] at h1; exact h1
      | ok p =>
        rw [e] at h1
        obtain ⟨t, ρ1⟩ := p
        cases t with
        | false => exact h1
        | true =>
          have h2 := h1.2
          dsimp only at h2 ⊢
          cases e2 : b ρ1 with
          | no => rw [e2] at h2; exact h2
          | exc c f ρ' => rw [e2] at h2; exact h2
          | ok q =>
            rw [e2] at h2
            obtain ⟨ρ2, o⟩ := q
            cases o with
            | some r => exact h2
            | none => exact ih f ρ2 (by omega) (by omega) h2
  exact key n 1000000 ρ (Nat.le_refl _) hn h0
end Mlg
/-! Pl1: each form of the small language, as a row for simp. -/
namespace Mlg
open PySem (PyData Str)
section
variable {α β : Type} {Q : α → Prop} {E : Nat → D → Env → Prop}
@[simp] theorem rbind_assoc {γ : Type} (m : Res α) (k : α → Res β) (k' : β → Res γ) : (m.bind k).bind k' = m.bind fun a => (k a).bind k' := by cases m <;> rfl
end
theorem asB_eq (r : Res (R × Env)) : asB r = r.bind fun p => match p.1 with | .val (.bool b) => .ok (b, p.2) | _ => .no := by
  rcases r with ⟨⟨r, ρ⟩⟩ | _ | _
  · cases r with
    | val d => cases d <;> rfl
    | tmp _ => rfl
    | loc _ => rfl
  · rfl
  · rfl
section
variable (call : CallT) (ρ : Env)
theorem eval_var (i) : eval call (.var i) ρ = (Res.of (getV ρ i)).bind fun r => .ok (r, ρ) := by rw [eval] <;> rfl
@[simp ↓] theorem w_eval_var (i) {Q : Post _} {E : Xst} : @Wq _ (eval call (.var i) ρ) Q E = @Wq _ ((Res.of (getV ρ i)).bind fun r => .ok (r, ρ)) Q E := by rw [eval_var]
theorem eval_cst (d) : eval call (.cst d) ρ = .ok (.val d, ρ) := by rw [eval] <;> rfl
@[simp ↓] theorem w_eval_cst (d) {Q : Post _} {E : Xst} : @Wq _ (eval call (.cst d) ρ) Q E = @Wq _ (.ok (.val d, ρ)) Q E := by rw [eval_cst]
theorem eval_glo (x d) : eval call (.glo x d) ρ = .ok (.val d, ρ) := by rw [eval] <;> rfl
@[simp ↓] theorem w_eval_glo (x d) {Q : Post _} {E : Xst} : @Wq _ (eval call (.glo x d) ρ) Q E = @Wq _ (.ok (.val d, ρ)) Q E := by rw [eval_glo]
theorem eval_bin (o a b) : eval call (.bin o a b) ρ = (eval call a ρ).bind fun p => (eval call b p.2).bind fun q =>
      match lookS q.2 p.1, lookS q.2 q.1 with
      | some x, some y => (Res.of (bin o x y)).bind fun r => .ok (r, q.2)
      | _, _ => .no := by rw [eval] <;> rfl
@[simp ↓] theorem w_eval_bin (o a b) {Q : Post _} {E : Xst} : @Wq _ (eval call (.bin o a b) ρ) Q E = @Wq _ ((eval call a ρ).bind fun p => (eval call b p.2).bind fun q =>
      match lookS q.2 p.1, lookS q.2 q.1 with
      | some x, some y => (Res.of (bin o x y)).bind fun r => .ok (r, q.2)
      | _, _ => .no) Q E := by rw [eval_bin]
theorem eval_neg (a) : eval call (.neg a) ρ = (eval call a ρ).bind fun p => match p.1 with
      | .val (.int i) => .ok (.val (.int (-i)), p.2)
      | _ => .no := by rw [eval] <;> rfl
@[simp ↓] theorem w_eval_neg (a) {Q : Post _} {E : Xst} : @Wq _ (eval call (.neg a) ρ) Q E = @Wq _ ((eval call a ρ).bind fun p => match p.1 with
      | .val (.int i) => .ok (.val (.int (-i)), p.2)
      | _ => .no) Q E := by rw [eval_neg]
theorem eval_cmp (o a b) : eval call (.cmp o a b) ρ = (eval call a ρ).bind fun p => (eval call b p.2).bind fun q =>
      match look q.2 p.1, look q.2 q.1 with
      | some x, some y => (Res.of (cmp o x y)).bind fun r => .ok (.val (.bool r), q.2)
      | _, _ => .no := by rw [eval] <;> rfl
@[simp ↓] theorem w_eval_cmp (o a b) {Q : Post _} {E : Xst} : @Wq _ (eval call (.cmp o a b) ρ) Q E = @Wq _ ((eval call a ρ).bind fun p => (eval call b p.2).bind fun q =>
      match look q.2 p.1, look q.2 q.1 with
      | some x, some y => (Res.of (cmp o x y)).bind fun r => .ok (.val (.bool r), q.2)
      | _, _ => .no) Q E := by rw [eval_cmp]
theorem eval_chn (o o2 a b c) : eval call (.chn o o2 a b c) ρ = (eval call a ρ).bind fun p => (eval call b p.2).bind fun q =>
      match look q.2 p.1, q.1 with
      | some x, .val y => (Res.of (cmp o x y)).bind fun r =>
          if r = true then (eval call c q.2).bind fun s => match look s.2 s.1 with
            | some z => (Res.of (cmp o2 y z)).bind fun r2 => .ok (.val (.bool r2), s.2)
            | none => .no
          else .ok (.val (.bool false), q.2)
      | _, _ => .no := by rw [eval] <;> rfl
@[simp ↓] theorem w_eval_chn (o o2 a b c) {Q : Post _} {E : Xst} : @Wq _ (eval call (.chn o o2 a b c) ρ) Q E = @Wq _ ((eval call a ρ).bind fun p => (eval call b p.2).bind fun q =>
      match look q.2 p.1, q.1 with
      | some x, .val y => (Res.of (cmp o x y)).bind fun r =>
          if r = true then (eval call c q.2).bind fun s => match look s.2 s.1 with
            | some z => (Res.of (cmp o2 y z)).bind fun r2 => .ok (.val (.bool r2), s.2)
            | none => .no
          else .ok (.val (.bool false), q.2)
      | _, _ => .no) Q E := by rw [eval_chn]
theorem eval_isN (a) : eval call (.isN a) ρ = (eval call a ρ).bind fun p => .ok (.val (.bool (isNone p.1)), p.2) := by rw [eval] <;> rfl
@[simp ↓] theorem w_eval_isN (a) {Q : Post _} {E : Xst} : @Wq _ (eval call (.isN a) ρ) Q E = @Wq _ ((eval call a ρ).bind fun p => .ok (.val (.bool (isNone p.1)), p.2)) Q E := by rw [eval_isN]
theorem eval_ntN (a) : eval call (.ntN a) ρ = (eval call a ρ).bind fun p => .ok (.val (.bool (!isNone p.1)), p.2) := by rw [eval] <;> rfl
@[simp ↓] theorem w_eval_ntN (a) {Q : Post _} {E : Xst} : @Wq _ (eval call (.ntN a) ρ) Q E = @Wq _ ((eval call a ρ).bind fun p => .ok (.val (.bool (!isNone p.1)), p.2)) Q E := by rw [eval_ntN]
def bOf (p : R × Env) : Res (Bool × Env) := match p.1 with | .val (.bool b) => .ok (b, p.2) | _ => .no
@[simp] theorem bOf_bool (b : Bool) (ρ : Env) : bOf (.val (.bool b), ρ) = .ok (b, ρ) := rfl
theorem asB_of (r : Res (R × Env)) : asB r = r.bind bOf := asB_eq r
theorem eval_and (a b) : eval call (.and a b) ρ = (eval call a ρ).bind fun p => (bOf p).bind fun p => if p.1 = true then eval call b p.2 else .ok (.val (.bool false), p.2) := by rw [eval, asB_of, rbind_assoc]
@[simp ↓] theorem w_eval_and (a b) {Q : Post _} {E : Xst} : @Wq _ (eval call (.and a b) ρ) Q E = @Wq _ ((eval call a ρ).bind fun p => (bOf p).bind fun p => if p.1 = true then eval call b p.2 else .ok (.val (.bool false), p.2)) Q E := by rw [eval_and]
theorem eval_or (a b) : eval call (.or a b) ρ = (eval call a ρ).bind fun p => (bOf p).bind fun p => if p.1 = true then .ok (.val (.bool true), p.2) else eval call b p.2 := by rw [eval, asB_of, rbind_assoc]
@[simp ↓] theorem w_eval_or (a b) {Q : Post _} {E : Xst} : @Wq _ (eval call (.or a b) ρ) Q E = @Wq _ ((eval call a ρ).bind fun p => (bOf p).bind fun p => if p.1 = true then .ok (.val (.bool true), p.2) else eval call b p.2) Q E := by rw [eval_or]
theorem eval_not (a) : eval call (.not a) ρ = (eval call a ρ).bind fun p => (bOf p).bind fun p => .ok (.val (.bool (!p.1)), p.2) := by rw [eval, asB_of, rbind_assoc]
@[simp ↓] theorem w_eval_not (a) {Q : Post _} {E : Xst} : @Wq _ (eval call (.not a) ρ) Q E = @Wq _ ((eval call a ρ).bind fun p => (bOf p).bind fun p => .ok (.val (.bool (!p.1)), p.2)) Q E := by rw [eval_not]
theorem eval_ite (c a b) : eval call (.ite c a b) ρ = (eval call c ρ).bind fun p => (bOf p).bind fun p => if p.1 = true then eval call a p.2 else eval call b p.2 := by rw [eval, asB_of, rbind_assoc]
@[simp ↓] theorem w_eval_ite (c a b) {Q : Post _} {E : Xst} : @Wq _ (eval call (.ite c a b) ρ) Q E = @Wq _ ((eval call c ρ).bind fun p => (bOf p).bind fun p => if p.1 = true then eval call a p.2 else eval call b p.2) Q E := by rw [eval_ite]
theorem eval_call (f as) : eval call (.call f as) ρ = (evals call as ρ).bind fun p => doCall call f p.1 p.2 := by rw [eval] <;> rfl
@[simp ↓] theorem w_eval_call (f as) {Q : Post _} {E : Xst} : @Wq _ (eval call (.call f as) ρ) Q E = @Wq _ ((evals call as ρ).bind fun p => doCall call f p.1 p.2) Q E := by rw [eval_call]
theorem eval_b1 (f a) : eval call (.b1 f a) ρ = (eval call a ρ).bind fun p => match look p.2 p.1 with
      | some x => (Res.of (b1 f x)).bind fun r => .ok (r, p.2)
      | none => .no := by rw [eval] <;> rfl
@[simp ↓] theorem w_eval_b1 (f a) {Q : Post _} {E : Xst} : @Wq _ (eval call (.b1 f a) ρ) Q E = @Wq _ ((eval call a ρ).bind fun p => match look p.2 p.1 with
      | some x => (Res.of (b1 f x)).bind fun r => .ok (r, p.2)
      | none => .no) Q E := by rw [eval_b1]
theorem eval_b2 (f a b) : eval call (.b2 f a b) ρ = (eval call a ρ).bind fun p => (eval call b p.2).bind fun q => match p.1, q.1 with
      | .val x, .val y => (Res.of (b2 f x y)).bind fun r => .ok (r, q.2)
      | _, _ => .no := by rw [eval] <;> rfl
@[simp ↓] theorem w_eval_b2 (f a b) {Q : Post _} {E : Xst} : @Wq _ (eval call (.b2 f a b) ρ) Q E = @Wq _ ((eval call a ρ).bind fun p => (eval call b p.2).bind fun q => match p.1, q.1 with
      | .val x, .val y => (Res.of (b2 f x y)).bind fun r => .ok (r, q.2)
      | _, _ => .no) Q E := by rw [eval_b2]
theorem eval_m1 (f a b) : eval call (.m1 f a b) ρ = (eval call a ρ).bind fun p => if m1k f (look p.2 p.1) = true then (eval call b p.2).bind fun q => (match look q.2 p.1, look q.2 q.1 with
      | some x, some y => (Res.of (m1 f x y)).bind fun r => .ok (r, q.2)
      | _, _ => .no) else .no := by rw [eval] <;> rfl
@[simp ↓] theorem w_eval_m1 (f a b) {Q : Post _} {E : Xst} : @Wq _ (eval call (.m1 f a b) ρ) Q E = @Wq _ ((eval call a ρ).bind fun p => if m1k f (look p.2 p.1) = true then (eval call b p.2).bind fun q => (match look q.2 p.1, look q.2 q.1 with
      | some x, some y => (Res.of (m1 f x y)).bind fun r => .ok (r, q.2)
      | _, _ => .no) else .no) Q E := by rw [eval_m1]
theorem eval_ix (a i) : eval call (.ix a i) ρ = (eval call a ρ).bind fun p => (eval call i p.2).bind fun q => match look q.2 p.1, q.1 with
      | some x, .val y => (Res.of (ixD x y)).bind fun r => .ok (r, q.2)
      | _, _ => .no := by rw [eval] <;> rfl
@[simp ↓] theorem w_eval_ix (a i) {Q : Post _} {E : Xst} : @Wq _ (eval call (.ix a i) ρ) Q E = @Wq _ ((eval call a ρ).bind fun p => (eval call i p.2).bind fun q => match look q.2 p.1, q.1 with
      | some x, .val y => (Res.of (ixD x y)).bind fun r => .ok (r, q.2)
      | _, _ => .no) Q E := by rw [eval_ix]
theorem eval_sl (a lo hi) : eval call (.sl a lo hi) ρ = (eval call a ρ).bind fun p => (evalo call lo p.2).bind fun q => (evalo call hi q.2).bind fun s => match look s.2 p.1 with
      | some x => (Res.of (slD x q.1 s.1)).bind fun r => .ok (r, s.2)
      | none => .no := by rw [eval] <;> rfl
@[simp ↓] theorem w_eval_sl (a lo hi) {Q : Post _} {E : Xst} : @Wq _ (eval call (.sl a lo hi) ρ) Q E = @Wq _ ((eval call a ρ).bind fun p => (evalo call lo p.2).bind fun q => (evalo call hi q.2).bind fun s => match look s.2 p.1 with
      | some x => (Res.of (slD x q.1 s.1)).bind fun r => .ok (r, s.2)
      | none => .no) Q E := by rw [eval_sl]
theorem eval_rev (a) : eval call (.rev a) ρ = (eval call a ρ).bind fun p => match look p.2 p.1 with
      | some x => (Res.of (revD x)).bind fun r => .ok (r, p.2)
      | none => .no := by rw [eval] <;> rfl
@[simp ↓] theorem w_eval_rev (a) {Q : Post _} {E : Xst} : @Wq _ (eval call (.rev a) ρ) Q E = @Wq _ ((eval call a ρ).bind fun p => match look p.2 p.1 with
      | some x => (Res.of (revD x)).bind fun r => .ok (r, p.2)
      | none => .no) Q E := by rw [eval_rev]
theorem eval_tup (es) : eval call (.tup es) ρ = (evalv call es ρ).bind fun p => if small p.1 then .ok (.val (.tuple p.1), p.2) else .no := by rw [eval] <;> rfl
@[simp ↓] theorem w_eval_tup (es) {Q : Post _} {E : Xst} : @Wq _ (eval call (.tup es) ρ) Q E = @Wq _ ((evalv call es ρ).bind fun p => if small p.1 then .ok (.val (.tuple p.1), p.2) else .no) Q E := by rw [eval_tup]
theorem eval_lst (es) : eval call (.lst es) ρ = (evalv call es ρ).bind fun p => if small p.1 then .ok (.tmp (.lst p.1), p.2) else .no := by rw [eval] <;> rfl
@[simp ↓] theorem w_eval_lst (es) {Q : Post _} {E : Xst} : @Wq _ (eval call (.lst es) ρ) Q E = @Wq _ ((evalv call es ρ).bind fun p => if small p.1 then .ok (.tmp (.lst p.1), p.2) else .no) Q E := by rw [eval_lst]
theorem eval_dnew (t) : eval call (.dnew t) ρ = .ok (.tmp (.dic t []), ρ) := by rw [eval] <;> rfl
@[simp ↓] theorem w_eval_dnew (t) {Q : Post _} {E : Xst} : @Wq _ (eval call (.dnew t) ρ) Q E = @Wq _ (.ok (.tmp (.dic t []), ρ)) Q E := by rw [eval_dnew]
theorem eval_dsp (k v) : eval call (.dsp k v) ρ = (eval call k ρ).bind fun p => (eval call v p.2).bind fun q => match p.1, fix q.2 q.1 with
      | .val kd, some (x, ρ') => if keyT true kd = true then .ok (.tmp (.dic true [(kd, x)]), ρ') else .no
      | _, _ => .no := by rw [eval] <;> rfl
@[simp ↓] theorem w_eval_dsp (k v) {Q : Post _} {E : Xst} : @Wq _ (eval call (.dsp k v) ρ) Q E = @Wq _ ((eval call k ρ).bind fun p => (eval call v p.2).bind fun q => match p.1, fix q.2 q.1 with
      | .val kd, some (x, ρ') => if keyT true kd = true then .ok (.tmp (.dic true [(kd, x)]), ρ') else .no
      | _, _ => .no) Q E := by rw [eval_dsp]
theorem eval_dvals (i) : eval call (.dvals i) ρ = match ρ[i]? with
      | some (.own (.dic false kvs)) => .ok (.tmp (.lst (kvs.map (·.2))), ρ)
      | _ => .no := by rw [eval] <;> rfl
@[simp ↓] theorem w_eval_dvals (i) {Q : Post _} {E : Xst} : @Wq _ (eval call (.dvals i) ρ) Q E = @Wq _ (match ρ[i]? with
      | some (.own (.dic false kvs)) => .ok (.tmp (.lst (kvs.map (·.2))), ρ)
      | _ => .no) Q E := by rw [eval_dvals]
theorem eval_din (neg a i) : eval call (.din neg a i) ρ = (eval call a ρ).bind fun p => match p.1, p.2[i]? with
      | .val kd, some (.own (.dic t kvs)) => if keyT t kd = true then .ok (.val (.bool (neg != kvs.any (eqv kd ·.1))), p.2) else .no
      | _, _ => .no := by rw [eval] <;> rfl
@[simp ↓] theorem w_eval_din (neg a i) {Q : Post _} {E : Xst} : @Wq _ (eval call (.din neg a i) ρ) Q E = @Wq _ ((eval call a ρ).bind fun p => match p.1, p.2[i]? with
      | .val kd, some (.own (.dic t kvs)) => if keyT t kd = true then .ok (.val (.bool (neg != kvs.any (eqv kd ·.1))), p.2) else .no
      | _, _ => .no) Q E := by rw [eval_din]
theorem eval_rg1 (l a) : eval call (.rg1 l a) ρ = (eval call a ρ).bind fun p => match p.1 with
      | .val (.int i) => if rangeOk i = true then .ok (if l = true then .tmp (.lst (rangeL 0 i)) else .val (.tuple (rangeL 0 i)), p.2) else .no
      | _ => .no := by rw [eval] <;> rfl
@[simp ↓] theorem w_eval_rg1 (l a) {Q : Post _} {E : Xst} : @Wq _ (eval call (.rg1 l a) ρ) Q E = @Wq _ ((eval call a ρ).bind fun p => match p.1 with
      | .val (.int i) => if rangeOk i = true then .ok (if l = true then .tmp (.lst (rangeL 0 i)) else .val (.tuple (rangeL 0 i)), p.2) else .no
      | _ => .no) Q E := by rw [eval_rg1]
theorem eval_rg2 (l a b) : eval call (.rg2 l a b) ρ = (eval call a ρ).bind fun p => (eval call b p.2).bind fun q => match p.1, q.1 with
      | .val (.int i), .val (.int j) => if (rangeOk i && rangeOk j) = true then .ok (if l = true then .tmp (.lst (rangeL i j)) else .val (.tuple (rangeL i j)), q.2) else .no
      | _, _ => .no := by rw [eval] <;> rfl
@[simp ↓] theorem w_eval_rg2 (l a b) {Q : Post _} {E : Xst} : @Wq _ (eval call (.rg2 l a b) ρ) Q E = @Wq _ ((eval call a ρ).bind fun p => (eval call b p.2).bind fun q => match p.1, q.1 with
      | .val (.int i), .val (.int j) => if (rangeOk i && rangeOk j) = true then .ok (if l = true then .tmp (.lst (rangeL i j)) else .val (.tuple (rangeL i j)), q.2) else .no
      | _, _ => .no) Q E := by rw [eval_rg2]
/-- a turn of a comprehension -/
def lcT (elt : E) (tg : Tg) (c : Eo) (vs : List Nat) (d : D) (ρ : Env) : Res (Option D × Env) := (Res.of (putTg ρ tg d)).bind fun ρ2 => (test call c ρ2).bind fun t =>
  if t.1 = true then (eval call elt t.2).bind fun r => (Res.of (fix r.2 r.1)).bind fun x => (Res.of (wipeE x.2 vs)).bind fun ρ5 => .ok (some x.1, ρ5)
  else (Res.of (wipeE t.2 vs)).bind fun ρ5 => .ok (none, ρ5)
theorem eval_lc (elt tg it c vs) : eval call (.lc elt tg it c vs) ρ = (walk call it ρ).bind fun p => (Res.of (wipeE p.2 vs)).bind fun ρ1 =>
    (loopC (lcT call elt tg c vs) p.1.1 [] ρ1).bind fun q => (Res.of (unlockE (backE p.2 vs q.2) p.1.2)).bind fun ρ' => .ok (.tmp (.lst q.1), ρ') := by
  rw [eval]
  congr 1
  funext p
  cases wipeE p.2 vs with
  | none => rfl
  | some ρ1 =>
    refine congrArg (fun t => (loopC t p.1.1 [] ρ1).bind fun q => (Res.of (unlockE (backE p.2 vs q.2) p.1.2)).bind fun ρ' => Res.ok (R.tmp (O.lst q.1), ρ')) ?_
    funext d ρ
    unfold lcT
    cases putTg ρ tg d with
    | none => rfl
    | some ρ2 =>
      refine congrArg (fun t => (test call c ρ2).bind t) ?_
      funext t
      split
      · congr 1
        funext r
        cases fix r.2 r.1 with
        | none => rfl
        | some x => rfl
      · rfl
@[simp ↓] theorem w_eval_lc (elt tg it c vs) {Q : Post _} {E : Xst} : @Wq _ (eval call (.lc elt tg it c vs) ρ) Q E = @Wq _ ((walk call it ρ).bind fun p => (Res.of (wipeE p.2 vs)).bind fun ρ1 =>
    (loopC (lcT call elt tg c vs) p.1.1 [] ρ1).bind fun q => (Res.of (unlockE (backE p.2 vs q.2) p.1.2)).bind fun ρ' => .ok (.tmp (.lst q.1), ρ')) Q E := by rw [eval_lc]
theorem eval_app (i a) : eval call (.app i a) ρ = if (ownL ρ i).isSome = true then (eval call a ρ).bind fun p => match fix p.2 p.1 with
      | none => .no
      | some (x, ρ') => match ownL ρ' i with
        | some xs => if small xs then .ok (.val .none, ρ'.set i (.own (.lst (xs ++ [x])))) else .no
        | none => .no
      else .no := by rw [eval] <;> rfl
@[simp ↓] theorem w_eval_app (i a) {Q : Post _} {E : Xst} : @Wq _ (eval call (.app i a) ρ) Q E = @Wq _ (if (ownL ρ i).isSome = true then (eval call a ρ).bind fun p => match fix p.2 p.1 with
      | none => .no
      | some (x, ρ') => match ownL ρ' i with
        | some xs => if small xs then .ok (.val .none, ρ'.set i (.own (.lst (xs ++ [x])))) else .no
        | none => .no
      else .no) Q E := by rw [eval_app]
theorem eval_pop (i a) : eval call (.pop i a) ρ = if (ownL ρ i).isSome = true then (evalo call a ρ).bind fun p => match ownL p.2 i with
      | some xs => (match p.1 with
        | none => (match xs[xs.length - 1]? with | some x => .ok (.val x, p.2.set i (.own (.lst xs.dropLast))) | none => .no)
        | some j => if 0 ≤ j ∧ j < 1000000 then (match xs[j.toNat]? with | some x => .ok (.val x, p.2.set i (.own (.lst (xs.eraseIdx j.toNat)))) | none => .no) else .no)
      | none => .no
      else .no := by rw [eval] <;> rfl
@[simp ↓] theorem w_eval_pop (i a) {Q : Post _} {E : Xst} : @Wq _ (eval call (.pop i a) ρ) Q E = @Wq _ (if (ownL ρ i).isSome = true then (evalo call a ρ).bind fun p => match ownL p.2 i with
      | some xs => (match p.1 with
        | none => (match xs[xs.length - 1]? with | some x => .ok (.val x, p.2.set i (.own (.lst xs.dropLast))) | none => .no)
        | some j => if 0 ≤ j ∧ j < 1000000 then (match xs[j.toNat]? with | some x => .ok (.val x, p.2.set i (.own (.lst (xs.eraseIdx j.toNat)))) | none => .no) else .no)
      | none => .no
      else .no) Q E := by rw [eval_pop]
theorem evals_nil : evals call .nil ρ = .ok ([], ρ) := by rw [evals] <;> rfl
@[simp ↓] theorem w_evals_nil {Q : Post _} {E : Xst} : @Wq _ (evals call .nil ρ) Q E = @Wq _ (.ok ([], ρ)) Q E := by rw [evals_nil]
theorem evals_cons (e es) : evals call (.cons e es) ρ = (eval call e ρ).bind fun p => (evals call es p.2).bind fun q => .ok (p.1 :: q.1, q.2) := by rw [evals] <;> rfl
@[simp ↓] theorem w_evals_cons (e es) {Q : Post _} {E : Xst} : @Wq _ (evals call (.cons e es) ρ) Q E = @Wq _ ((eval call e ρ).bind fun p => (evals call es p.2).bind fun q => .ok (p.1 :: q.1, q.2)) Q E := by rw [evals_cons]
theorem evalv_nil : evalv call .nil ρ = .ok ([], ρ) := by rw [evalv] <;> rfl
@[simp ↓] theorem w_evalv_nil {Q : Post _} {E : Xst} : @Wq _ (evalv call .nil ρ) Q E = @Wq _ (.ok ([], ρ)) Q E := by rw [evalv_nil]
theorem evalv_cons (e es) : evalv call (.cons e es) ρ = (eval call e ρ).bind fun p => (Res.of (fix p.2 p.1)).bind fun x => (evalv call es x.2).bind fun q => .ok (x.1 :: q.1, q.2) := by
  rw [evalv]
  congr 1
  funext p
  cases fix p.2 p.1 with
  | none => rfl
  | some x => rfl
@[simp ↓] theorem w_evalv_cons (e es) {Q : Post _} {E : Xst} : @Wq _ (evalv call (.cons e es) ρ) Q E = @Wq _ ((eval call e ρ).bind fun p => (Res.of (fix p.2 p.1)).bind fun x => (evalv call es x.2).bind fun q => .ok (x.1 :: q.1, q.2)) Q E := by rw [evalv_cons]
theorem evalv_star (e es) : evalv call (.star e es) ρ = (eval call e ρ).bind fun p => match p.1 with
      | .val d => (Res.of (items d)).bind fun xs => (evalv call es p.2).bind fun q => .ok (xs ++ q.1, q.2)
      | _ => .no := by rw [evalv] <;> rfl
@[simp ↓] theorem w_evalv_star (e es) {Q : Post _} {E : Xst} : @Wq _ (evalv call (.star e es) ρ) Q E = @Wq _ ((eval call e ρ).bind fun p => match p.1 with
      | .val d => (Res.of (items d)).bind fun xs => (evalv call es p.2).bind fun q => .ok (xs ++ q.1, q.2)
      | _ => .no) Q E := by rw [evalv_star]
theorem evalo_no : evalo call .no ρ = .ok (none, ρ) := by rw [evalo] <;> rfl
@[simp ↓] theorem w_evalo_no {Q : Post _} {E : Xst} : @Wq _ (evalo call .no ρ) Q E = @Wq _ (.ok (none, ρ)) Q E := by rw [evalo_no]
theorem evalo_so (e) : evalo call (.so e) ρ = (eval call e ρ).bind fun p => match p.1 with
      | .val (.int i) => .ok (some i, p.2)
      | _ => .no := by rw [evalo] <;> rfl
@[simp ↓] theorem w_evalo_so (e) {Q : Post _} {E : Xst} : @Wq _ (evalo call (.so e) ρ) Q E = @Wq _ ((eval call e ρ).bind fun p => match p.1 with
      | .val (.int i) => .ok (some i, p.2)
      | _ => .no) Q E := by rw [evalo_so]
theorem test_no : test call .no ρ = .ok (true, ρ) := by rw [test] <;> rfl
@[simp ↓] theorem w_test_no {Q : Post _} {E : Xst} : @Wq _ (test call .no ρ) Q E = @Wq _ (.ok (true, ρ)) Q E := by rw [test_no]
theorem test_so (e) : test call (.so e) ρ = (eval call e ρ).bind bOf := by rw [test, asB_of]
@[simp ↓] theorem w_test_so (e) {Q : Post _} {E : Xst} : @Wq _ (test call (.so e) ρ) Q E = @Wq _ ((eval call e ρ).bind bOf) Q E := by rw [test_so]
theorem walk_r1 (a) : walk call (.r1 a) ρ = (eval call a ρ).bind fun p => match p.1 with
      | .val (.int i) => if rangeOk i then .ok ((rangeL 0 i, none), p.2) else .no
      | _ => .no := by rw [walk] <;> rfl
@[simp ↓] theorem w_walk_r1 (a) {Q : Post _} {E : Xst} : @Wq _ (walk call (.r1 a) ρ) Q E = @Wq _ ((eval call a ρ).bind fun p => match p.1 with
      | .val (.int i) => if rangeOk i then .ok ((rangeL 0 i, none), p.2) else .no
      | _ => .no) Q E := by rw [walk_r1]
theorem walk_r2 (a b) : walk call (.r2 a b) ρ = (eval call a ρ).bind fun p => (eval call b p.2).bind fun q => match p.1, q.1 with
      | .val (.int i), .val (.int j) => if rangeOk i && rangeOk j then .ok ((rangeL i j, none), q.2) else .no
      | _, _ => .no := by rw [walk] <;> rfl
@[simp ↓] theorem w_walk_r2 (a b) {Q : Post _} {E : Xst} : @Wq _ (walk call (.r2 a b) ρ) Q E = @Wq _ ((eval call a ρ).bind fun p => (eval call b p.2).bind fun q => match p.1, q.1 with
      | .val (.int i), .val (.int j) => if rangeOk i && rangeOk j then .ok ((rangeL i j, none), q.2) else .no
      | _, _ => .no) Q E := by rw [walk_r2]
theorem walk_r3 (a b c) : walk call (.r3 a b c) ρ = (eval call a ρ).bind fun p => (eval call b p.2).bind fun q => (eval call c q.2).bind fun r => match p.1, q.1, r.1 with
      | .val (.int i), .val (.int j), .val (.int k) => if rangeOk i && rangeOk j && rangeOk k && decide (0 < k) then .ok ((stepL i j k, none), r.2) else .no
      | _, _, _ => .no := by rw [walk] <;> rfl
@[simp ↓] theorem w_walk_r3 (a b c) {Q : Post _} {E : Xst} : @Wq _ (walk call (.r3 a b c) ρ) Q E = @Wq _ ((eval call a ρ).bind fun p => (eval call b p.2).bind fun q => (eval call c q.2).bind fun r => match p.1, q.1, r.1 with
      | .val (.int i), .val (.int j), .val (.int k) => if rangeOk i && rangeOk j && rangeOk k && decide (0 < k) then .ok ((stepL i j k, none), r.2) else .no
      | _, _, _ => .no) Q E := by rw [walk_r3]
theorem walk_envar (i) : walk call (.envar i) ρ = if isStr ((ρ[i]?).bind view) = true then .no else (Res.of (lockV ρ i)).bind fun q => .ok ((enumL 0 q.1.1, q.1.2), q.2) := by rw [walk] <;> rfl
@[simp ↓] theorem w_walk_envar (i) {Q : Post _} {E : Xst} : @Wq _ (walk call (.envar i) ρ) Q E = @Wq _ (if isStr ((ρ[i]?).bind view) = true then .no else (Res.of (lockV ρ i)).bind fun q => .ok ((enumL 0 q.1.1, q.1.2), q.2)) Q E := by rw [walk_envar]
theorem walk_enu (a) : walk call (.enu a) ρ = (eval call a ρ).bind fun p => if isStr (look p.2 p.1) = true then .no else (Res.of (walkR p.1)).bind fun xs => .ok ((enumL 0 xs, none), p.2) := by rw [walk] <;> rfl
@[simp ↓] theorem w_walk_enu (a) {Q : Post _} {E : Xst} : @Wq _ (walk call (.enu a) ρ) Q E = @Wq _ ((eval call a ρ).bind fun p => if isStr (look p.2 p.1) = true then .no else (Res.of (walkR p.1)).bind fun xs => .ok ((enumL 0 xs, none), p.2)) Q E := by rw [walk_enu]
theorem walk_var (i) : walk call (.var i) ρ = Res.of (lockV ρ i) := by rw [walk] <;> rfl
@[simp ↓] theorem w_walk_var (i) {Q : Post _} {E : Xst} : @Wq _ (walk call (.var i) ρ) Q E = @Wq _ (Res.of (lockV ρ i)) Q E := by rw [walk_var]
theorem walk_val (a) : walk call (.val a) ρ = (eval call a ρ).bind fun p => (Res.of (walkR p.1)).bind fun xs => .ok ((xs, none), p.2) := by rw [walk] <;> rfl
@[simp ↓] theorem w_walk_val (a) {Q : Post _} {E : Xst} : @Wq _ (walk call (.val a) ρ) Q E = @Wq _ ((eval call a ρ).bind fun p => (Res.of (walkR p.1)).bind fun xs => .ok ((xs, none), p.2)) Q E := by rw [walk_val]
variable (np : Nat)
theorem exec_asg (i e) : exec call np (.asg i e) ρ = (eval call e ρ).bind fun p => (Res.of (put p.2 i p.1)).bind fun ρ' => .ok (ρ', none) := by rw [exec] <;> rfl
@[simp ↓] theorem w_exec_asg (i e) {Q : Post _} {E : Xst} : @Wq _ (exec call np (.asg i e) ρ) Q E = @Wq _ ((eval call e ρ).bind fun p => (Res.of (put p.2 i p.1)).bind fun ρ' => .ok (ρ', none)) Q E := by rw [exec_asg]
theorem exec_par (is es) : exec call np (.par is es) ρ = (evals call es ρ).bind fun p => (Res.of (fixLocs p.2 p.1)).bind fun q => (Res.of (puts q.2 is q.1)).bind fun ρ' => .ok (ρ', none) := by rw [exec] <;> rfl
@[simp ↓] theorem w_exec_par (is es) {Q : Post _} {E : Xst} : @Wq _ (exec call np (.par is es) ρ) Q E = @Wq _ ((evals call es ρ).bind fun p => (Res.of (fixLocs p.2 p.1)).bind fun q => (Res.of (puts q.2 is q.1)).bind fun ρ' => .ok (ρ', none)) Q E := by rw [exec_par]
theorem exec_unp (is e) : exec call np (.unp is e) ρ = (eval call e ρ).bind fun p => match p.1 with
      | .val (.tuple ds) => (Res.of (putVs p.2 is ds)).bind fun ρ' => .ok (ρ', none)
      | _ => .no := by rw [exec] <;> rfl
@[simp ↓] theorem w_exec_unp (is e) {Q : Post _} {E : Xst} : @Wq _ (exec call np (.unp is e) ρ) Q E = @Wq _ ((eval call e ρ).bind fun p => match p.1 with
      | .val (.tuple ds) => (Res.of (putVs p.2 is ds)).bind fun ρ' => .ok (ρ', none)
      | _ => .no) Q E := by rw [exec_unp]
theorem exec_sub (i ix e) : exec call np (.sub i ix e) ρ = (eval call e ρ).bind fun p => (Res.of (fix p.2 p.1)).bind fun x => if hasObj x.2 i = true then (eval call ix x.2).bind fun q => (match q.1 with
        | .val kd => (Res.of (storeD q.2 i kd x.1)).bind fun ρ' => .ok (ρ', none)
        | _ => .no)
        else .no := by
  rw [exec]
  congr 1
  funext p
  cases fix p.2 p.1 with
  | none => rfl
  | some x => rfl
@[simp ↓] theorem w_exec_sub (i ix e) {Q : Post _} {E : Xst} : @Wq _ (exec call np (.sub i ix e) ρ) Q E = @Wq _ ((eval call e ρ).bind fun p => (Res.of (fix p.2 p.1)).bind fun x => if hasObj x.2 i = true then (eval call ix x.2).bind fun q => (match q.1 with
        | .val kd => (Res.of (storeD q.2 i kd x.1)).bind fun ρ' => .ok (ρ', none)
        | _ => .no)
        else .no) Q E := by rw [exec_sub]
theorem exec_swp (i a b c d) : exec call np (.swp i a b c d) ρ = if hasObj ρ i = true then (eval call (.ix (.var i) c) ρ).bind fun p => (eval call (.ix (.var i) d) p.2).bind fun q => (match p.1, q.1 with
      | .val x, .val y => if hasObj q.2 i = true then (eval call a q.2).bind fun r => (match r.1 with
        | .val j => (Res.of (storeD r.2 i j x)).bind fun ρ1 => (eval call b ρ1).bind fun s => (match s.1 with
          | .val j' => (Res.of (storeD s.2 i j' y)).bind fun ρ2 => .ok (ρ2, none)
          | _ => .no)
        | _ => .no)
        else .no
      | _, _ => .no)
      else .no := by rw [exec] <;> rfl
@[simp ↓] theorem w_exec_swp (i a b c d) {Q : Post _} {E : Xst} : @Wq _ (exec call np (.swp i a b c d) ρ) Q E = @Wq _ (if hasObj ρ i = true then (eval call (.ix (.var i) c) ρ).bind fun p => (eval call (.ix (.var i) d) p.2).bind fun q => (match p.1, q.1 with
      | .val x, .val y => if hasObj q.2 i = true then (eval call a q.2).bind fun r => (match r.1 with
        | .val j => (Res.of (storeD r.2 i j x)).bind fun ρ1 => (eval call b ρ1).bind fun s => (match s.1 with
          | .val j' => (Res.of (storeD s.2 i j' y)).bind fun ρ2 => .ok (ρ2, none)
          | _ => .no)
        | _ => .no)
        else .no
      | _, _ => .no)
      else .no) Q E := by rw [exec_swp]
theorem exec_aug (i o e) : exec call np (.aug i o e) ρ = match ρ[i]? with
      | some (.val (.int x)) => (eval call e ρ).bind fun p => (match p.1 with
        | .val (.int y) => (Res.of (augI o x y)).bind fun z => (Res.of (putV p.2 i (.int z))).bind fun ρ' => .ok (ρ', none)
        | _ => .no)
      | _ => .no := by rw [exec] <;> rfl
@[simp ↓] theorem w_exec_aug (i o e) {Q : Post _} {E : Xst} : @Wq _ (exec call np (.aug i o e) ρ) Q E = @Wq _ (match ρ[i]? with
      | some (.val (.int x)) => (eval call e ρ).bind fun p => (match p.1 with
        | .val (.int y) => (Res.of (augI o x y)).bind fun z => (Res.of (putV p.2 i (.int z))).bind fun ρ' => .ok (ρ', none)
        | _ => .no)
      | _ => .no) Q E := by rw [exec_aug]
theorem exec_exp (e) : exec call np (.exp e) ρ = (eval call e ρ).bind fun p => .ok (p.2, none) := by rw [exec] <;> rfl
@[simp ↓] theorem w_exec_exp (e) {Q : Post _} {E : Xst} : @Wq _ (exec call np (.exp e) ρ) Q E = @Wq _ ((eval call e ρ).bind fun p => .ok (p.2, none)) Q E := by rw [exec_exp]
theorem exec_ret (e) : exec call np (.ret e) ρ = (eval call e ρ).bind fun p => (Res.of (retOf np p.2 p.1)).bind fun q => .ok (q.2, some q.1) := by rw [exec] <;> rfl
@[simp ↓] theorem w_exec_ret (e) {Q : Post _} {E : Xst} : @Wq _ (exec call np (.ret e) ρ) Q E = @Wq _ ((eval call e ρ).bind fun p => (Res.of (retOf np p.2 p.1)).bind fun q => .ok (q.2, some q.1)) Q E := by rw [exec_ret]
theorem exec_cond (c a b) : exec call np (.cond c a b) ρ = (eval call c ρ).bind fun p => (bOf p).bind fun p => if p.1 = true then execs call np a p.2 else execs call np b p.2 := by rw [exec, asB_of, rbind_assoc]
@[simp ↓] theorem w_exec_cond (c a b) {Q : Post _} {E : Xst} : @Wq _ (exec call np (.cond c a b) ρ) Q E = @Wq _ ((eval call c ρ).bind fun p => (bOf p).bind fun p => if p.1 = true then execs call np a p.2 else execs call np b p.2) Q E := by rw [exec_cond]
/-- a loop's turn -/
def bodyF (tg : Tg) (b : Ss) (d : D) (ρ : Env) : Res (Env × Option R) := (Res.of (putTg ρ tg d)).bind fun ρ1 => execs call np b ρ1
theorem exec_loop (tg it b) : exec call np (.loop tg it b) ρ = (walk call it ρ).bind fun p => (loopF (bodyF call np tg b) p.1.1 p.2).bind fun q => match q.2 with
          | none => (Res.of (unlockE q.1 p.1.2)).bind fun ρ' => .ok (ρ', none)
          | some s => .ok (q.1, some s) := by
  rw [exec]
  congr 1
  funext p
  congr 2
  funext d ρ
  unfold bodyF
  cases putTg ρ tg d with
  | none => rfl
  | some ρ1 => rfl
@[simp ↓] theorem w_exec_loop (tg it b) {Q : Post _} {E : Xst} : @Wq _ (exec call np (.loop tg it b) ρ) Q E = @Wq _ ((walk call it ρ).bind fun p => (loopF (bodyF call np tg b) p.1.1 p.2).bind fun q => match q.2 with
          | none => (Res.of (unlockE q.1 p.1.2)).bind fun ρ' => .ok (ρ', none)
          | some s => .ok (q.1, some s)) Q E := by rw [exec_loop]
def condW (c : E) (ρ : Env) : Res (Bool × Env) := (eval call c ρ).bind bOf
theorem exec_whil (c b) : exec call np (.whil c b) ρ = loopW (condW call c) (execs call np b) 1000000 ρ := by
  rw [exec]
  congr 1
  funext ρ
  exact asB_of _
@[simp ↓] theorem w_exec_whil (c b) {Q : Post _} {E : Xst} : @Wq _ (exec call np (.whil c b) ρ) Q E = @Wq _ (loopW (condW call c) (execs call np b) 1000000 ρ) Q E := by rw [exec_whil]
theorem exec_rais0 (c) : exec call np (.rais c .no) ρ = .exc c .none ρ := by rw [exec] <;> rfl
@[simp ↓] theorem w_exec_rais0 (c) {Q : Post _} {E : Xst} : @Wq _ (exec call np (.rais c .no) ρ) Q E = @Wq _ (.exc c .none ρ) Q E := by rw [exec_rais0]
theorem exec_rais1 (c e) : exec call np (.rais c (.so e)) ρ = (eval call e ρ).bind fun p => match fix p.2 p.1 with
      | none => .no
      | some (x, ρ') => .exc c x ρ' := by rw [exec] <;> rfl
@[simp ↓] theorem w_exec_rais1 (c e) {Q : Post _} {E : Xst} : @Wq _ (exec call np (.rais c (.so e)) ρ) Q E = @Wq _ ((eval call e ρ).bind fun p => match fix p.2 p.1 with
      | none => .no
      | some (x, ρ') => .exc c x ρ') Q E := by rw [exec_rais1]
theorem exec_pass : exec call np .pass ρ = .ok (ρ, none) := by rw [exec] <;> rfl
@[simp ↓] theorem w_exec_pass {Q : Post _} {E : Xst} : @Wq _ (exec call np .pass ρ) Q E = @Wq _ (.ok (ρ, none)) Q E := by rw [exec_pass]
@[simp ↓] theorem wp_tri {Q : Post (Env × Option R)} {E : Xst} (b hs) : @Wq _ (exec call np (.tri b hs) ρ) Q E = @Wq _ (execs call np b ρ) Q ⟨fun c f ρ' => @Wq _ (caught ρ' c f hs) Q E⟩ := by
  rw [exec]
  cases execs call np b ρ <;> rfl
theorem execs_nil : execs call np .nil ρ = .ok (ρ, none) := by rw [execs] <;> rfl
@[simp ↓] theorem w_execs_nil {Q : Post _} {E : Xst} : @Wq _ (execs call np .nil ρ) Q E = @Wq _ (.ok (ρ, none)) Q E := by rw [execs_nil]
/-- go on, or hand back -/
def andThen (r : Ss) (p : Env × Option R) : Res (Env × Option R) := match p.2 with
  | none => execs call np r p.1
  | some v => .ok (p.1, some v)
@[simp ↓] theorem andThen_none (r : Ss) (ρ : Env) : andThen call np r (ρ, none) = execs call np r ρ := rfl
@[simp] theorem andThen_some (r : Ss) (ρ : Env) (v : R) : andThen call np r (ρ, some v) = .ok (ρ, some v) := rfl
theorem execs_cons (s r) : execs call np (.cons s r) ρ = (exec call np s ρ).bind (andThen call np r) := by
  rw [execs]
  rcases exec call np s ρ with ⟨⟨ρ', o⟩⟩ | _ | _
  · cases o <;> rfl
  · rfl
  · rfl
@[simp ↓] theorem w_execs_cons (s r) {Q : Post _} {E : Xst} : @Wq _ (execs call np (.cons s r) ρ) Q E = @Wq _ ((exec call np s ρ).bind (andThen call np r)) Q E := by rw [execs_cons]
end
@[simp ↓] theorem w_lcT {Q : Post _} {E : Xst} (call : CallT) (elt : Mlg.E) (tg : Tg) (c : Eo) (vs : List Nat) (d : D) (ρ : Env) : @Wq _ (lcT call elt tg c vs d ρ) Q E = @Wq _ ((Res.of (putTg ρ tg d)).bind fun ρ2 => (test call c ρ2).bind fun t =>
  if t.1 = true then (eval call elt t.2).bind fun r => (Res.of (fix r.2 r.1)).bind fun x => (Res.of (wipeE x.2 vs)).bind fun ρ5 => .ok (some x.1, ρ5)
  else (Res.of (wipeE t.2 vs)).bind fun ρ5 => .ok (none, ρ5)) Q E := rfl
@[simp ↓] theorem w_bodyF {Q : Post _} {E : Xst} (call : CallT) (np : Nat) (tg : Tg) (b : Ss) (d : D) (ρ : Env) : @Wq _ (bodyF call np tg b d ρ) Q E = @Wq _ ((Res.of (putTg ρ tg d)).bind fun ρ1 => execs call np b ρ1) Q E := rfl
@[simp ↓] theorem w_condW {Q : Post _} {E : Xst} (call : CallT) (c : Mlg.E) (ρ : Env) : @Wq _ (condW call c ρ) Q E = @Wq _ ((eval call c ρ).bind bOf) Q E := rfl
@[simp ↓] theorem w_andThen {Q : Post _} {E : Xst} (call : CallT) (np : Nat) (r : Ss) (ρ : Env) : @Wq _ (andThen call np r (ρ, none)) Q E = @Wq _ (execs call np r ρ) Q E := rfl
@[simp ↓] theorem w_ofs {α : Type} {Q : Post α} {E : Xst} (a : α) : @Wq _ (Res.of (some a)) Q E = Q.p a := rfl
@[simp ↓] theorem w_ofn {α : Type} {Q : Post α} {E : Xst} : @Wq _ (Res.of (none : Option α)) Q E = False := rfl
@[simp ↓] theorem wp_doCall {Q : Post (R × Env)} {E : Xst} (call : CallT) (f rs ρ) : @Wq _ (doCall call f rs ρ) Q E = match argsOf ρ rs with
    | none => False
    | some ss => if nodupN (lent ρ rs) = true then @Wq _ (call f ss) ⟨fun p => @Wq _ (if notLoc p.1 = true then (Res.of (backArgs ρ rs p.2)).bind fun ρ' => .ok (p.1, ρ') else .no) Q E⟩ ⟨fun c d outs => match backArgs ρ rs outs with
      | some ρ' => E.e c d ρ'
      | none => False⟩ else False := by
  unfold doCall
  cases argsOf ρ rs with
  | none => rfl
  | some ss =>
    dsimp only
    split
    · cases call f ss with
      | ok p => rfl
      | exc c d o =>
        dsimp only [wp_exc]
        cases backArgs ρ rs o <;> rfl
      | no => rfl
    · rfl
theorem wp_callF {tab : Nat → Option Def} {k f : Nat} {args : List Slot} {d : Def} {Q : R × List Slot → Prop} {E : Nat → D → Env → Prop} (h : tab f = some d) (hl : args.length = d.np) (hk : lendOk d.reb 0 args = true)
    (hq : Wp (execs (callF tab k) d.np d.body (args ++ List.replicate d.ns .un)) (fun p => Q (p.2.getD (.val .none), mask d.reb 0 (p.1.take d.np))) (fun c f ρ => E c f (mask d.reb 0 (ρ.take d.np)))) : Wp (callF tab (k + 1) f args) Q E := by
  unfold callF
  rw [h]
  dsimp only
  rw [if_pos ⟨hl, hk⟩]
  revert hq
  generalize execs (callF tab k) d.np d.body (args ++ List.replicate d.ns Slot.un) = x
  rcases x with ⟨⟨ρ, o⟩⟩ | _ | _
  · cases o with
    | none => exact fun h => h
    | some r => exact fun h => h
  · exact fun h => h
  · exact fun h => h
@[simp] theorem getE0 (s : Slot) (ρ : Env) : (s :: ρ)[0]? = some s := rfl
/-! ### loops over what is written down -/
@[simp ↓] theorem w_loopF_nil {Q : Post _} {E : Xst} (body : D → Env → Res (Env × Option R)) (ρ : Env) : @Wq _ (loopF body [] ρ) Q E = Q.p (ρ, none) := rfl
@[simp ↓] theorem w_loopF_cons {Q : Post _} {E : Xst} (body : D → Env → Res (Env × Option R)) (d : D) (ds : List D) (ρ : Env) : @Wq _ (loopF body (d :: ds) ρ) Q E = @Wq _ (body d ρ) ⟨fun p => match p.2 with
    | none => @Wq _ (loopF body ds p.1) Q E
    | some s => Q.p (p.1, some s)⟩ E := by
  rw [loopF]
  rcases body d ρ with ⟨⟨ρ', o⟩⟩ | _ | _
  · cases o <;> rfl
  · rfl
  · rfl
@[simp ↓] theorem w_loopC_nil {Q : Post _} {E : Xst} (turn : D → Env → Res (Option D × Env)) (acc : List D) (ρ : Env) : @Wq _ (loopC turn [] acc ρ) Q E = Q.p (acc, ρ) := rfl
@[simp ↓] theorem w_loopC_cons {Q : Post _} {E : Xst} (turn : D → Env → Res (Option D × Env)) (d : D) (ds acc : List D) (ρ : Env) : @Wq _ (loopC turn (d :: ds) acc ρ) Q E = @Wq _ (turn d ρ) ⟨fun p => match p.1 with
    | none => @Wq _ (loopC turn ds acc p.2) Q E
    | some x => if small acc = true then @Wq _ (loopC turn ds (acc ++ [x]) p.2) Q E else False⟩ ⟨fun _ _ _ => False⟩ := by
  rw [loopC]
  rcases turn d ρ with ⟨⟨o, ρ'⟩⟩ | _ | _
  · cases o with
    | none => rfl
    | some x =>
      show @Wq _ (if small acc = true then loopC turn ds (acc ++ [x]) ρ' else .no) Q E = if small acc = true then @Wq _ (loopC turn ds (acc ++ [x]) ρ') Q E else False
      split <;> rfl
  · rfl
  · rfl
end Mlg
/-! Pl2: states, as rows for simp. -/
namespace Mlg
open PySem (PyData Str)
section
variable {ρ : Env} {i : Nat}
@[simp] theorem getV_eq : getV ρ i = match ρ[i]? with
  | some (.val d) => some (.val d)
  | some (.own _) => some (.loc i)
  | some (.lck _) => some (.loc i)
  | some (.ro _) => some (.loc i)
  | _ => none := rfl
@[simp] theorem toD_lst (xs) : (O.lst xs).toD = .list xs := rfl
@[simp] theorem toD_dic (t xs) : (O.dic t xs).toD = .dict xs := rfl
@[simp] theorem view_val (d) : view (.val d) = some d := rfl
@[simp] theorem view_own (o) : view (.own o) = some o.toD := rfl
@[simp] theorem view_lck (o) : view (.lck o) = some o.toD := rfl
@[simp] theorem view_ro (o) : view (.ro o) = some (.list o) := rfl
@[simp] theorem look_val (d) : look ρ (.val d) = some d := rfl
@[simp] theorem look_tmp (o) : look ρ (.tmp o) = some o.toD := rfl
@[simp] theorem look_loc (i) : look ρ (.loc i) = (ρ[i]?).bind view := rfl
@[simp] theorem lookS_val (d) : lookS ρ (.val d) = some d := rfl
@[simp] theorem lookS_tmp (o) : lookS ρ (.tmp o) = some o.toD := rfl
@[simp] theorem lookS_loc (i) : lookS ρ (.loc i) = match ρ[i]? with
    | some (.val d) => some d
    | some (.own o) => some o.toD
    | some (.lck o) => some o.toD
    | _ => none := rfl
@[simp] theorem fix_val (d) : fix ρ (.val d) = some (d, ρ) := rfl
@[simp] theorem fix_tmp (o) : fix ρ (.tmp o) = some (o.toD, ρ) := rfl
@[simp] theorem fix_loc (i) : fix ρ (.loc i) = match ρ[i]? with
    | some (.val d) => some (d, ρ)
    | some (.own o) => some (o.toD, ρ.set i (.val o.toD))
    | _ => none := rfl
@[simp] theorem ownL_eq : ownL ρ i = match ρ[i]? with
  | some (.own (.lst xs)) => some xs
  | _ => none := rfl
@[simp] theorem put_val (d) : put ρ i (.val d) = if i < ρ.length then some (ρ.set i (.val d)) else none := rfl
@[simp] theorem put_tmp (o) : put ρ i (.tmp o) = if i < ρ.length then some (ρ.set i (.own o)) else none := rfl
@[simp] theorem put_loc (j) : put ρ i (.loc j) = if i < ρ.length then (fix ρ (.loc j)).map fun p => p.2.set i (.val p.1) else none := rfl
@[simp] theorem putV_eq (d) : putV ρ i d = if i < ρ.length then some (ρ.set i (.val d)) else none := rfl
@[simp] theorem putVs_nil : putVs ρ [] [] = some ρ := rfl
@[simp] theorem putVs_cons (is d ds) : putVs ρ (i :: is) (d :: ds) = (putV ρ i d).bind fun ρ' => putVs ρ' is ds := rfl
@[simp] theorem putTg_nm (d) : putTg ρ (.nm i) d = putV ρ i d := rfl
@[simp] theorem putTg_tup (is ds) : putTg ρ (.tup is) (.tuple ds) = putVs ρ is ds := rfl
@[simp] theorem wipeE_nil : wipeE ρ [] = some ρ := rfl
@[simp] theorem wipeE_cons (v r) : wipeE ρ (v :: r) = match ρ[v]? with
    | some .un => (wipeE ρ r).map fun ρ' => ρ'.set v .un
    | some (.val _) => (wipeE ρ r).map fun ρ' => ρ'.set v .un
    | _ => none := rfl
@[simp] theorem backE_nil (ρ0) : backE ρ0 [] ρ = ρ := rfl
@[simp] theorem backE_cons (ρ0 v r) : backE ρ0 (v :: r) ρ = match ρ0[v]? with
    | some s => (backE ρ0 r ρ).set v s
    | none => backE ρ0 r ρ := rfl
@[simp] theorem argOf_val (d) : argOf ρ (.val d) = some (.val d) := rfl
@[simp] theorem argOf_tmp (d) : argOf ρ (.tmp d) = some (.own d) := rfl
@[simp] theorem argOf_loc : argOf ρ (.loc i) = match ρ[i]? with
    | some (.val d) => some (.val d)
    | some (.own o) => some (.own o)
    | some (.ro xs) => some (.ro xs)
    | _ => none := rfl
@[simp] theorem argsOf_nil : argsOf ρ [] = some [] := rfl
@[simp] theorem argsOf_cons (r rs) : argsOf ρ (r :: rs) = (argOf ρ r).bind fun s => (argsOf ρ rs).map (s :: ·) := rfl
@[simp] theorem lent_nil : lent ρ [] = [] := rfl
@[simp] theorem lent_loc (rs) : lent ρ (.loc i :: rs) = (match ρ[i]? with | some (.own _) => [i] | _ => []) ++ lent ρ rs := rfl
@[simp] theorem lent_val (d rs) : lent ρ (.val d :: rs) = lent ρ rs := rfl
@[simp] theorem lent_tmp (d rs) : lent ρ (.tmp d :: rs) = lent ρ rs := rfl
@[simp] theorem nodupN_nil : nodupN [] = true := rfl
@[simp] theorem nodupN_cons (r) : nodupN (i :: r) = (!r.contains i && nodupN r) := rfl
@[simp] theorem backArgs_nil : backArgs ρ [] [] = some ρ := rfl
@[simp] theorem backArgs_loc (rs s ss) : backArgs ρ (.loc i :: rs) (s :: ss) = match ρ[i]?, s with
    | some (.own _), .own o => backArgs (ρ.set i (.own o)) rs ss
    | some (.own _), .lck o => backArgs (ρ.set i (.own o)) rs ss
    | some (.own _), .val d => backArgs (ρ.set i (.val d)) rs ss
    | some (.val _), _ => backArgs ρ rs ss
    | some (.ro _), _ => backArgs ρ rs ss
    | _, _ => none := rfl
@[simp] theorem backArgs_val (d rs s ss) : backArgs ρ (.val d :: rs) (s :: ss) = backArgs ρ rs ss := rfl
@[simp] theorem backArgs_tmp (d rs s ss) : backArgs ρ (.tmp d :: rs) (s :: ss) = backArgs ρ rs ss := rfl
@[simp] theorem notLoc_val (d) : notLoc (.val d) = true := rfl
@[simp] theorem notLoc_tmp (d) : notLoc (.tmp d) = true := rfl
@[simp] theorem isNone_none : isNone (.val .none) = true := rfl
@[simp] theorem isNone_int (n) : isNone (.val (.int n)) = false := rfl
@[simp] theorem isNone_bool (n) : isNone (.val (.bool n)) = false := rfl
@[simp] theorem isNone_str (n) : isNone (.val (.str n)) = false := rfl
@[simp] theorem isNone_tuple (n) : isNone (.val (.tuple n)) = false := rfl
@[simp] theorem isNone_list (n) : isNone (.val (.list n)) = false := rfl
@[simp] theorem isNone_dict (n) : isNone (.val (.dict n)) = false := rfl
@[simp] theorem isNone_tmp (n) : isNone (.tmp n) = false := rfl
@[simp] theorem isNone_loc (n) : isNone (.loc n) = false := rfl
@[simp] theorem lockV_eq : lockV ρ i = match ρ[i]? with
  | some (.val d) => (itemsW d).map fun xs => ((xs, none), ρ)
  | some (.own (.lst xs)) => some ((xs, some i), ρ.set i (.lck (.lst xs)))
  | some (.lck (.lst xs)) => some ((xs, none), ρ)
  | some (.ro xs) => some ((xs, none), ρ)
  | _ => none := by unfold lockV; rfl
@[simp] theorem itemsW_list (xs) : itemsW (.list xs) = some xs := rfl
@[simp] theorem itemsW_tuple (xs) : itemsW (.tuple xs) = some xs := rfl
@[simp] theorem itemsW_str (xs) : itemsW (.str xs) = some (chars xs) := rfl
@[simp] theorem items_list (xs) : items (.list xs) = some xs := rfl
@[simp] theorem items_tuple (xs) : items (.tuple xs) = some xs := rfl
@[simp] theorem isStr_list (xs) : isStr (some (.list xs)) = false := rfl
@[simp] theorem isStr_tuple (xs) : isStr (some (.tuple xs)) = false := rfl
@[simp] theorem walkR_val (d) : walkR (.val d) = itemsW d := rfl
@[simp] theorem walkR_tmp (xs) : walkR (.tmp (.lst xs)) = some xs := rfl
@[simp] theorem unlockE_none : unlockE ρ none = some ρ := rfl
@[simp] theorem unlockE_some : unlockE ρ (some i) = match ρ[i]? with
    | some (.lck o) => some (ρ.set i (.own o))
    | _ => none := rfl
@[simp] theorem hasObj_eq : hasObj ρ i = match ρ[i]? with
  | some (.own _) => true
  | _ => false := rfl
@[simp] theorem storeD_eq (k x) : storeD ρ i k x = match ρ[i]? with
  | some (.own (.lst xs)) => (match k with
    | .int j => (place xs.length j).map fun n => ρ.set i (.own (.lst (xs.set n x)))
    | _ => none)
  | some (.own (.dic t kvs)) => if (keyT t k && decide (kvs.length < lim)) = true then some (ρ.set i (.own (.dic t (setKey kvs k x)))) else none
  | _ => none := by unfold storeD; rfl
@[simp] theorem augI_add (x y) : augI .add x y = some (x + y) := rfl
@[simp] theorem augI_sub (x y) : augI .sub x y = some (x - y) := rfl
@[simp] theorem retOf_val (np d) : retOf np ρ (.val d) = some (.val d, ρ) := rfl
@[simp] theorem retOf_tmp (np d) : retOf np ρ (.tmp d) = some (.tmp d, ρ) := rfl
@[simp] theorem retOf_loc (np) : retOf np ρ (.loc i) = if i < np then (fix ρ (.loc i)).map fun p => (.val p.1, p.2) else match ρ[i]? with
    | some (.own o) => some (.tmp o, ρ.set i .un)
    | some (.lck o) => some (.tmp o, ρ.set i .un)
    | some (.val d) => some (.val d, ρ)
    | _ => none := by unfold retOf; rfl
@[simp] theorem puts_nil : puts ρ [] [] = some ρ := rfl
@[simp] theorem puts_cons (is r rs) : puts ρ (i :: is) (r :: rs) = (put ρ i r).bind fun ρ' => puts ρ' is rs := rfl
@[simp] theorem fixLocs_nil : fixLocs ρ [] = some ([], ρ) := rfl
@[simp] theorem fixLocs_loc (rs) : fixLocs ρ (.loc i :: rs) = (fix ρ (.loc i)).bind fun p => (fixLocs p.2 rs).map fun q => (.val p.1 :: q.1, q.2) := rfl
@[simp] theorem fixLocs_val (d rs) : fixLocs ρ (.val d :: rs) = (fixLocs ρ rs).map fun q => (.val d :: q.1, q.2) := rfl
@[simp] theorem fixLocs_tmp (d rs) : fixLocs ρ (.tmp d :: rs) = (fixLocs ρ rs).map fun q => (.tmp d :: q.1, q.2) := rfl
@[simp] theorem suite_set (f d) : suite ρ f (.set i d) = putV ρ i d := rfl
@[simp] theorem suite_inc (f n) : suite ρ f (.inc i n) = match ρ[i]? with
    | some (.val (.int k)) => putV ρ i (.int (k + n))
    | _ => none := by unfold suite; rfl
@[simp] theorem suite_app (f d) : suite ρ f (.app i d) = match ρ[i]? with
    | some (.own (.lst xs)) => if small xs then some (ρ.set i (.own (.lst (xs ++ [d])))) else none
    | _ => none := by unfold suite; rfl
@[simp] theorem suite_setF (f w e) : suite ρ f (.setF i w e) = putV ρ i (.tuple [w, f]) := rfl
@[simp] theorem suite_appF (f e) : suite ρ f (.appF i e) = match ρ[i]? with
    | some (.own (.lst xs)) => if small xs then some (ρ.set i (.own (.lst (xs ++ [f])))) else none
    | _ => none := by unfold suite; rfl
@[simp] theorem caught_nil (c f) : caught ρ c f [] = .exc c f ρ := rfl
@[simp] theorem caught_none (c f c' u hs) : caught ρ c f ((c', none, u) :: hs) = if c = c' then (Res.of (suite ρ f u)).bind fun ρ' => .ok (ρ', none) else caught ρ c f hs := by rw [caught]
@[simp] theorem caught_some (c f c' e u hs) : caught ρ c f ((c', some e, u) :: hs) = if c = c' then (Res.of (suite ρ f u)).bind fun ρ' => .ok (ρ'.set e .un, none) else caught ρ c f hs := by rw [caught]
@[simp] theorem lendOk_nil (reb) : lendOk reb i [] = true := rfl
@[simp] theorem lendOk_val (reb d r) : lendOk reb i (.val d :: r) = lendOk reb (i + 1) r := rfl
@[simp] theorem lendOk_own (reb d r) : lendOk reb i (.own d :: r) = (!reb.contains i && lendOk reb (i + 1) r) := rfl
@[simp] theorem lendOk_ro (reb d r) : lendOk reb i (.ro d :: r) = lendOk reb (i + 1) r := rfl
@[simp] theorem mask_nil (reb) : mask reb i [] = [] := rfl
@[simp] theorem mask_cons (reb s r) : mask reb i (s :: r) = (if reb.contains i then .un else s) :: mask reb (i + 1) r := rfl
end
/-! ### operators -/
@[simp] theorem bin_addI (i j) : bin .add (.int i) (.int j) = some (.val (.int (i + j))) := rfl
@[simp] theorem bin_addT (xs ys) : bin .add (.tuple xs) (.tuple ys) = if small (xs ++ ys) then some (.val (.tuple (xs ++ ys))) else none := rfl
@[simp] theorem bin_addL (xs ys) : bin .add (.list xs) (.list ys) = if small (xs ++ ys) then some (.tmp (.lst (xs ++ ys))) else none := rfl
@[simp] theorem bin_sub (i j) : bin .sub (.int i) (.int j) = some (.val (.int (i - j))) := rfl
@[simp] theorem bin_mulI (i j) : bin .mul (.int i) (.int j) = if i.natAbs < 2 ^ 64 ∨ j.natAbs < 2 ^ 64 then some (.val (.int (i * j))) else none := rfl
@[simp] theorem bin_mulT (xs j) : bin .mul (.tuple xs) (.int j) = if j = 1 then some (.val (.tuple xs)) else if xs ≠ [] ∧ 2 ≤ j ∧ j ≤ 1000 ∧ xs.length ≤ 1000 then some (.val (.tuple (rep j.toNat xs))) else none := rfl
@[simp] theorem bin_mulL (xs j) : bin .mul (.list xs) (.int j) = if xs.length * j.toNat < lim ∧ -1000000 < j ∧ j < 1000000 then some (.tmp (.lst (rep j.toNat xs))) else none := rfl
@[simp] theorem bin_fdiv (i j) : bin .fdiv (.int i) (.int j) = if 0 < j ∧ j < 1000000000 then some (.val (.int (i / j))) else none := rfl
@[simp] theorem bin_mod (i j) : bin .mod (.int i) (.int j) = if 0 < j then some (.val (.int (i % j))) else none := rfl
@[simp] theorem bin_pow (i j) : bin .pow (.int i) (.int j) = if 0 ≤ j ∧ j ≤ 1000 ∧ i.natAbs < 1000000 then some (.val (.int (i ^ j.toNat))) else none := rfl
@[simp] theorem cmp_lt (i j) : cmp .lt (.int i) (.int j) = some (decide (i < j)) := rfl
@[simp] theorem cmp_le (i j) : cmp .le (.int i) (.int j) = some (decide (i ≤ j)) := rfl
@[simp] theorem cmp_gt (i j) : cmp .gt (.int i) (.int j) = some (decide (j < i)) := rfl
@[simp] theorem cmp_ge (i j) : cmp .ge (.int i) (.int j) = some (decide (j ≤ i)) := rfl
theorem cmp_eq (a b) : cmp .eq a b = if shp 8 a && shp 8 b then some (eqv a b) else none := by cases a <;> cases b <;> rfl
theorem cmp_ne (a b) : cmp .ne a b = if shp 8 a && shp 8 b then some (!eqv a b) else none := by cases a <;> cases b <;> rfl
@[simp] theorem shp_int (n i) : shp n (.int i) = true := by cases n <;> rfl
@[simp] theorem shp_none (n) : shp n .none = true := by cases n <;> rfl
@[simp] theorem shp_bool (n i) : shp n (.bool i) = true := by cases n <;> rfl
@[simp] theorem shp_list (n xs) : shp (n + 1) (.list xs) = shpAll n xs := rfl
@[simp] theorem shp_tuple (n xs) : shp (n + 1) (.tuple xs) = shpAll n xs := rfl
@[simp] theorem shpAll_nil (n) : shpAll n [] = true := by cases n <;> rfl
@[simp] theorem shpAll_cons (n x xs) : shpAll n (x :: xs) = (shp n x && shpAll n xs) := by cases n <;> rfl
@[simp] theorem shpAll_ints (n) : ∀ is : List Int, shpAll n (is.map .int) = true
  | [] => by simp
  | i :: is => by simp [shpAll_ints n is]
@[simp] theorem cmp_eqI (i j) : cmp .eq (.int i) (.int j) = some (decide (i = j)) := by
  rw [cmp_eq]; simp [eqv]; by_cases h : i = j <;> simp [h]
@[simp] theorem cmp_neI (i j) : cmp .ne (.int i) (.int j) = some (!decide (i = j)) := by
  rw [cmp_ne]; simp [eqv]; by_cases h : i = j <;> simp [h]
@[simp] theorem isTy_int_int (i) : isTy .int (.int i) = true := rfl
@[simp] theorem isTy_bool_int (i) : isTy .bool (.int i) = false := rfl
@[simp] theorem isTy_tuple_tuple (i) : isTy .tuple (.tuple i) = true := rfl
@[simp] theorem b1_lenL (xs) : b1 .len (.list xs) = some (.val (.int xs.length)) := rfl
@[simp] theorem b1_lenT (xs) : b1 .len (.tuple xs) = some (.val (.int xs.length)) := rfl
@[simp] theorem b1_abs (i) : b1 .abs (.int i) = some (.val (.int (if i < 0 then -i else i))) := rfl
@[simp] theorem b1_intI (i) : b1 .int (.int i) = some (.val (.int i)) := rfl
@[simp] theorem b1_intB (b) : b1 .int (.bool b) = some (.val (.int (if b then 1 else 0))) := rfl
@[simp] theorem b1_listL (xs) : b1 .list (.list xs) = some (.tmp (.lst xs)) := rfl
@[simp] theorem b1_listT (xs) : b1 .list (.tuple xs) = some (.tmp (.lst xs)) := rfl
@[simp] theorem b1_tupleL (xs) : b1 .tuple (.list xs) = some (.val (.tuple xs)) := rfl
@[simp] theorem b1_tupleT (xs) : b1 .tuple (.tuple xs) = some (.val (.tuple xs)) := rfl
@[simp] theorem b1_isi (t d) : b1 (.isi t) d = some (.val (.bool (isTy t d))) := by cases d <;> rfl
@[simp] theorem b2_min (i j) : b2 .min (.int i) (.int j) = some (.val (.int (if j < i then j else i))) := rfl
@[simp] theorem b2_max (i j) : b2 .max (.int i) (.int j) = some (.val (.int (if j > i then j else i))) := rfl
@[simp] theorem ix_L (xs i) : ixD (.list xs) (.int i) = (place xs.length i).bind fun j => (xs[j]?).map .val := rfl
@[simp] theorem ix_T (xs i) : ixD (.tuple xs) (.int i) = (place xs.length i).bind fun j => (xs[j]?).map .val := rfl
@[simp] theorem sl_L (xs a b) : slD (.list xs) a b = some (.tmp (.lst (cutL xs a b))) := rfl
@[simp] theorem sl_T (xs a b) : slD (.tuple xs) a b = some (.val (.tuple (cutL xs a b))) := rfl
@[simp] theorem rev_L (xs) : revD (.list xs) = some (.tmp (.lst xs.reverse)) := rfl
theorem place_nn {n : Nat} {i : Int} (h : 0 ≤ i) (h2 : i < n) : place n i = some i.toNat := by unfold place; rw [if_pos h, if_pos h2]
theorem place_neg {n : Nat} {i : Int} (h : i < 0) (h2 : -(n : Int) ≤ i) : place n i = some (i + n).toNat := by unfold place; rw [if_neg (by omega), if_pos h2]
theorem small_of {xs : List D} (h : xs.length < 1000000) : small xs = true := by unfold small lim; simpa using h
theorem rangeOk_of {i : Int} (h : -1000000 < i) (h2 : i < 1000000) : rangeOk i = true := by unfold rangeOk; simp; exact ⟨h, h2⟩
end Mlg
/-! Defs: the defs of the linked texts, as terms of the small language (printed by gen.py). -/
namespace Mlg
open PySem (PyData Str)
/-- is_integer -/
def d0 : Def := ⟨1, 0, [], (.cons (.ret (.and (.b1 (.isi .int) (.var 0)) (.not (.b1 (.isi .bool) (.var 0)))))
  .nil)⟩

/-- is_from -/
def d1 : Def := ⟨3, 0, [], (.cons (.ret (.and (.call 0 (.cons (.var 0) .nil)) (.chn .le .le (.var 1) (.var 0) (.var 2))))
  .nil)⟩

/-- is_order -/
def d2 : Def := ⟨1, 1, [], (.cons (.cond (.or (.not (.b1 (.isi .tuple) (.var 0))) (.not (.chn .le .le (.cst (.int 1)) (.b1 .len (.var 0)) (.glo 0 (.int 100)))))
  (.cons (.ret (.cst (.bool false)))
  .nil)
  .nil)
  (.cons (.ret (.and (.b1 .all (.lc (.call 1 (.cons (.var 1) (.cons (.cst (.int 0)) (.cons (.bin .sub (.b1 .len (.var 0)) (.cst (.int 1))) .nil)))) (.nm 1) (.var 0) .no [1])) (.cmp .eq (.b1 .lenset (.var 0)) (.b1 .len (.var 0)))))
  .nil))⟩

/-- check_order -/
def d3 : Def := ⟨1, 0, [], (.cons (.cond (.not (.call 2 (.cons (.var 0) .nil)))
  (.cons (.rais 2 .no)
  .nil)
  .nil)
  .nil)⟩

/-- bar_of -/
def d4 : Def := ⟨1, 4, [], (.cons (.par [1, 2] (.cons (.ix (.var 0) (.cst (.int 0))) (.cons (.ix (.var 0) (.cst (.int 0))) .nil)))
  (.cons (.loop (.tup [3, 4]) (.envar 0)
  (.cons (.cond (.and (.cmp .gt (.var 3) (.cst (.int 0))) (.and (.cmp .ne (.var 4) (.bin .sub (.var 1) (.cst (.int 1)))) (.cmp .ne (.var 4) (.bin .add (.var 2) (.cst (.int 1))))))
  (.cons (.ret (.bin .add (.var 3) (.cst (.int 1))))
  .nil)
  .nil)
  (.cons (.par [1, 2] (.cons (.b2 .min (.var 1) (.var 4)) (.cons (.b2 .max (.var 2) (.var 4)) .nil)))
  .nil)))
  (.cons (.ret (.cst .none))
  .nil)))⟩

/-- bar -/
def d5 : Def := ⟨1, 0, [], (.cons (.exp (.call 3 (.cons (.var 0) .nil)))
  (.cons (.ret (.call 4 (.cons (.var 0) .nil)))
  .nil))⟩

/-- is_row -/
def d6 : Def := ⟨1, 0, [], (.cons (.ret (.and (.call 2 (.cons (.var 0) .nil)) (.isN (.call 4 (.cons (.var 0) .nil)))))
  .nil)⟩

/-- check_row -/
def d7 : Def := ⟨1, 0, [], (.cons (.cond (.not (.call 6 (.cons (.var 0) .nil)))
  (.cons (.rais 3 .no)
  .nil)
  .nil)
  .nil)⟩

/-- both_ways -/
def d8 : Def := ⟨1, 2, [], (.cons (.exp (.call 7 (.cons (.var 0) .nil)))
  (.cons (.ret (.lc (.tup (.cons (.var 1) (.cons (.b1 .tuple (.lc (.cmp .lt (.var 2) (.var 1)) (.nm 2) (.var 0) .no [2])) .nil))) (.nm 1) (.val (.tup (.cons (.ix (.var 0) (.cst (.int 0))) (.cons (.bin .add (.ix (.var 0) (.cst (.int 0))) (.cst (.int 1))) .nil)))) .no [1]))
  .nil))⟩

/-- choose -/
def d9 : Def := ⟨2, 2, [], (.cons (.asg 2 (.cst (.int 1)))
  (.cons (.loop (.nm 3) (.r1 (.var 1))
  (.cons (.asg 2 (.bin .fdiv (.bin .mul (.var 2) (.bin .sub (.var 0) (.var 3))) (.bin .add (.var 3) (.cst (.int 1)))))
  .nil))
  (.cons (.ret (.var 2))
  .nil)))⟩

/-- rank -/
def d10 : Def := ⟨1, 6, [], (.cons (.exp (.call 7 (.cons (.var 0) .nil)))
  (.cons (.par [1, 2] (.cons (.b1 .len (.var 0)) (.cons (.ix (.var 0) (.cst (.int 0))) .nil)))
  (.cons (.asg 3 (.b1 .sum (.lc (.call 9 (.cons (.bin .sub (.var 1) (.cst (.int 1))) (.cons (.var 4) .nil))) (.nm 4) (.r1 (.var 2)) .no [4])))
  (.cons (.loop (.tup [5, 6]) (.envar 0)
  (.cons (.cond (.cmp .lt (.var 6) (.var 2))
  (.cons (.asg 2 (.var 6))
  .nil)
  (.cons (.cond (.and (.cmp .gt (.var 5) (.cst (.int 0))) (.cmp .gt (.var 2) (.cst (.int 0))))
  (.cons (.aug 3 .add (.call 9 (.cons (.bin .sub (.bin .sub (.var 1) (.cst (.int 1))) (.var 5)) (.cons (.bin .sub (.var 2) (.cst (.int 1))) .nil))))
  .nil)
  .nil)
  .nil))
  .nil))
  (.cons (.ret (.var 3))
  .nil)))))⟩

/-- falls -/
def d11 : Def := ⟨1, 1, [], (.cons (.exp (.call 7 (.cons (.var 0) .nil)))
  (.cons (.ret (.b1 .len (.lc (.var 1) (.nm 1) (.r2 (.cst (.int 1)) (.b1 .len (.var 0))) (.so (.cmp .lt (.ix (.var 0) (.var 1)) (.ix (.var 0) (.bin .sub (.var 1) (.cst (.int 1)))))) [1])))
  .nil))⟩

/-- write -/
def d12 : Def := ⟨1, 1, [], (.cons (.exp (.call 7 (.cons (.var 0) .nil)))
  (.cons (.ret (.m1 .join (.cst (.str ⟨#[32]⟩)) (.lc (.b1 .str (.var 1)) (.nm 1) (.var 0) .no [1])))
  .nil))⟩

/-- _law_random -/
def d13 : Def := ⟨2, 2, [], (.cons (.asg 2 (.var 1))
  (.cons (.loop (.nm 3) (.var 0)
  (.cons (.asg 2 (.bin .mod (.b1 .int (.bin .add (.bin .mul (.var 2) (.cst (.int 31))) (.b1 .abs (.var 3)))) (.cst (.int 2147483647))))
  .nil))
  (.cons (.ret (.bin .add (.lst (.cons (.var 2) (.cons (.cst (.int 0)) .nil))) (.lc (.var 3) (.nm 3) (.var 0) (.so (.cmp .ge (.var 3) (.bin .pow (.cst (.int 10)) (.cst (.int 18))))) [3])))
  .nil)))⟩

/-- _law_below -/
def d14 : Def := ⟨2, 1, [], (.cons (.cond (.and (.cmp .eq (.ix (.var 0) (.cst (.int 1))) (.cst (.int 0))) (.cmp .gt (.b1 .len (.var 0)) (.cst (.int 2))))
  (.cons (.sub 0 (.cst (.int 1)) (.pop 0 (.so (.cst (.int 2)))))
  .nil)
  .nil)
  (.cons (.cond (.cmp .gt (.ix (.var 0) (.cst (.int 1))) (.cst (.int 0)))
  (.cons (.asg 2 (.bin .mod (.b1 .int (.ix (.var 0) (.cst (.int 1)))) (.var 1)))
  (.cons (.sub 0 (.cst (.int 1)) (.bin .fdiv (.ix (.var 0) (.cst (.int 1))) (.var 1)))
  (.cons (.ret (.var 2))
  .nil)))
  .nil)
  (.cons (.sub 0 (.cst (.int 0)) (.bin .mod (.b1 .int (.bin .add (.bin .mul (.ix (.var 0) (.cst (.int 0))) (.cst (.int 48271))) (.cst (.int 11)))) (.cst (.int 2147483647))))
  (.cons (.ret (.bin .mod (.b1 .int (.bin .fdiv (.ix (.var 0) (.cst (.int 0))) (.cst (.int 64)))) (.var 1)))
  .nil))))⟩

/-- _law_pick -/
def d15 : Def := ⟨2, 0, [], (.cons (.ret (.ix (.var 1) (.call 14 (.cons (.var 0) (.cons (.b1 .len (.var 1)) .nil)))))
  .nil)⟩

/-- _law_equal -/
def d16 : Def := ⟨2, 2, [], (.cons (.cond (.isN (.var 1))
  (.cons (.ret (.isN (.var 0)))
  .nil)
  .nil)
  (.cons (.cond (.b1 (.isi .bool) (.var 1))
  (.cons (.ret (.and (.b1 (.isi .bool) (.var 0)) (.cmp .eq (.var 0) (.var 1))))
  .nil)
  .nil)
  (.cons (.cond (.b1 (.isi .int) (.var 1))
  (.cons (.ret (.and (.b1 (.isi .int) (.var 0)) (.and (.not (.b1 (.isi .bool) (.var 0))) (.cmp .eq (.var 0) (.var 1)))))
  .nil)
  .nil)
  (.cons (.cond (.b1 (.isi .str) (.var 1))
  (.cons (.ret (.and (.b1 (.isi .str) (.var 0)) (.cmp .eq (.var 0) (.var 1))))
  .nil)
  .nil)
  (.cons (.cond (.b1 (.isi .dict) (.var 1))
  (.cons .stuck (.cons .stuck .nil))
  .nil)
  (.cons (.cond (.cmp .ne (.b1 (.isi .tuple) (.var 1)) (.b1 (.isi .tuple) (.var 0)))
  (.cons (.ret (.cst (.bool false)))
  .nil)
  .nil)
  (.cons (.cond (.cmp .ne (.b1 (.isi .list) (.var 1)) (.b1 (.isi .list) (.var 0)))
  (.cons (.ret (.cst (.bool false)))
  .nil)
  .nil)
  (.cons (.cond (.cmp .ne (.b1 .len (.var 0)) (.b1 .len (.var 1)))
  (.cons (.ret (.cst (.bool false)))
  .nil)
  .nil)
  (.cons (.ret (.b1 .all (.lc (.call 16 (.cons (.ix (.var 0) (.var 3)) (.cons (.ix (.var 1) (.var 3)) .nil))) (.nm 3) (.r1 (.b1 .len (.var 1))) .no [3])))
  .nil)))))))))⟩

/-- _law_row -/
def d17 : Def := ⟨2, 4, [], (.cons (.asg 2 (.call 14 (.cons (.var 0) (.cons (.var 1) .nil))))
  (.cons (.par [3, 4] (.cons (.lst (.cons (.var 2) .nil)) (.cons (.var 2) .nil)))
  (.cons (.loop (.nm 5) (.r1 (.bin .sub (.var 1) (.cst (.int 1))))
  (.cons (.cond (.or (.cmp .eq (.var 4) (.bin .sub (.var 1) (.cst (.int 1)))) (.and (.cmp .gt (.var 2) (.cst (.int 0))) (.cmp .eq (.call 14 (.cons (.var 0) (.cons (.cst (.int 2)) .nil))) (.cst (.int 0)))))
  (.cons (.asg 2 (.bin .sub (.var 2) (.cst (.int 1))))
  (.cons (.exp (.app 3 (.var 2)))
  .nil))
  (.cons (.asg 4 (.bin .add (.var 4) (.cst (.int 1))))
  (.cons (.exp (.app 3 (.var 4)))
  .nil)))
  .nil))
  (.cons (.ret (.b1 .tuple (.var 3)))
  .nil))))⟩

/-- _law_order -/
def d18 : Def := ⟨2, 4, [], (.cons (.asg 2 (.b1 .list (.call 17 (.cons (.var 0) (.cons (.var 1) .nil)))))
  (.cons (.loop (.nm 3) (.r1 (.call 15 (.cons (.var 0) (.cons (.lst (.cons (.cst (.int 0)) (.cons (.cst (.int 0)) (.cons (.cst (.int 1)) (.cons (.cst (.int 1)) (.cons (.cst (.int 2)) (.cons (.cst (.int 9)) .nil))))))) .nil))))
  (.cons (.par [4, 5] (.cons (.call 14 (.cons (.var 0) (.cons (.var 1) .nil))) (.cons (.call 14 (.cons (.var 0) (.cons (.var 1) .nil))) .nil)))
  (.cons (.swp 2 (.var 4) (.var 5) (.var 5) (.var 4))
  .nil)))
  (.cons (.ret (.b1 .tuple (.var 2)))
  .nil)))⟩

/-- _law_every -/
def d19 : Def := ⟨1, 5, [], (.cons (.asg 1 (.lc (.tup (.cons (.var 2) .nil)) (.nm 2) (.r1 (.var 0)) .no [2]))
  (.cons (.loop (.nm 3) (.r1 (.bin .sub (.var 0) (.cst (.int 1))))
  (.cons (.asg 4 (.lst .nil))
  (.cons (.loop (.nm 5) (.var 1)
  (.cons (.loop (.nm 2) (.r1 (.var 0))
  (.cons (.cond (.or (.cmp .eq (.var 2) (.bin .sub (.b1 .min (.var 5)) (.cst (.int 1)))) (.cmp .eq (.var 2) (.bin .add (.b1 .max (.var 5)) (.cst (.int 1)))))
  (.cons (.exp (.app 4 (.bin .add (.var 5) (.tup (.cons (.var 2) .nil)))))
  .nil)
  .nil)
  .nil))
  .nil))
  (.cons (.asg 1 (.var 4))
  .nil))))
  (.cons (.ret (.b1 .sorted (.var 1)))
  .nil)))⟩

/-- _law_no_row -/
def d20 : Def := ⟨1, 1, [], (.cons (.asg 1 (.lst (.cons (.cst .none) (.cons (.cst (.int 3)) (.cons (.cst (.str ⟨#[48]⟩)) (.cons (.lst (.cons (.cst (.int 0)) .nil)) (.cons (.tup .nil) (.cons (.tup (.cons (.cst (.int 1)) .nil)) (.cons (.tup (.cons (.cst (.int 0)) (.cons (.cst (.int 0)) .nil))) (.cons (.tup (.cons (.neg (.cst (.int 1))) (.cons (.cst (.int 0)) .nil))) (.cons (.tup (.cons (.cst (.int 0)) (.cons (.cst (.int 2)) (.cons (.cst (.int 1)) .nil)))) (.cons (.tup (.cons (.cst (.bool true)) (.cons (.cst (.int 0)) .nil))) (.cons (.tup (.cons (.cst (.int 1)) (.cons (.cst (.str ⟨#[48]⟩)) .nil))) (.cons (.dnew false) (.cons (.tup (.cons (.cst (.int 2)) (.cons (.cst (.int 0)) (.cons (.cst (.int 1)) .nil)))) (.cons (.tup (.cons (.cst (.int 1)) (.cons (.cst (.int 2)) (.cons (.cst (.int 0)) (.cons (.cst (.int 4)) (.cons (.cst (.int 3)) .nil)))))) .nil))))))))))))))))
  (.cons (.ret (.call 15 (.cons (.var 0) (.cons (.var 1) .nil))))
  .nil))⟩

/-- _law_barred -/
def d21 : Def := ⟨1, 2, [], (.cons (.loop (.nm 1) (.r2 (.cst (.int 1)) (.bin .add (.b1 .len (.var 0)) (.cst (.int 1))))
  (.cons (.asg 2 (.b1 .sorted (.sl (.var 0) .no (.so (.var 1)))))
  (.cons (.cond (.cmp .ne (.var 2) (.rg2 true (.ix (.var 2) (.cst (.int 0))) (.bin .add (.ix (.var 2) (.cst (.int 0))) (.var 1))))
  (.cons (.ret (.var 1))
  .nil)
  .nil)
  .nil)))
  (.cons (.ret (.cst .none))
  .nil))⟩

/-- _law_refused -/
def d22 : Def := ⟨1, 1, [], (.cons (.asg 1 (.cst (.int 0)))
  (.cons (.tri (.cons (.exp (.call 8 (.cons (.var 0) .nil)))
  .nil)
  [(3, none, .inc 1 1)])
  (.cons (.tri (.cons (.exp (.call 10 (.cons (.var 0) .nil)))
  .nil)
  [(3, none, .inc 1 1)])
  (.cons (.tri (.cons (.exp (.call 11 (.cons (.var 0) .nil)))
  .nil)
  [(3, none, .inc 1 1)])
  (.cons (.tri (.cons (.exp (.call 12 (.cons (.var 0) .nil)))
  .nil)
  [(3, none, .inc 1 1)])
  (.cons (.ret (.var 1))
  .nil))))))⟩

/-- _law_no_order -/
def d23 : Def := ⟨1, 1, [], (.cons (.asg 1 (.cst (.bool false)))
  (.cons (.tri (.cons (.exp (.call 5 (.cons (.var 0) .nil)))
  .nil)
  [(2, none, .set 1 (.bool true))])
  (.cons (.ret (.var 1))
  .nil)))⟩

/-- law -/
def d24 : Def := ⟨1, 7, [], (.cons (.asg 1 (.call 13 (.cons (.var 0) (.cons (.cst (.int 2401)) .nil))))
  (.cons (.loop (.nm 2) (.r1 (.cst (.int 4)))
  (.cons (.asg 3 (.call 18 (.cons (.var 1) (.cons (.bin .add (.cst (.int 1)) (.call 14 (.cons (.var 1) (.cons (.call 15 (.cons (.var 1) (.cons (.lst (.cons (.cst (.int 5)) (.cons (.cst (.int 12)) (.cons (.cst (.int 100)) .nil)))) .nil))) .nil)))) .nil))))
  (.cons (.asg 4 (.call 21 (.cons (.var 3) .nil)))
  (.cons (.cond (.or (.not (.call 16 (.cons (.call 5 (.cons (.var 3) .nil)) (.cons (.var 4) .nil)))) (.not (.call 16 (.cons (.call 6 (.cons (.var 3) .nil)) (.cons (.isN (.var 4)) .nil)))))
  (.cons (.ret (.cst (.bool false)))
  .nil)
  .nil)
  (.cons (.cond (.cmp .ne (.call 22 (.cons (.var 3) .nil)) (.ite (.isN (.var 4)) (.cst (.int 0)) (.cst (.int 4))))
  (.cons (.ret (.cst (.bool false)))
  .nil)
  .nil)
  .nil)))))
  (.cons (.asg 5 (.call 20 (.cons (.var 1) .nil)))
  (.cons (.cond (.or (.call 6 (.cons (.var 5) .nil)) (.cmp .ne (.call 22 (.cons (.var 5) .nil)) (.cst (.int 4))))
  (.cons (.ret (.cst (.bool false)))
  .nil)
  .nil)
  (.cons (.asg 6 (.lst (.cons (.cst .none) (.cons (.cst (.int 3)) (.cons (.cst (.str ⟨#[48]⟩)) (.cons (.lst (.cons (.cst (.int 0)) .nil)) (.cons (.tup .nil) (.cons (.tup (.cons (.cst (.int 1)) .nil)) (.cons (.tup (.cons (.cst (.int 0)) (.cons (.cst (.int 0)) .nil))) (.cons (.tup (.cons (.neg (.cst (.int 1))) (.cons (.cst (.int 0)) .nil))) (.cons (.tup (.cons (.cst (.bool true)) (.cons (.cst (.int 0)) .nil))) (.cons (.tup (.cons (.cst (.int 1)) (.cons (.cst (.str ⟨#[48]⟩)) .nil))) (.cons (.dnew false) (.cons (.b1 .tuple (.rg1 true (.cst (.int 101)))) (.cons (.tup (.cons (.cst (.int 0)) (.cons (.cst .none) .nil))) .nil)))))))))))))))
  (.cons (.ret (.cmp .eq (.lc (.var 7) (.nm 7) (.var 6) (.so (.or (.not (.call 23 (.cons (.var 7) .nil))) (.call 6 (.cons (.var 7) .nil)))) [7]) (.lst .nil)))
  .nil))))))⟩

/-- check_size -/
def d25 : Def := ⟨3, 0, [], (.cons (.cond (.not (.call 1 (.cons (.var 0) (.cons (.var 1) (.cons (.var 2) .nil)))))
  (.cons (.rais 1 .no)
  .nil)
  .nil)
  .nil)⟩

/-- made -/
def d26 : Def := ⟨3, 5, [], (.cons (.exp (.call 25 (.cons (.var 0) (.cons (.cst (.int 1)) (.cons (.glo 0 (.int 100)) .nil)))))
  (.cons (.cond (.not (.call 1 (.cons (.var 1) (.cons (.cst (.int 0)) (.cons (.var 0) .nil)))))
  (.cons (.rais 4 .no)
  .nil)
  .nil)
  (.cons (.cond (.or (.not (.b1 (.isi .tuple) (.var 2))) (.or (.cmp .ne (.b1 .len (.var 2)) (.var 0)) (.not (.b1 .all (.lc (.b1 (.isi .bool) (.var 3)) (.nm 3) (.var 2) .no [3])))))
  (.cons (.rais 5 .no)
  .nil)
  .nil)
  (.cons (.cond (.cmp .ne (.b1 .len (.lc (.var 3) (.nm 3) (.var 2) (.so (.var 3)) [3])) (.var 1))
  (.cons (.rais 5 .no)
  .nil)
  .nil)
  (.cons (.par [4, 5, 6] (.cons (.var 1) (.cons (.bin .sub (.var 1) (.cst (.int 1))) (.cons (.lst .nil) .nil))))
  (.cons (.loop (.nm 7) (.var 2)
  (.cons (.cond (.var 7)
  (.cons (.aug 4 .sub (.cst (.int 1)))
  (.cons (.exp (.app 6 (.var 4)))
  .nil))
  (.cons (.aug 5 .add (.cst (.int 1)))
  (.cons (.exp (.app 6 (.var 5)))
  .nil)))
  .nil))
  (.cons (.ret (.b1 .tuple (.var 6)))
  .nil)))))))⟩

/-- _law_laced -/
def d27 : Def := ⟨3, 4, [], (.cons (.par [3, 4, 5] (.cons (.rev (.rg1 true (.var 1))) (.cons (.rg2 true (.var 1) (.var 0)) (.cons (.lst .nil) .nil))))
  (.cons (.loop (.nm 6) (.var 2)
  (.cons (.cond (.var 6)
  (.cons (.par [5, 3] (.cons (.bin .add (.var 5) (.sl (.var 3) .no (.so (.cst (.int 1))))) (.cons (.sl (.var 3) (.so (.cst (.int 1))) .no) .nil)))
  .nil)
  (.cons (.par [5, 4] (.cons (.bin .add (.var 5) (.sl (.var 4) .no (.so (.cst (.int 1))))) (.cons (.sl (.var 4) (.so (.cst (.int 1))) .no) .nil)))
  .nil))
  .nil))
  (.cons (.ret (.b1 .tuple (.var 5)))
  .nil)))⟩

/-- _law_running -/
def d28 : Def := ⟨3, 4, [], (.cons (.par [3, 4] (.cons (.var 2) (.cons (.lst .nil) .nil)))
  (.cons (.loop (.nm 5) (.r1 (.var 1))
  (.cons (.asg 6 (.and (.cmp .gt (.var 3) (.cst (.int 0))) (.or (.cmp .eq (.var 3) (.bin .sub (.var 1) (.var 5))) (.cmp .lt (.call 14 (.cons (.var 0) (.cons (.bin .sub (.var 1) (.var 5)) .nil))) (.var 3)))))
  (.cons (.asg 3 (.bin .sub (.var 3) (.b1 .int (.var 6))))
  (.cons (.exp (.app 4 (.var 6)))
  .nil))))
  (.cons (.ret (.b1 .tuple (.var 4)))
  .nil)))⟩

/-- _law_told -/
def d29 : Def := ⟨3, 1, [], (.cons (.asg 3 (.cst (.str ⟨#[]⟩)))
  (.cons (.tri (.cons (.exp (.call 26 (.cons (.var 0) (.cons (.var 1) (.cons (.var 2) .nil)))))
  .nil)
  [(1, none, .set 3 (.str ⟨#[115, 105, 122, 101]⟩)), (4, none, .set 3 (.str ⟨#[99, 117, 116]⟩)), (5, none, .set 3 (.str ⟨#[114, 117, 110, 110, 105, 110, 103]⟩))])
  (.cons (.ret (.var 3))
  .nil)))⟩

/-- law -/
def d30 : Def := ⟨1, 11, [], (.cons (.asg 1 (.call 13 (.cons (.var 0) (.cons (.cst (.int 2402)) .nil))))
  (.cons (.loop (.nm 2) (.r1 (.cst (.int 3)))
  (.cons (.asg 3 (.bin .add (.cst (.int 1)) (.call 14 (.cons (.var 1) (.cons (.call 15 (.cons (.var 1) (.cons (.lst (.cons (.cst (.int 4)) (.cons (.cst (.int 9)) (.cons (.cst (.int 100)) .nil)))) .nil))) .nil)))))
  (.cons (.asg 4 (.call 14 (.cons (.var 1) (.cons (.bin .add (.var 3) (.cst (.int 1))) .nil))))
  (.cons (.asg 5 (.call 28 (.cons (.var 1) (.cons (.var 3) (.cons (.var 4) .nil)))))
  (.cons (.cond (.not (.call 16 (.cons (.call 26 (.cons (.var 3) (.cons (.var 4) (.cons (.var 5) .nil)))) (.cons (.call 27 (.cons (.var 3) (.cons (.var 4) (.cons (.var 5) .nil)))) .nil))))
  (.cons (.ret (.cst (.bool false)))
  .nil)
  .nil)
  (.cons (.asg 6 (.call 17 (.cons (.var 1) (.cons (.var 3) .nil))))
  (.cons (.asg 7 (.call 8 (.cons (.var 6) .nil)))
  (.cons (.cond (.or (.not (.b1 (.isi .list) (.var 7))) (.or (.cmp .ne (.b1 .len (.var 7)) (.cst (.int 2))) (.or (.cmp .ne (.var 7) (.b1 .sorted (.var 7))) (.cmp .eq (.ix (.ix (.var 7) (.cst (.int 0))) (.cst (.int 0))) (.ix (.ix (.var 7) (.cst (.int 1))) (.cst (.int 0)))))))
  (.cons (.ret (.cst (.bool false)))
  .nil)
  .nil)
  (.cons (.loop (.nm 8) (.var 7)
  (.cons (.cond (.or (.not (.b1 (.isi .tuple) (.var 8))) (.or (.cmp .ne (.call 27 (.cons (.var 3) (.cons (.ix (.var 8) (.cst (.int 0))) (.cons (.ix (.var 8) (.cst (.int 1))) .nil)))) (.var 6)) (.cmp .ne (.b1 .len (.ix (.var 8) (.cst (.int 1)))) (.var 3))))
  (.cons (.ret (.cst (.bool false)))
  .nil)
  .nil)
  .nil))
  (.cons (.asg 9 (.ite (.cmp .gt (.bin .mul (.var 4) (.bin .sub (.var 3) (.var 4))) (.cst (.int 0))) (.bin .mul (.tup (.cons (.ix (.var 5) (.cst (.int 0))) .nil)) (.var 3)) (.bin .add (.var 5) (.tup (.cons (.cst (.bool true)) .nil)))))
  (.cons (.asg 10 (.lst (.cons (.bin .add (.sl (.var 5) .no (.so (.neg (.cst (.int 1))))) (.tup (.cons (.b1 .int (.ix (.var 5) (.neg (.cst (.int 1))))) .nil))) (.cons (.bin .add (.tup (.cons (.b1 .int (.ix (.var 5) (.cst (.int 0)))) .nil)) (.sl (.var 5) (.so (.cst (.int 1))) .no)) (.cons (.bin .add (.sl (.var 5) .no (.so (.neg (.cst (.int 1))))) (.tup (.cons (.cst .none) .nil))) .nil)))))
  (.cons (.loop (.nm 11) (.val (.bin .add (.var 10) (.lst (.cons (.cst .none) (.cons (.b1 .list (.var 5)) (.cons (.sl (.var 5) (.so (.cst (.int 1))) .no) (.cons (.bin .add (.var 5) (.tup (.cons (.cst (.bool false)) .nil))) (.cons (.var 9) (.cons (.bin .mul (.tup (.cons (.cst (.int 1)) .nil)) (.var 3)) .nil)))))))))
  (.cons (.cond (.cmp .ne (.call 29 (.cons (.var 3) (.cons (.var 4) (.cons (.var 11) .nil)))) (.cst (.str ⟨#[114, 117, 110, 110, 105, 110, 103]⟩)))
  (.cons (.ret (.cst (.bool false)))
  .nil)
  .nil)
  .nil))
  (.cons (.loop (.nm 11) (.val (.lst (.cons (.cst .none) (.cons (.neg (.cst (.int 1))) (.cons (.bin .add (.var 3) (.cst (.int 1))) (.cons (.cst (.str ⟨#[48]⟩)) (.cons (.cst (.bool true)) .nil)))))))
  (.cons (.cond (.cmp .ne (.call 29 (.cons (.var 3) (.cons (.var 11) (.cons (.cst .none) .nil)))) (.cst (.str ⟨#[99, 117, 116]⟩)))
  (.cons (.ret (.cst (.bool false)))
  .nil)
  .nil)
  .nil))
  .nil)))))))))))))
  (.cons (.ret (.cmp .eq (.lc (.var 11) (.nm 11) (.val (.lst (.cons (.cst .none) (.cons (.cst (.int 0)) (.cons (.cst (.int 101)) (.cons (.cst (.str ⟨#[51]⟩)) (.cons (.cst (.bool true)) .nil))))))) (.so (.cmp .ne (.call 29 (.cons (.var 11) (.cons (.cst .none) (.cons (.cst .none) .nil)))) (.cst (.str ⟨#[115, 105, 122, 101]⟩)))) [11]) (.lst .nil)))
  .nil)))⟩

/-- power_of_two -/
def d31 : Def := ⟨1, 2, [], (.cons (.asg 1 (.cst (.int 1)))
  (.cons (.loop (.nm 2) (.r1 (.var 0))
  (.cons (.asg 1 (.bin .mul (.var 1) (.cst (.int 2))))
  .nil))
  (.cons (.ret (.var 1))
  .nil)))⟩

/-- how_many -/
def d32 : Def := ⟨1, 0, [], (.cons (.exp (.call 25 (.cons (.var 0) (.cons (.cst (.int 1)) (.cons (.glo 0 (.int 100)) .nil)))))
  (.cons (.ret (.call 31 (.cons (.bin .sub (.var 0) (.cst (.int 1))) .nil)))
  .nil))⟩

/-- kth -/
def d33 : Def := ⟨2, 5, [1], (.cons (.exp (.call 25 (.cons (.var 0) (.cons (.cst (.int 1)) (.cons (.glo 0 (.int 100)) .nil)))))
  (.cons (.cond (.not (.call 1 (.cons (.var 1) (.cons (.cst (.int 0)) (.cons (.bin .sub (.call 31 (.cons (.bin .sub (.var 0) (.cst (.int 1))) .nil)) (.cst (.int 1))) .nil)))))
  (.cons (.rais 6 .no)
  .nil)
  .nil)
  (.cons (.asg 2 (.cst (.int 0)))
  (.cons (.whil (.cmp .ge (.var 1) (.call 9 (.cons (.bin .sub (.var 0) (.cst (.int 1))) (.cons (.var 2) .nil))))
  (.cons (.aug 1 .sub (.call 9 (.cons (.bin .sub (.var 0) (.cst (.int 1))) (.cons (.var 2) .nil))))
  (.cons (.aug 2 .add (.cst (.int 1)))
  .nil)))
  (.cons (.par [3, 4, 5] (.cons (.lst (.cons (.var 2) .nil)) (.cons (.var 2) (.cons (.var 2) .nil))))
  (.cons (.whil (.cmp .lt (.b1 .len (.var 3)) (.var 0))
  (.cons (.asg 6 (.ite (.cmp .gt (.var 4) (.cst (.int 0))) (.call 9 (.cons (.bin .sub (.bin .sub (.var 0) (.cst (.int 1))) (.b1 .len (.var 3))) (.cons (.bin .sub (.var 4) (.cst (.int 1))) .nil))) (.cst (.int 0))))
  (.cons (.cond (.cmp .lt (.var 1) (.var 6))
  (.cons (.aug 4 .sub (.cst (.int 1)))
  (.cons (.exp (.app 3 (.var 4)))
  .nil))
  (.cons (.par [1, 5] (.cons (.bin .sub (.var 1) (.var 6)) (.cons (.bin .add (.var 5) (.cst (.int 1))) .nil)))
  (.cons (.exp (.app 3 (.var 5)))
  .nil)))
  .nil)))
  (.cons (.ret (.b1 .tuple (.var 3)))
  .nil)))))))⟩

/-- rows_of -/
def d34 : Def := ⟨1, 5, [], (.cons (.asg 1 (.lc (.tup (.cons (.var 2) .nil)) (.nm 2) (.r1 (.var 0)) .no [2]))
  (.cons (.loop (.nm 3) (.r1 (.bin .sub (.var 0) (.cst (.int 1))))
  (.cons (.asg 4 (.lst .nil))
  (.cons (.loop (.nm 5) (.var 1)
  (.cons (.cond (.cmp .gt (.b1 .min (.var 5)) (.cst (.int 0)))
  (.cons (.exp (.app 4 (.tup (.star (.var 5) (.cons (.bin .sub (.b1 .min (.var 5)) (.cst (.int 1))) .nil)))))
  .nil)
  .nil)
  (.cons (.cond (.cmp .lt (.b1 .max (.var 5)) (.bin .sub (.var 0) (.cst (.int 1))))
  (.cons (.exp (.app 4 (.tup (.star (.var 5) (.cons (.bin .add (.b1 .max (.var 5)) (.cst (.int 1))) .nil)))))
  .nil)
  .nil)
  .nil)))
  (.cons (.asg 1 (.var 4))
  .nil))))
  (.cons (.ret (.var 1))
  .nil)))⟩

/-- all_rows -/
def d35 : Def := ⟨1, 0, [], (.cons (.exp (.call 25 (.cons (.var 0) (.cons (.cst (.int 1)) (.cons (.glo 1 (.int 10)) .nil)))))
  (.cons (.ret (.call 34 (.cons (.var 0) .nil)))
  .nil))⟩

/-- _law_told -/
def d36 : Def := ⟨3, 1, [], (.cons (.asg 3 (.cst (.str ⟨#[]⟩)))
  (.cons (.tri (.cons (.cond (.cmp .eq (.var 0) (.cst (.str ⟨#[109, 97, 110, 121]⟩)))
  (.cons (.exp (.call 32 (.cons (.var 1) .nil)))
  .nil)
  (.cons (.cond (.cmp .eq (.var 0) (.cst (.str ⟨#[97, 108, 108]⟩)))
  (.cons (.exp (.call 35 (.cons (.var 1) .nil)))
  .nil)
  (.cons (.exp (.call 33 (.cons (.var 1) (.cons (.var 2) .nil))))
  .nil))
  .nil))
  .nil)
  [(1, none, .set 3 (.str ⟨#[115, 105, 122, 101]⟩)), (6, none, .set 3 (.str ⟨#[110, 117, 109, 98, 101, 114]⟩))])
  (.cons (.ret (.var 3))
  .nil)))⟩

/-- law -/
def d37 : Def := ⟨1, 8, [], (.cons (.asg 1 (.call 13 (.cons (.var 0) (.cons (.cst (.int 2403)) .nil))))
  (.cons (.asg 2 (.ite (.cmp .gt (.call 14 (.cons (.var 1) (.cons (.cst (.int 12)) .nil))) (.cst (.int 0))) (.bin .add (.cst (.int 1)) (.call 14 (.cons (.var 1) (.cons (.cst (.int 8)) .nil)))) (.bin .add (.cst (.int 9)) (.call 14 (.cons (.var 1) (.cons (.cst (.int 2)) .nil))))))
  (.cons (.asg 3 (.call 19 (.cons (.var 2) .nil)))
  (.cons (.cond (.or (.not (.call 16 (.cons (.call 35 (.cons (.var 2) .nil)) (.cons (.var 3) .nil)))) (.not (.call 16 (.cons (.call 32 (.cons (.var 2) .nil)) (.cons (.b1 .len (.var 3)) .nil)))))
  (.cons (.ret (.cst (.bool false)))
  .nil)
  .nil)
  (.cons (.loop (.nm 4) (.r1 (.b1 .len (.var 3)))
  (.cons (.cond (.or (.and (.cmp .eq (.bin .mod (.var 4) (.cst (.int 7))) (.bin .mod (.b1 .len (.var 3)) (.cst (.int 7)))) (.not (.call 16 (.cons (.call 33 (.cons (.var 2) (.cons (.var 4) .nil))) (.cons (.ix (.var 3) (.var 4)) .nil))))) (.not (.call 16 (.cons (.call 10 (.cons (.ix (.var 3) (.var 4)) .nil)) (.cons (.var 4) .nil)))))
  (.cons (.ret (.cst (.bool false)))
  .nil)
  .nil)
  .nil))
  (.cons (.asg 2 (.bin .add (.cst (.int 1)) (.call 14 (.cons (.var 1) (.cons (.cst (.int 100)) .nil)))))
  (.cons (.asg 5 (.cst (.int 1)))
  (.cons (.loop (.nm 4) (.r1 (.bin .sub (.var 2) (.cst (.int 1))))
  (.cons (.asg 5 (.bin .mul (.cst (.int 2)) (.var 5)))
  .nil))
  (.cons (.cond (.not (.call 16 (.cons (.call 32 (.cons (.var 2) .nil)) (.cons (.var 5) .nil))))
  (.cons (.ret (.cst (.bool false)))
  .nil)
  .nil)
  (.cons (.asg 6 (.call 17 (.cons (.var 1) (.cons (.var 2) .nil))))
  (.cons (.asg 4 (.call 10 (.cons (.var 6) .nil)))
  (.cons (.cond (.or (.not (.b1 (.isi .int) (.var 4))) (.or (.not (.chn .le .lt (.cst (.int 0)) (.var 4) (.var 5))) (.not (.call 16 (.cons (.call 33 (.cons (.var 2) (.cons (.var 4) .nil))) (.cons (.var 6) .nil))))))
  (.cons (.ret (.cst (.bool false)))
  .nil)
  .nil)
  (.cons (.cond (.or (.and (.cmp .lt (.bin .add (.var 4) (.cst (.int 1))) (.var 5)) (.not (.cmp .gt (.call 33 (.cons (.var 2) (.cons (.bin .add (.var 4) (.cst (.int 1))) .nil))) (.var 6)))) (.cmp .ne (.call 10 (.cons (.b1 .tuple (.rev (.rg1 true (.var 2)))) .nil)) (.bin .sub (.var 5) (.cst (.int 1)))))
  (.cons (.ret (.cst (.bool false)))
  .nil)
  .nil)
  (.cons (.loop (.nm 7) (.val (.lst (.cons (.cst .none) (.cons (.neg (.cst (.int 1))) (.cons (.var 5) (.cons (.cst (.str ⟨#[48]⟩)) (.cons (.cst (.bool true)) .nil)))))))
  (.cons (.cond (.cmp .ne (.call 36 (.cons (.cst (.str ⟨#[107, 116, 104]⟩)) (.cons (.var 2) (.cons (.var 7) .nil)))) (.cst (.str ⟨#[110, 117, 109, 98, 101, 114]⟩)))
  (.cons (.ret (.cst (.bool false)))
  .nil)
  .nil)
  .nil))
  (.cons (.loop (.nm 8) (.val (.lst (.cons (.cst (.str ⟨#[109, 97, 110, 121]⟩)) (.cons (.cst (.str ⟨#[97, 108, 108]⟩)) (.cons (.cst (.str ⟨#[107, 116, 104]⟩)) .nil)))))
  (.cons (.loop (.nm 7) (.val (.lst (.cons (.cst .none) (.cons (.cst (.int 0)) (.cons (.cst (.int 101)) (.cons (.cst (.str ⟨#[51]⟩)) (.cons (.cst (.bool true)) .nil)))))))
  (.cons (.cond (.cmp .ne (.call 36 (.cons (.var 8) (.cons (.var 7) (.cons (.cst .none) .nil)))) (.cst (.str ⟨#[115, 105, 122, 101]⟩)))
  (.cons (.ret (.cst (.bool false)))
  .nil)
  .nil)
  .nil))
  .nil))
  (.cons (.ret (.cmp .eq (.call 36 (.cons (.cst (.str ⟨#[97, 108, 108]⟩)) (.cons (.cst (.int 11)) (.cons (.cst .none) .nil)))) (.cst (.str ⟨#[115, 105, 122, 101]⟩))))
  .nil))))))))))))))))⟩

/-- with_falls -/
def d38 : Def := ⟨2, 0, [], (.cons (.exp (.call 25 (.cons (.var 0) (.cons (.cst (.int 1)) (.cons (.glo 0 (.int 100)) .nil)))))
  (.cons (.cond (.not (.call 1 (.cons (.var 1) (.cons (.cst (.int 0)) (.cons (.bin .sub (.var 0) (.cst (.int 1))) .nil)))))
  (.cons (.rais 6 .no)
  .nil)
  .nil)
  (.cons (.ret (.call 9 (.cons (.bin .sub (.var 0) (.cst (.int 1))) (.cons (.var 1) .nil))))
  .nil)))⟩

/-- _law_falls -/
def d39 : Def := ⟨1, 1, [], (.cons (.ret (.b1 .len (.lc (.var 1) (.nm 1) (.r2 (.cst (.int 1)) (.b1 .len (.var 0))) (.so (.cmp .lt (.ix (.var 0) (.var 1)) (.ix (.var 0) (.bin .sub (.var 1) (.cst (.int 1)))))) [1])))
  .nil)⟩

/-- _law_told -/
def d40 : Def := ⟨2, 1, [], (.cons (.asg 2 (.cst (.str ⟨#[]⟩)))
  (.cons (.tri (.cons (.exp (.call 38 (.cons (.var 0) (.cons (.var 1) .nil))))
  .nil)
  [(1, none, .set 2 (.str ⟨#[115, 105, 122, 101]⟩)), (6, none, .set 2 (.str ⟨#[110, 117, 109, 98, 101, 114]⟩))])
  (.cons (.ret (.var 2))
  .nil)))⟩

/-- law -/
def d41 : Def := ⟨1, 7, [], (.cons (.asg 1 (.call 13 (.cons (.var 0) (.cons (.cst (.int 2404)) .nil))))
  (.cons (.loop (.nm 2) (.r1 (.cst (.int 3)))
  (.cons (.asg 3 (.call 17 (.cons (.var 1) (.cons (.bin .add (.cst (.int 1)) (.call 14 (.cons (.var 1) (.cons (.call 15 (.cons (.var 1) (.cons (.lst (.cons (.cst (.int 6)) (.cons (.cst (.int 30)) (.cons (.cst (.int 100)) .nil)))) .nil))) .nil)))) .nil))))
  (.cons (.cond (.not (.call 16 (.cons (.call 11 (.cons (.var 3) .nil)) (.cons (.call 39 (.cons (.var 3) .nil)) .nil))))
  (.cons (.ret (.cst (.bool false)))
  .nil)
  .nil)
  .nil)))
  (.cons (.asg 4 (.bin .add (.cst (.int 1)) (.call 14 (.cons (.var 1) (.cons (.cst (.int 7)) .nil)))))
  (.cons (.asg 5 (.lc (.call 39 (.cons (.var 3) .nil)) (.nm 3) (.val (.call 19 (.cons (.var 4) .nil))) .no [3]))
  (.cons (.loop (.nm 6) (.r1 (.var 4))
  (.cons (.cond (.not (.call 16 (.cons (.call 38 (.cons (.var 4) (.cons (.var 6) .nil))) (.cons (.m1 .count (.var 5) (.var 6)) .nil))))
  (.cons (.ret (.cst (.bool false)))
  .nil)
  .nil)
  .nil))
  (.cons (.asg 4 (.bin .add (.cst (.int 3)) (.call 14 (.cons (.var 1) (.cons (.cst (.int 98)) .nil)))))
  (.cons (.asg 6 (.bin .add (.cst (.int 1)) (.call 14 (.cons (.var 1) (.cons (.bin .sub (.var 4) (.cst (.int 2))) .nil)))))
  (.cons (.cond (.cmp .ne (.call 38 (.cons (.var 4) (.cons (.var 6) .nil))) (.bin .add (.call 38 (.cons (.bin .sub (.var 4) (.cst (.int 1))) (.cons (.var 6) .nil))) (.call 38 (.cons (.bin .sub (.var 4) (.cst (.int 1))) (.cons (.bin .sub (.var 6) (.cst (.int 1))) .nil)))))
  (.cons (.ret (.cst (.bool false)))
  .nil)
  .nil)
  (.cons (.loop (.nm 7) (.val (.lst (.cons (.cst .none) (.cons (.neg (.cst (.int 1))) (.cons (.var 4) (.cons (.cst (.str ⟨#[48]⟩)) (.cons (.cst (.bool true)) .nil)))))))
  (.cons (.cond (.cmp .ne (.call 40 (.cons (.var 4) (.cons (.var 7) .nil))) (.cst (.str ⟨#[110, 117, 109, 98, 101, 114]⟩)))
  (.cons (.ret (.cst (.bool false)))
  .nil)
  .nil)
  .nil))
  (.cons (.ret (.cmp .eq (.lc (.var 7) (.nm 7) (.val (.lst (.cons (.cst .none) (.cons (.cst (.int 0)) (.cons (.cst (.int 101)) (.cons (.cst (.str ⟨#[51]⟩)) (.cons (.cst (.bool true)) .nil))))))) (.so (.cmp .ne (.call 40 (.cons (.var 7) (.cons (.cst .none) .nil))) (.cst (.str ⟨#[115, 105, 122, 101]⟩)))) [7]) (.lst .nil)))
  .nil))))))))))⟩

/-- is_alike -/
def d42 : Def := ⟨1, 0, [], (.cons (.ret (.cmp .lt (.b1 .lenset (.var 0)) (.b1 .len (.var 0))))
  .nil)⟩

/-- bad_lot -/
def d43 : Def := ⟨2, 1, [], (.cons (.loop (.nm 2) (.r1 (.bin .fdiv (.b1 .len (.var 0)) (.var 1)))
  (.cons (.cond (.call 42 (.cons (.sl (.var 0) (.so (.bin .mul (.var 2) (.var 1))) (.so (.bin .add (.bin .mul (.var 2) (.var 1)) (.var 1)))) .nil))
  (.cons (.ret (.var 2))
  .nil)
  .nil)
  .nil))
  (.cons (.ret (.cst .none))
  .nil))⟩

/-- first_bad -/
def d44 : Def := ⟨2, 1, [], (.cons (.exp (.call 3 (.cons (.var 0) .nil)))
  (.cons (.exp (.call 25 (.cons (.var 1) (.cons (.cst (.int 1)) (.cons (.b1 .len (.var 0)) .nil)))))
  (.cons (.ret (.call 43 (.cons (.lc (.bin .mod (.var 2) (.var 1)) (.nm 2) (.var 0) .no [2]) (.cons (.var 1) .nil))))
  .nil)))⟩

/-- bad_sizes -/
def d45 : Def := ⟨1, 2, [], (.cons (.exp (.call 3 (.cons (.var 0) .nil)))
  (.cons (.ret (.lc (.var 1) (.nm 1) (.r2 (.cst (.int 1)) (.bin .add (.b1 .len (.var 0)) (.cst (.int 1)))) (.so (.ntN (.call 43 (.cons (.lc (.bin .mod (.var 2) (.var 1)) (.nm 2) (.var 0) .no [2]) (.cons (.var 1) .nil))))) [1]))
  .nil))⟩

/-- _law_pack -/
def d46 : Def := ⟨2, 6, [], (.cons (.asg 2 (.call 15 (.cons (.var 0) (.cons (.lst (.cons (.cst (.int 2)) (.cons (.cst (.int 3)) (.cons (.cst (.int 4)) .nil)))) .nil))))
  (.cons (.par [3, 4] (.cons (.bin .add (.cst (.int 1)) (.call 14 (.cons (.var 0) (.cons (.cst (.int 4)) .nil)))) (.cons (.call 14 (.cons (.var 0) (.cons (.cst (.int 4)) .nil))) .nil)))
  (.cons (.cond (.cmp .eq (.var 4) (.cst (.int 0)))
  (.cons (.ret (.b1 .tuple (.lc (.call 14 (.cons (.var 0) (.cons (.var 2) .nil))) (.nm 5) (.r1 (.var 1)) .no [5])))
  .nil)
  .nil)
  (.cons (.asg 6 (.lc (.bin .mod (.var 5) (.var 3)) (.nm 5) (.r1 (.var 1)) .no [5]))
  (.cons (.cond (.cmp .eq (.var 4) (.cst (.int 1)))
  (.cons (.sub 6 (.call 14 (.cons (.var 0) (.cons (.var 1) .nil))) (.call 14 (.cons (.var 0) (.cons (.cst (.int 5)) .nil))))
  .nil)
  .nil)
  (.cons (.cond (.cmp .eq (.var 4) (.cst (.int 2)))
  (.cons (.asg 6 (.bin .add (.sl (.var 6) .no (.so (.bin .fdiv (.var 1) (.cst (.int 2))))) (.lc (.bin .add (.var 7) (.cst (.int 2))) (.nm 7) (.val (.sl (.var 6) (.so (.bin .fdiv (.var 1) (.cst (.int 2)))) .no)) .no [7])))
  .nil)
  .nil)
  (.cons (.ret (.b1 .tuple (.var 6)))
  .nil)))))))⟩

/-- _law_bad -/
def d47 : Def := ⟨2, 1, [], (.cons (.loop (.nm 2) (.r1 (.bin .fdiv (.b1 .len (.var 0)) (.var 1)))
  (.cons (.cond (.cmp .lt (.b1 .lenset (.sl (.var 0) (.so (.bin .mul (.var 2) (.var 1))) (.so (.bin .add (.bin .mul (.var 2) (.var 1)) (.var 1))))) (.var 1))
  (.cons (.ret (.var 2))
  .nil)
  .nil)
  .nil))
  (.cons (.ret (.cst .none))
  .nil))⟩

/-- _law_told -/
def d48 : Def := ⟨2, 1, [], (.cons (.asg 2 (.lst .nil))
  (.cons (.tri (.cons (.exp (.call 44 (.cons (.var 0) (.cons (.var 1) .nil))))
  .nil)
  [(2, none, .app 2 (.str ⟨#[111, 114, 100, 101, 114]⟩)), (1, none, .app 2 (.str ⟨#[115, 105, 122, 101]⟩))])
  (.cons (.tri (.cons (.exp (.call 45 (.cons (.var 0) .nil)))
  .nil)
  [(2, none, .app 2 (.str ⟨#[111, 114, 100, 101, 114]⟩))])
  (.cons (.ret (.var 2))
  .nil))))⟩

/-- law -/
def d49 : Def := ⟨1, 12, [], (.cons (.asg 1 (.call 13 (.cons (.var 0) (.cons (.cst (.int 2405)) .nil))))
  (.cons (.loop (.nm 2) (.r1 (.cst (.int 3)))
  (.cons (.asg 3 (.bin .add (.cst (.int 1)) (.call 14 (.cons (.var 1) (.cons (.call 15 (.cons (.var 1) (.cons (.lst (.cons (.cst (.int 6)) (.cons (.cst (.int 12)) (.cons (.cst (.int 30)) (.cons (.cst (.int 100)) .nil))))) .nil))) .nil)))))
  (.cons (.par [6, 7] (.cons (.call 18 (.cons (.var 1) (.cons (.var 3) .nil))) (.cons (.lst .nil) .nil)))
  (.cons (.loop (.nm 4) (.r2 (.cst (.int 1)) (.bin .add (.var 3) (.cst (.int 1))))
  (.cons (.asg 8 (.call 47 (.cons (.lc (.bin .mod (.var 9) (.var 4)) (.nm 9) (.var 6) .no [9]) (.cons (.var 4) .nil))))
  (.cons (.asg 7 (.bin .add (.var 7) (.ite (.isN (.var 8)) (.lst .nil) (.lst (.cons (.var 4) .nil)))))
  (.cons (.cond (.not (.call 16 (.cons (.call 44 (.cons (.var 6) (.cons (.var 4) .nil))) (.cons (.var 8) .nil))))
  (.cons (.ret (.cst (.bool false)))
  .nil)
  .nil)
  .nil))))
  (.cons (.cond (.or (.not (.call 16 (.cons (.call 45 (.cons (.var 6) .nil)) (.cons (.var 7) .nil)))) (.not (.call 16 (.cons (.call 45 (.cons (.call 17 (.cons (.var 1) (.cons (.var 3) .nil))) .nil)) (.cons (.lst .nil) .nil)))))
  (.cons (.ret (.cst (.bool false)))
  .nil)
  .nil)
  (.cons (.loop (.nm 5) (.val (.lst (.cons (.cst .none) (.cons (.cst (.int 0)) (.cons (.bin .add (.var 3) (.cst (.int 1))) (.cons (.cst (.str ⟨#[49]⟩)) (.cons (.cst (.bool true)) .nil)))))))
  (.cons (.cond (.cmp .ne (.call 48 (.cons (.var 6) (.cons (.var 5) .nil))) (.lst (.cons (.cst (.str ⟨#[115, 105, 122, 101]⟩)) .nil)))
  (.cons (.ret (.cst (.bool false)))
  .nil)
  .nil)
  .nil))
  .nil))))))
  (.cons (.asg 10 (.call 45 (.cons (.tup (.cons (.cst (.int 0)) (.cons (.cst (.int 2)) (.cons (.cst (.int 1)) .nil)))) .nil)))
  (.cons (.exp (.app 10 (.cst (.int 9))))
  (.cons (.cond (.cmp .eq (.var 10) (.call 45 (.cons (.tup (.cons (.cst (.int 0)) (.cons (.cst (.int 2)) (.cons (.cst (.int 1)) .nil)))) .nil)))
  (.cons (.ret (.cst (.bool false)))
  .nil)
  .nil)
  (.cons (.asg 11 (.lst (.cons (.cst .none) (.cons (.cst (.int 3)) (.cons (.cst (.str ⟨#[48]⟩)) (.cons (.lst (.cons (.cst (.int 0)) .nil)) (.cons (.tup .nil) (.cons (.tup (.cons (.cst (.int 1)) .nil)) (.cons (.tup (.cons (.cst (.int 0)) (.cons (.cst (.int 0)) .nil))) (.cons (.tup (.cons (.neg (.cst (.int 1))) (.cons (.cst (.int 0)) .nil))) (.cons (.tup (.cons (.cst (.bool true)) (.cons (.cst (.int 0)) .nil))) (.cons (.dnew false) (.cons (.b1 .tuple (.rg1 true (.cst (.int 101)))) .nil)))))))))))))
  (.cons (.ret (.cmp .eq (.lc (.var 12) (.nm 12) (.var 11) (.so (.cmp .ne (.call 48 (.cons (.var 12) (.cons (.cst .none) .nil))) (.lst (.cons (.cst (.str ⟨#[111, 114, 100, 101, 114]⟩)) (.cons (.cst (.str ⟨#[111, 114, 100, 101, 114]⟩)) .nil))))) [12]) (.lst .nil)))
  .nil)))))))⟩

/-- check_pack -/
def d50 : Def := ⟨1, 2, [], (.cons (.cond (.or (.not (.b1 (.isi .tuple) (.var 0))) (.not (.chn .le .le (.cst (.int 1)) (.b1 .len (.var 0)) (.glo 2 (.int 24)))))
  (.cons .stuck
  .nil)
  .nil)
  (.cons (.loop (.tup [1, 2]) (.envar 0)
  (.cons (.cond (.not (.call 1 (.cons (.var 2) (.cons (.cst (.int 0)) (.cons (.glo 3 (.int 99)) .nil)))))
  (.cons .stuck
  .nil)
  .nil)
  .nil))
  .nil))⟩

/-- check_row_of -/
def d51 : Def := ⟨2, 0, [], (.cons (.cond (.or (.not (.call 6 (.cons (.var 1) .nil))) (.cmp .ne (.b1 .len (.var 1)) (.b1 .len (.var 0))))
  (.cons (.rais 3 .no)
  .nil)
  .nil)
  .nil)⟩

/-- laid_by -/
def d52 : Def := ⟨2, 1, [], (.cons (.ret (.b1 .tuple (.lc (.ix (.var 0) (.var 2)) (.nm 2) (.var 1) .no [2])))
  .nil)⟩

/-- laid -/
def d53 : Def := ⟨2, 0, [], (.cons (.exp (.call 50 (.cons (.var 0) .nil)))
  (.cons (.exp (.call 51 (.cons (.var 0) (.cons (.var 1) .nil))))
  (.cons (.ret (.call 52 (.cons (.var 0) (.cons (.var 1) .nil))))
  .nil)))⟩

/-- check_lots -/
def d54 : Def := ⟨2, 0, [], (.cons (.exp (.call 50 (.cons (.var 0) .nil)))
  (.cons (.exp (.call 25 (.cons (.var 1) (.cons (.cst (.int 1)) (.cons (.b1 .len (.var 0)) .nil)))))
  .nil))⟩

/-- comes_round -/
def d55 : Def := ⟨2, 1, [], (.cons (.exp (.call 54 (.cons (.var 0) (.cons (.var 1) .nil))))
  (.cons (.ret (.and (.not (.call 42 (.cons (.sl (.var 0) .no (.so (.var 1))) .nil))) (.b1 .all (.lc (.cmp .eq (.ix (.var 0) (.var 2)) (.ix (.var 0) (.bin .add (.var 2) (.var 1)))) (.nm 2) (.r1 (.bin .sub (.b1 .len (.var 0)) (.var 1))) .no [2]))))
  .nil))⟩

/-- breaking_of -/
def d56 : Def := ⟨2, 8, [], (.cons (.asg 2 (.b1 .len (.var 0)))
  (.cons (.loop (.nm 3) (.r3 (.cst (.int 0)) (.bin .add (.bin .sub (.var 2) (.var 1)) (.cst (.int 1))) (.var 1))
  (.cons (.loop (.nm 4) (.r1 (.bin .add (.bin .sub (.var 2) (.var 3)) (.cst (.int 1))))
  (.cons (.loop (.nm 5) (.r1 (.bin .add (.b2 .min (.var 4) (.var 1)) (.cst (.int 1))))
  (.cons (.asg 6 (.bin .sub (.bin .add (.bin .add (.var 4) (.var 3)) (.var 1)) (.var 5)))
  (.cons (.cond (.and (.cmp .le (.var 6) (.var 2)) (.call 42 (.cons (.bin .add (.sl (.var 0) (.so (.bin .sub (.var 4) (.var 5))) (.so (.var 4))) (.sl (.var 0) (.so (.bin .add (.var 4) (.var 3))) (.so (.var 6)))) .nil)))
  (.cons (.asg 7 (.bin .add (.rg2 true (.var 4) (.bin .add (.var 4) (.var 3))) (.rev (.rg2 true (.bin .sub (.var 4) (.var 5)) (.var 4)))))
  (.cons (.asg 8 (.bin .add (.bin .add (.rg2 true (.bin .add (.var 4) (.var 3)) (.var 6)) (.rev (.rg1 true (.bin .sub (.var 4) (.var 5))))) (.rg2 true (.var 6) (.var 2))))
  (.cons (.asg 9 (.b1 .tuple (.bin .add (.var 7) (.var 8))))
  (.cons (.ret (.tup (.cons (.var 9) (.cons (.call 43 (.cons (.call 52 (.cons (.var 0) (.cons (.var 9) .nil))) (.cons (.var 1) .nil))) .nil))))
  .nil))))
  .nil)
  .nil)))
  .nil))
  .nil))
  (.cons (.ret (.cst .none))
  .nil)))⟩

/-- holds -/
def d57 : Def := ⟨2, 0, [], (.cons (.exp (.call 54 (.cons (.var 0) (.cons (.var 1) .nil))))
  (.cons (.ret (.isN (.call 56 (.cons (.var 0) (.cons (.var 1) .nil)))))
  .nil))⟩

/-- breaking -/
def d58 : Def := ⟨2, 0, [], (.cons (.exp (.call 54 (.cons (.var 0) (.cons (.var 1) .nil))))
  (.cons (.ret (.call 56 (.cons (.var 0) (.cons (.var 1) .nil))))
  .nil))⟩

/-- does_break -/
def d59 : Def := ⟨3, 1, [], (.cons (.exp (.call 54 (.cons (.var 0) (.cons (.var 1) .nil))))
  (.cons (.cond (.or (.not (.b1 (.isi .tuple) (.var 2))) (.or (.cmp .ne (.b1 .len (.var 2)) (.cst (.int 2))) (.or (.not (.call 6 (.cons (.ix (.var 2) (.cst (.int 0))) .nil))) (.cmp .ne (.b1 .len (.ix (.var 2) (.cst (.int 0)))) (.b1 .len (.var 0))))))
  (.cons (.ret (.cst (.bool false)))
  .nil)
  .nil)
  (.cons (.asg 3 (.call 43 (.cons (.call 52 (.cons (.var 0) (.cons (.ix (.var 2) (.cst (.int 0))) .nil))) (.cons (.var 1) .nil))))
  (.cons (.ret (.and (.ntN (.var 3)) (.call 1 (.cons (.ix (.var 2) (.cst (.int 1))) (.cons (.var 3) (.cons (.var 3) .nil))))))
  .nil))))⟩

/-- _law_no_pack -/
def d60 : Def := ⟨1, 2, [], (.cons (.asg 1 (.call 15 (.cons (.var 0) (.cons (.lst (.cons (.cst .none) (.cons (.neg (.cst (.int 1))) (.cons (.cst (.int 100)) (.cons (.cst (.str ⟨#[48]⟩)) (.cons (.cst (.bool true)) (.cons (.tup (.cons (.cst (.int 0)) .nil)) .nil))))))) .nil))))
  (.cons (.asg 2 (.lst (.cons (.tup (.cons (.cst .none) (.cons (.cst .none) .nil))) (.cons (.tup (.cons (.lst (.cons (.cst (.int 1)) .nil)) (.cons (.cst .none) .nil))) (.cons (.tup (.cons (.tup .nil) (.cons (.cst .none) .nil))) (.cons (.tup (.cons (.cst (.str ⟨#[49]⟩)) (.cons (.cst .none) .nil))) (.cons (.tup (.cons (.cst (.int 3)) (.cons (.cst .none) .nil))) (.cons (.tup (.cons (.dnew false) (.cons (.cst .none) .nil))) (.cons (.tup (.cons (.bin .mul (.tup (.cons (.cst (.int 0)) .nil)) (.cst (.int 25))) (.cons (.cst .none) .nil))) .nil)))))))))
  (.cons (.ret (.call 15 (.cons (.var 0) (.cons (.bin .add (.var 2) (.lst (.cons (.tup (.cons (.tup (.cons (.var 1) .nil)) (.cons (.cst (.int 0)) .nil))) (.cons (.tup (.cons (.tup (.cons (.cst (.int 0)) (.cons (.var 1) .nil))) (.cons (.cst (.int 1)) .nil))) (.cons (.tup (.cons (.tup (.cons (.cst (.int 99)) (.cons (.cst (.int 0)) (.cons (.var 1) (.cons (.cst .none) .nil))))) (.cons (.cst (.int 2)) .nil))) .nil))))) .nil))))
  .nil)))⟩

/-- _law_told -/
def d61 : Def := ⟨3, 2, [], (.cons (.asg 3 (.cst (.str ⟨#[]⟩)))
  (.cons (.tri (.cons (.cond (.cmp .eq (.var 0) (.cst (.str ⟨#[108, 97, 105, 100]⟩)))
  (.cons (.exp (.call 53 (.cons (.var 1) (.cons (.var 2) .nil))))
  .nil)
  (.cons (.cond (.cmp .eq (.var 0) (.cst (.str ⟨#[114, 111, 117, 110, 100]⟩)))
  (.cons (.exp (.call 55 (.cons (.var 1) (.cons (.var 2) .nil))))
  .nil)
  (.cons (.cond (.cmp .eq (.var 0) (.cst (.str ⟨#[104, 111, 108, 100, 115]⟩)))
  (.cons (.exp (.call 57 (.cons (.var 1) (.cons (.var 2) .nil))))
  .nil)
  (.cons (.cond (.cmp .eq (.var 0) (.cst (.str ⟨#[98, 114, 101, 97, 107, 105, 110, 103]⟩)))
  (.cons (.exp (.call 58 (.cons (.var 1) (.cons (.var 2) .nil))))
  .nil)
  (.cons (.exp (.call 59 (.cons (.var 1) (.cons (.var 2) (.cons (.cst .none) .nil)))))
  .nil))
  .nil))
  .nil))
  .nil))
  .nil)
  [(7, some 4, .setF 3 (.str ⟨#[112, 97, 99, 107]⟩) 4), (3, none, .set 3 (.str ⟨#[114, 111, 119]⟩)), (1, none, .set 3 (.str ⟨#[115, 105, 122, 101]⟩))])
  (.cons (.ret (.var 3))
  .nil)))⟩

/-- law -/
def d62 : Def := ⟨1, 13, [], (.cons (.asg 1 (.call 13 (.cons (.var 0) (.cons (.cst (.int 2406)) .nil))))
  (.cons (.asg 2 (.lst (.cons (.cst (.str ⟨#[114, 111, 117, 110, 100]⟩)) (.cons (.cst (.str ⟨#[104, 111, 108, 100, 115]⟩)) (.cons (.cst (.str ⟨#[98, 114, 101, 97, 107, 105, 110, 103]⟩)) (.cons (.cst (.str ⟨#[100, 111, 101, 115]⟩)) .nil))))))
  (.cons (.loop (.nm 3) (.r1 (.cst (.int 3)))
  (.cons (.asg 4 (.bin .add (.cst (.int 1)) (.call 14 (.cons (.var 1) (.cons (.call 15 (.cons (.var 1) (.cons (.lst (.cons (.cst (.int 5)) (.cons (.cst (.int 12)) (.cons (.cst (.int 24)) .nil)))) .nil))) .nil)))))
  (.cons (.par [7, 8] (.cons (.call 46 (.cons (.var 1) (.cons (.var 4) .nil))) (.cons (.call 17 (.cons (.var 1) (.cons (.var 4) .nil))) .nil)))
  (.cons (.cond (.not (.call 16 (.cons (.call 53 (.cons (.var 7) (.cons (.var 8) .nil))) (.cons (.b1 .tuple (.lc (.ix (.var 7) (.var 13)) (.nm 13) (.var 8) .no [13])) .nil))))
  (.cons (.ret (.cst (.bool false)))
  .nil)
  .nil)
  (.cons (.loop (.nm 5) (.r2 (.cst (.int 1)) (.bin .add (.var 4) (.cst (.int 1))))
  (.cons (.asg 9 (.and (.cmp .eq (.b1 .lenset (.sl (.var 7) .no (.so (.var 5)))) (.var 5)) (.cmp .eq (.sl (.var 7) (.so (.var 5)) .no) (.sl (.var 7) .no (.so (.bin .sub (.var 4) (.var 5)))))))
  (.cons (.cond (.not (.call 16 (.cons (.call 55 (.cons (.var 7) (.cons (.var 5) .nil))) (.cons (.var 9) .nil))))
  (.cons (.ret (.cst (.bool false)))
  .nil)
  .nil)
  .nil)))
  (.cons (.cond (.or (.cmp .ne (.call 61 (.cons (.cst (.str ⟨#[108, 97, 105, 100]⟩)) (.cons (.var 7) (.cons (.call 20 (.cons (.var 1) .nil)) .nil)))) (.cst (.str ⟨#[114, 111, 119]⟩))) (.cmp .ne (.call 61 (.cons (.cst (.str ⟨#[108, 97, 105, 100]⟩)) (.cons (.var 7) (.cons (.call 17 (.cons (.var 1) (.cons (.bin .add (.var 4) (.cst (.int 1))) .nil))) .nil)))) (.cst (.str ⟨#[114, 111, 119]⟩))))
  (.cons (.ret (.cst (.bool false)))
  .nil)
  .nil)
  (.cons (.loop (.nm 6) (.val (.lst (.cons (.cst .none) (.cons (.cst (.int 0)) (.cons (.bin .add (.var 4) (.cst (.int 1))) (.cons (.cst (.str ⟨#[49]⟩)) (.cons (.cst (.bool true)) .nil)))))))
  (.cons (.cond (.cmp .ne (.lc (.var 12) (.nm 12) (.var 2) (.so (.cmp .ne (.call 61 (.cons (.var 12) (.cons (.var 7) (.cons (.var 6) .nil)))) (.cst (.str ⟨#[115, 105, 122, 101]⟩)))) [12]) (.lst .nil))
  (.cons (.ret (.cst (.bool false)))
  .nil)
  .nil)
  .nil))
  (.cons (.unp [10, 11] (.call 60 (.cons (.var 1) .nil)))
  (.cons (.cond (.cmp .ne (.lc (.var 12) (.nm 12) (.val (.bin .add (.var 2) (.lst (.cons (.cst (.str ⟨#[108, 97, 105, 100]⟩)) .nil)))) (.so (.cmp .ne (.call 61 (.cons (.var 12) (.cons (.var 10) (.cons (.cst .none) .nil)))) (.tup (.cons (.cst (.str ⟨#[112, 97, 99, 107]⟩)) (.cons (.var 11) .nil))))) [12]) (.lst .nil))
  (.cons (.ret (.cst (.bool false)))
  .nil)
  .nil)
  .nil)))))))))
  (.cons (.ret (.cst (.bool true)))
  .nil))))⟩

/-- _law_breaks -/
def d63 : Def := ⟨3, 4, [], (.cons (.asg 3 (.lst .nil))
  (.cons (.loop (.nm 4) (.var 2)
  (.cons (.asg 5 (.call 47 (.cons (.lc (.ix (.var 0) (.var 6)) (.nm 6) (.var 4) .no [6]) (.cons (.var 1) .nil))))
  (.cons (.cond (.ntN (.var 5))
  (.cons (.exp (.app 3 (.tup (.cons (.var 4) (.cons (.var 5) .nil)))))
  .nil)
  .nil)
  .nil)))
  (.cons (.ret (.var 3))
  .nil)))⟩

/-- _law_long_right -/
def d64 : Def := ⟨1, 13, [], (.cons (.asg 1 (.bin .add (.cst (.int 9)) (.call 14 (.cons (.var 0) (.cons (.cst (.int 16)) .nil)))))
  (.cons (.par [2, 3] (.cons (.bin .add (.cst (.int 1)) (.call 14 (.cons (.var 0) (.cons (.var 1) .nil)))) (.cons (.call 15 (.cons (.var 0) (.cons (.lst (.cons (.cst (.int 2)) (.cons (.cst (.int 4)) (.cons (.cst (.int 9)) (.cons (.var 1) (.cons (.var 1) .nil)))))) .nil))) .nil)))
  (.cons (.asg 4 (.b1 .tuple (.lc (.bin .mod (.bin .add (.var 5) (.call 15 (.cons (.var 0) (.cons (.lst (.cons (.cst (.int 0)) (.cons (.cst (.int 0)) (.cons (.cst (.int 0)) (.cons (.cst (.int 0)) (.cons (.cst (.int 0)) (.cons (.cst (.int 1)) .nil))))))) .nil)))) (.var 3)) (.nm 5) (.r1 (.var 1)) .no [5])))
  (.cons (.asg 6 (.lst .nil))
  (.cons (.loop (.nm 5) (.r1 (.var 1))
  (.cons (.asg 6 (.bin .add (.var 6) (.lc (.bin .sub (.var 7) (.var 5)) (.nm 7) (.r2 (.bin .add (.var 5) (.cst (.int 1))) (.var 1)) (.so (.cmp .eq (.ix (.var 4) (.var 7)) (.ix (.var 4) (.var 5)))) [7])))
  .nil))
  (.cons (.asg 8 (.cmp .eq (.lc (.var 9) (.nm 9) (.var 6) (.so (.and (.cmp .ne (.bin .mod (.var 9) (.var 2)) (.cst (.int 0))) (.cmp .le (.bin .mul (.bin .add (.bin .fdiv (.var 9) (.var 2)) (.cst (.int 1))) (.var 2)) (.var 1)))) [9]) (.lst .nil)))
  (.cons (.asg 10 (.call 58 (.cons (.var 4) (.cons (.var 2) .nil))))
  (.cons (.cond (.or (.not (.call 16 (.cons (.call 57 (.cons (.var 4) (.cons (.var 2) .nil))) (.cons (.var 8) .nil)))) (.cmp .ne (.isN (.var 10)) (.var 8)))
  (.cons (.ret (.cst (.bool false)))
  .nil)
  .nil)
  (.cons (.cond (.ntN (.var 10))
  (.cons (.unp [11, 12] (.var 10))
  (.cons (.cond (.or (.cmp .ne (.b1 .sorted (.var 11)) (.rg1 true (.var 1))) (.cmp .ne (.call 47 (.cons (.lc (.ix (.var 4) (.var 13)) (.nm 13) (.var 11) .no [13]) (.cons (.var 2) .nil))) (.var 12)))
  (.cons (.ret (.cst (.bool false)))
  .nil)
  .nil)
  (.cons (.loop (.nm 5) (.r2 (.cst (.int 1)) (.var 1))
  (.cons (.cond (.cmp .ne (.bin .sub (.b1 .max (.sl (.var 11) .no (.so (.var 5)))) (.b1 .min (.sl (.var 11) .no (.so (.var 5))))) (.bin .sub (.var 5) (.cst (.int 1))))
  (.cons (.ret (.cst (.bool false)))
  .nil)
  .nil)
  .nil))
  (.cons (.cond (.or (.not (.call 59 (.cons (.var 4) (.cons (.var 2) (.cons (.var 10) .nil))))) (.call 59 (.cons (.var 4) (.cons (.var 2) (.cons (.tup (.cons (.var 11) (.cons (.bin .add (.var 12) (.cst (.int 1))) .nil))) .nil)))))
  (.cons (.ret (.cst (.bool false)))
  .nil)
  .nil)
  .nil))))
  .nil)
  (.cons (.asg 11 (.call 17 (.cons (.var 0) (.cons (.var 1) .nil))))
  (.cons (.asg 12 (.call 47 (.cons (.lc (.ix (.var 4) (.var 13)) (.nm 13) (.var 11) .no [13]) (.cons (.var 2) .nil))))
  (.cons (.ret (.cmp .eq (.call 59 (.cons (.var 4) (.cons (.var 2) (.cons (.tup (.cons (.var 11) (.cons (.ite (.isN (.var 12)) (.cst (.int 0)) (.var 12)) .nil))) .nil)))) (.ntN (.var 12))))
  .nil))))))))))))⟩

/-- law -/
def d65 : Def := ⟨1, 14, [], (.cons (.asg 1 (.call 13 (.cons (.var 0) (.cons (.cst (.int 2407)) .nil))))
  (.cons (.asg 2 (.bin .add (.cst (.int 1)) (.call 14 (.cons (.var 1) (.cons (.cst (.int 8)) .nil)))))
  (.cons (.par [3, 4] (.cons (.call 46 (.cons (.var 1) (.cons (.var 2) .nil))) (.cons (.call 19 (.cons (.var 2) .nil)) .nil)))
  (.cons (.loop (.nm 5) (.r2 (.cst (.int 1)) (.bin .add (.var 2) (.cst (.int 1))))
  (.cons (.asg 6 (.call 63 (.cons (.var 3) (.cons (.var 5) (.cons (.var 4) .nil)))))
  (.cons (.cond (.not (.call 16 (.cons (.call 57 (.cons (.var 3) (.cons (.var 5) .nil))) (.cons (.cmp .eq (.var 6) (.lst .nil)) .nil))))
  (.cons (.ret (.cst (.bool false)))
  .nil)
  .nil)
  (.cons (.asg 7 (.call 58 (.cons (.var 3) (.cons (.var 5) .nil))))
  (.cons (.cond (.or (.cmp .ne (.isN (.var 7)) (.cmp .eq (.var 6) (.lst .nil))) (.and (.ntN (.var 7)) (.not (.call 59 (.cons (.var 3) (.cons (.var 5) (.cons (.var 7) .nil)))))))
  (.cons (.ret (.cst (.bool false)))
  .nil)
  .nil)
  (.cons (.cond (.and (.ntN (.var 7)) (.cmp .nin (.var 7) (.var 6)))
  (.cons (.ret (.cst (.bool false)))
  .nil)
  .nil)
  (.cons (.cond (.and (.call 55 (.cons (.var 3) (.cons (.var 5) .nil))) (.not (.call 57 (.cons (.var 3) (.cons (.var 5) .nil)))))
  (.cons (.ret (.cst (.bool false)))
  .nil)
  .nil)
  (.cons (.asg 8 (.call 15 (.cons (.var 1) (.cons (.var 4) .nil))))
  (.cons (.asg 9 (.call 47 (.cons (.lc (.ix (.var 3) (.var 13)) (.nm 13) (.var 8) .no [13]) (.cons (.var 5) .nil))))
  (.cons (.asg 10 (.lst (.cons (.tup (.cons (.var 8) (.cons (.cst (.int 0)) .nil))) (.cons (.tup (.cons (.var 8) (.cons (.cst (.int 1)) .nil))) (.cons (.tup (.cons (.var 8) (.cons (.cst .none) .nil))) (.cons (.tup (.cons (.b1 .list (.var 8)) (.cons (.var 9) .nil))) (.cons (.tup (.cons (.var 8) (.cons (.cst (.bool false)) .nil))) (.cons (.var 8) (.cons (.cst .none) (.cons (.tup (.cons (.var 8) .nil)) (.cons (.tup (.cons (.sl (.var 8) (.so (.cst (.int 1))) .no) (.cons (.cst (.int 0)) .nil))) .nil)))))))))))
  (.cons (.loop (.nm 11) (.var 10)
  (.cons (.asg 12 (.and (.b1 (.isi .tuple) (.var 11)) (.and (.cmp .eq (.b1 .len (.var 11)) (.cst (.int 2))) (.call 16 (.cons (.var 11) (.cons (.tup (.cons (.var 8) (.cons (.var 9) .nil))) .nil))))))
  (.cons (.cond (.not (.call 16 (.cons (.call 59 (.cons (.var 3) (.cons (.var 5) (.cons (.var 11) .nil)))) (.cons (.and (.var 12) (.ntN (.var 9))) .nil))))
  (.cons (.ret (.cst (.bool false)))
  .nil)
  .nil)
  .nil)))
  .nil)))))))))))
  (.cons (.cond (.not (.call 64 (.cons (.var 1) .nil)))
  (.cons (.ret (.cst (.bool false)))
  .nil)
  .nil)
  (.cons (.par [5, 2] (.cons (.bin .add (.cst (.int 1)) (.call 14 (.cons (.var 1) (.cons (.cst (.int 6)) .nil)))) (.cons (.bin .add (.cst (.int 6)) (.call 14 (.cons (.var 1) (.cons (.cst (.int 19)) .nil)))) .nil)))
  (.cons (.ret (.cmp .eq (.call 57 (.cons (.b1 .tuple (.lc (.bin .mod (.bin .add (.bin .mul (.cst (.int 3)) (.var 14)) (.cst (.int 1))) (.var 5)) (.nm 14) (.r1 (.var 2)) .no [14])) (.cons (.var 5) .nil))) (.or (.cmp .ne (.bin .mod (.var 5) (.cst (.int 3))) (.cst (.int 0))) (.cmp .eq (.var 5) (.cst (.int 1))))))
  .nil)))))))⟩

/-- check_told -/
def d66 : Def := ⟨2, 1, [], (.cons (.cond (.or (.not (.b1 (.isi .tuple) (.var 1))) (.cmp .ne (.b1 .len (.var 1)) (.b1 .len (.var 0))))
  (.cons (.rais 8 .no)
  .nil)
  .nil)
  (.cons (.cond (.not (.b1 .all (.lc (.or (.isN (.var 2)) (.call 1 (.cons (.var 2) (.cons (.cst (.int 0)) (.cons (.glo 3 (.int 99)) .nil))))) (.nm 2) (.var 1) .no [2])))
  (.cons (.rais 8 .no)
  .nil)
  .nil)
  .nil))⟩

/-- fits -/
def d67 : Def := ⟨4, 0, [], (.cons (.ret (.or (.isN (.ix (.var 1) (.var 2))) (.cmp .eq (.ix (.var 1) (.var 2)) (.ix (.var 0) (.var 3)))))
  .nil)⟩

/-- steps -/
def d68 : Def := ⟨4, 2, [], (.cons (.par [4, 5] (.cons (.bin .add (.bin .sub (.var 3) (.var 2)) (.cst (.int 1))) (.cons (.lst .nil) .nil)))
  (.cons (.cond (.and (.cmp .gt (.var 2) (.cst (.int 0))) (.call 67 (.cons (.var 0) (.cons (.var 1) (.cons (.var 4) (.cons (.bin .sub (.var 2) (.cst (.int 1))) .nil))))))
  (.cons (.exp (.app 5 (.tup (.cons (.bin .sub (.var 2) (.cst (.int 1))) (.cons (.bin .sub (.var 2) (.cst (.int 1))) (.cons (.var 3) .nil))))))
  .nil)
  .nil)
  (.cons (.cond (.and (.cmp .lt (.var 3) (.bin .sub (.b1 .len (.var 0)) (.cst (.int 1)))) (.call 67 (.cons (.var 0) (.cons (.var 1) (.cons (.var 4) (.cons (.bin .add (.var 3) (.cst (.int 1))) .nil))))))
  (.cons (.exp (.app 5 (.tup (.cons (.bin .add (.var 3) (.cst (.int 1))) (.cons (.var 2) (.cons (.bin .add (.var 3) (.cst (.int 1))) .nil))))))
  .nil)
  .nil)
  (.cons (.ret (.var 5))
  .nil))))⟩

/-- table_of -/
def d69 : Def := ⟨2, 8, [], (.cons (.par [2, 3] (.cons (.b1 .len (.var 0)) (.cons (.dsp (.tup (.cons (.cst (.int 0)) (.cons (.bin .sub (.b1 .len (.var 0)) (.cst (.int 1))) .nil))) (.cst (.int 1))) .nil)))
  (.cons (.loop (.nm 4) (.val (.rev (.rg2 true (.cst (.int 1)) (.var 2))))
  (.cons (.loop (.nm 5) (.r1 (.bin .add (.bin .sub (.var 2) (.var 4)) (.cst (.int 1))))
  (.cons (.asg 6 (.bin .sub (.bin .add (.var 5) (.var 4)) (.cst (.int 1))))
  (.cons (.sub 3 (.tup (.cons (.var 5) (.cons (.var 6) .nil))) (.b1 .sum (.lc (.ix (.var 3) (.tup (.cons (.var 8) (.cons (.var 9) .nil)))) (.tup [7, 8, 9]) (.val (.call 68 (.cons (.var 0) (.cons (.var 1) (.cons (.var 5) (.cons (.var 6) .nil)))))) .no [7, 8, 9])))
  .nil)))
  .nil))
  (.cons (.ret (.var 3))
  .nil)))⟩

/-- count_fit -/
def d70 : Def := ⟨2, 2, [], (.cons (.exp (.call 50 (.cons (.var 0) .nil)))
  (.cons (.exp (.call 66 (.cons (.var 0) (.cons (.var 1) .nil))))
  (.cons (.asg 2 (.call 69 (.cons (.var 0) (.cons (.var 1) .nil))))
  (.cons (.ret (.b1 .sum (.lc (.ix (.var 2) (.tup (.cons (.var 3) (.cons (.var 3) .nil)))) (.nm 3) (.r1 (.b1 .len (.var 0))) (.so (.call 67 (.cons (.var 0) (.cons (.var 1) (.cons (.cst (.int 0)) (.cons (.var 3) .nil)))))) [3])))
  .nil))))⟩

/-- least_fit -/
def d71 : Def := ⟨2, 8, [], (.cons (.exp (.call 50 (.cons (.var 0) .nil)))
  (.cons (.exp (.call 66 (.cons (.var 0) (.cons (.var 1) .nil))))
  (.cons (.asg 2 (.call 69 (.cons (.var 0) (.cons (.var 1) .nil))))
  (.cons (.asg 3 (.lc (.var 4) (.nm 4) (.r1 (.b1 .len (.var 0))) (.so (.and (.call 67 (.cons (.var 0) (.cons (.var 1) (.cons (.cst (.int 0)) (.cons (.var 4) .nil))))) (.cmp .gt (.ix (.var 2) (.tup (.cons (.var 4) (.cons (.var 4) .nil)))) (.cst (.int 0))))) [4]))
  (.cons (.cond (.cmp .eq (.b1 .len (.var 3)) (.cst (.int 0)))
  (.cons (.ret (.cst .none))
  .nil)
  .nil)
  (.cons (.par [5, 6, 7] (.cons (.lst (.cons (.ix (.var 3) (.cst (.int 0))) .nil)) (.cons (.ix (.var 3) (.cst (.int 0))) (.cons (.ix (.var 3) (.cst (.int 0))) .nil))))
  (.cons (.whil (.cmp .lt (.b1 .len (.var 5)) (.b1 .len (.var 0)))
  (.cons (.asg 8 (.lc (.var 9) (.nm 9) (.val (.call 68 (.cons (.var 0) (.cons (.var 1) (.cons (.var 6) (.cons (.var 7) .nil)))))) (.so (.cmp .gt (.ix (.var 2) (.tup (.cons (.ix (.var 9) (.cst (.int 1))) (.cons (.ix (.var 9) (.cst (.int 2))) .nil)))) (.cst (.int 0)))) [9]))
  (.cons (.unp [4, 6, 7] (.ix (.var 8) (.cst (.int 0))))
  (.cons (.exp (.app 5 (.var 4)))
  .nil))))
  (.cons (.ret (.b1 .tuple (.var 5)))
  .nil))))))))⟩

/-- open_cards -/
def d72 : Def := ⟨3, 12, [], (.cons (.exp (.call 50 (.cons (.var 0) .nil)))
  (.cons (.exp (.call 66 (.cons (.var 0) (.cons (.var 1) .nil))))
  (.cons (.cond (.not (.call 1 (.cons (.var 2) (.cons (.cst (.int 0)) (.cons (.bin .sub (.b1 .len (.var 0)) (.cst (.int 1))) .nil)))))
  (.cons (.rais 9 .no)
  .nil)
  .nil)
  (.cons (.asg 3 (.call 69 (.cons (.var 0) (.cons (.var 1) .nil))))
  (.cons (.asg 4 (.dc (.var 5) (.tup (.cons (.var 5) (.cons (.var 5) .nil))) (.nm 5) (.r1 (.b1 .len (.var 0))) (.so (.and (.call 67 (.cons (.var 0) (.cons (.var 1) (.cons (.cst (.int 0)) (.cons (.var 5) .nil))))) (.cmp .gt (.ix (.var 3) (.tup (.cons (.var 5) (.cons (.var 5) .nil)))) (.cst (.int 0))))) [5]))
  (.cons (.par [6, 7] (.cons (.b1 .sorted (.dvals 4)) (.cons (.b1 .sorted (.b1 .list (.var 4))) .nil)))
  (.cons (.loop (.nm 8) (.r1 (.var 2))
  (.cons (.par [9, 10] (.cons (.dnew true) (.cons (.dnew false) .nil)))
  (.cons (.loop (.tup [11, 12]) (.var 6)
  (.cons (.loop (.tup [5, 13, 14]) (.val (.call 68 (.cons (.var 0) (.cons (.var 1) (.cons (.var 11) (.cons (.var 12) .nil))))))
  (.cons (.cond (.cmp .gt (.ix (.var 3) (.tup (.cons (.var 13) (.cons (.var 14) .nil)))) (.cst (.int 0)))
  (.cons (.sub 9 (.tup (.cons (.var 13) (.cons (.var 14) .nil))) (.cst (.bool true)))
  (.cons (.sub 10 (.var 5) (.cst (.bool true)))
  .nil))
  .nil)
  .nil))
  .nil))
  (.cons (.par [6, 7] (.cons (.b1 .sorted (.b1 .list (.var 9))) (.cons (.b1 .sorted (.b1 .list (.var 10))) .nil)))
  .nil))))
  (.cons (.ret (.var 7))
  .nil))))))))⟩

/-- _law_steps -/
def d74 : Def := ⟨4, 4, [], (.cons (.unp [4, 5] (.var 3))
  (.cons (.asg 6 (.ite (.cmp .gt (.var 4) (.cst (.int 0))) (.lst (.cons (.tup (.cons (.bin .sub (.var 4) (.cst (.int 1))) (.cons (.bin .sub (.var 4) (.cst (.int 1))) (.cons (.var 5) .nil)))) .nil)) (.lst .nil)))
  (.cons (.asg 6 (.bin .add (.var 6) (.ite (.cmp .lt (.var 5) (.bin .sub (.b1 .len (.var 0)) (.cst (.int 1)))) (.lst (.cons (.tup (.cons (.bin .add (.var 5) (.cst (.int 1))) (.cons (.var 4) (.cons (.bin .add (.var 5) (.cst (.int 1))) .nil)))) .nil)) (.lst .nil))))
  (.cons (.ret (.lc (.tup (.cons (.ix (.var 7) (.cst (.int 1))) (.cons (.ix (.var 7) (.cst (.int 2))) .nil))) (.nm 7) (.var 6) (.so (.or (.isN (.ix (.var 1) (.var 2))) (.cmp .eq (.ix (.var 1) (.var 2)) (.ix (.var 0) (.ix (.var 7) (.cst (.int 0))))))) [7]))
  .nil))))⟩

/-- _law_told -/
def d77 : Def := ⟨4, 2, [], (.cons (.asg 4 (.cst (.str ⟨#[]⟩)))
  (.cons (.tri (.cons (.cond (.cmp .eq (.var 0) (.cst (.str ⟨#[99, 111, 117, 110, 116]⟩)))
  (.cons (.exp (.call 70 (.cons (.var 1) (.cons (.var 2) .nil))))
  .nil)
  (.cons (.cond (.cmp .eq (.var 0) (.cst (.str ⟨#[108, 101, 97, 115, 116]⟩)))
  (.cons (.exp (.call 71 (.cons (.var 1) (.cons (.var 2) .nil))))
  .nil)
  (.cons (.exp (.call 72 (.cons (.var 1) (.cons (.var 2) (.cons (.var 3) .nil)))))
  .nil))
  .nil))
  .nil)
  [(7, some 5, .setF 4 (.str ⟨#[112, 97, 99, 107]⟩) 5), (8, none, .set 4 (.str ⟨#[116, 111, 108, 100]⟩)), (9, none, .set 4 (.str ⟨#[112, 108, 97, 99, 101]⟩))])
  (.cons (.ret (.var 4))
  .nil)))⟩

/-- _law_fits -/
def d78 : Def := ⟨3, 1, [], (.cons (.ret (.cmp .eq (.lc (.var 3) (.nm 3) (.r1 (.b1 .len (.var 2))) (.so (.and (.ntN (.ix (.var 1) (.var 3))) (.cmp .ne (.ix (.var 1) (.var 3)) (.ix (.var 0) (.ix (.var 2) (.var 3)))))) [3]) (.lst .nil)))
  .nil)⟩

/-- law -/
def d80 : Def := ⟨1, 18, [], (.cons (.asg 1 (.call 13 (.cons (.var 0) (.cons (.cst (.int 2408)) .nil))))
  (.cons (.asg 2 (.bin .add (.cst (.int 1)) (.call 14 (.cons (.var 1) (.cons (.cst (.int 8)) .nil)))))
  (.cons (.asg 3 (.call 19 (.cons (.var 2) .nil)))
  (.cons (.loop (.nm 4) (.r1 (.cst (.int 3)))
  (.cons (.par [12, 13] (.cons (.call 46 (.cons (.var 1) (.cons (.var 2) .nil))) (.cons (.call 15 (.cons (.var 1) (.cons (.var 3) .nil))) .nil)))
  (.cons (.asg 5 (.lc (.ite (.cmp .eq (.call 14 (.cons (.var 1) (.cons (.cst (.int 2)) .nil))) (.cst (.int 0))) (.ix (.var 12) (.var 16)) (.cst .none)) (.nm 16) (.var 13) .no [16]))
  (.cons (.cond (.cmp .eq (.call 14 (.cons (.var 1) (.cons (.cst (.int 3)) .nil))) (.cst (.int 0)))
  (.cons (.sub 5 (.call 14 (.cons (.var 1) (.cons (.var 2) .nil))) (.call 14 (.cons (.var 1) (.cons (.cst (.int 4)) .nil))))
  .nil)
  .nil)
  (.cons (.asg 5 (.b1 .tuple (.var 5)))
  (.cons (.asg 6 (.lc (.var 17) (.nm 17) (.var 3) (.so (.call 78 (.cons (.var 12) (.cons (.var 5) (.cons (.var 17) .nil))))) [17]))
  (.cons (.cond (.not (.call 16 (.cons (.call 70 (.cons (.var 12) (.cons (.var 5) .nil))) (.cons (.b1 .len (.var 6)) .nil))))
  (.cons (.ret (.cst (.bool false)))
  .nil)
  .nil)
  (.cons (.cond (.not (.call 16 (.cons (.call 71 (.cons (.var 12) (.cons (.var 5) .nil))) (.cons (.ite (.cmp .ne (.var 6) (.lst .nil)) (.ix (.var 6) (.cst (.int 0))) (.cst .none)) .nil))))
  (.cons (.ret (.cst (.bool false)))
  .nil)
  .nil)
  (.cons (.loop (.nm 7) (.r1 (.var 2))
  (.cons (.cond (.not (.call 16 (.cons (.call 72 (.cons (.var 12) (.cons (.var 5) (.cons (.var 7) .nil)))) (.cons (.b1 .sortset (.lc (.ix (.var 17) (.var 7)) (.nm 17) (.var 6) .no [17])) .nil))))
  (.cons (.ret (.cst (.bool false)))
  .nil)
  .nil)
  .nil))
  (.cons (.asg 8 (.lst (.cons (.cst (.str ⟨#[99, 111, 117, 110, 116]⟩)) (.cons (.cst (.str ⟨#[108, 101, 97, 115, 116]⟩)) (.cons (.cst (.str ⟨#[111, 112, 101, 110]⟩)) .nil)))))
  (.cons (.asg 9 (.bin .mul (.tup (.cons (.cst .none) .nil)) (.bin .sub (.var 2) (.cst (.int 1)))))
  (.cons (.asg 10 (.lst (.cons (.bin .add (.var 9) (.tup (.cons (.cst (.int 100)) .nil))) (.cons (.bin .add (.tup (.cons (.cst (.str ⟨#[48]⟩)) .nil)) (.var 9)) (.cons (.bin .add (.var 9) (.tup (.cons (.cst (.bool true)) .nil))) (.cons (.bin .add (.var 9) (.tup (.cons (.neg (.cst (.int 1))) .nil))) (.cons (.bin .add (.var 9) (.tup (.cons (.tup (.cons (.cst (.int 0)) .nil)) .nil))) .nil)))))))
  (.cons (.loop (.nm 11) (.val (.bin .add (.var 10) (.lst (.cons (.cst .none) (.cons (.b1 .list (.var 5)) (.cons (.bin .add (.var 5) (.tup (.cons (.cst .none) .nil))) (.cons (.sl (.var 5) (.so (.cst (.int 1))) .no) (.cons (.bin .mul (.tup (.cons (.cst (.int 100)) .nil)) (.var 2)) (.cons (.bin .mul (.tup (.cons (.cst (.bool true)) .nil)) (.var 2)) (.cons (.bin .mul (.tup (.cons (.neg (.cst (.int 1))) .nil)) (.var 2)) .nil))))))))))
  (.cons (.cond (.cmp .ne (.lc (.var 18) (.nm 18) (.var 8) (.so (.cmp .ne (.call 77 (.cons (.var 18) (.cons (.var 12) (.cons (.var 11) (.cons (.cst .none) .nil))))) (.cst (.str ⟨#[116, 111, 108, 100]⟩)))) [18]) (.lst .nil))
  (.cons (.ret (.cst (.bool false)))
  .nil)
  .nil)
  .nil))
  (.cons (.loop (.nm 11) (.val (.lst (.cons (.cst .none) (.cons (.neg (.cst (.int 1))) (.cons (.var 2) (.cons (.cst (.str ⟨#[48]⟩)) (.cons (.cst (.bool true)) .nil)))))))
  (.cons (.cond (.cmp .ne (.call 77 (.cons (.cst (.str ⟨#[111, 112, 101, 110]⟩)) (.cons (.var 12) (.cons (.var 5) (.cons (.var 11) .nil))))) (.cst (.str ⟨#[112, 108, 97, 99, 101]⟩)))
  (.cons (.ret (.cst (.bool false)))
  .nil)
  .nil)
  .nil))
  (.cons (.unp [14, 15] (.call 60 (.cons (.var 1) .nil)))
  (.cons (.cond (.cmp .ne (.lc (.var 18) (.nm 18) (.var 8) (.so (.cmp .ne (.call 77 (.cons (.var 18) (.cons (.var 14) (.cons (.cst .none) (.cons (.cst .none) .nil))))) (.tup (.cons (.cst (.str ⟨#[112, 97, 99, 107]⟩)) (.cons (.var 15) .nil))))) [18]) (.lst .nil))
  (.cons (.ret (.cst (.bool false)))
  .nil)
  .nil)
  .nil))))))))))))))))
  (.cons (.cond (.not (.call 79 (.cons (.var 1) .nil)))
  (.cons (.ret (.cst (.bool false)))
  .nil)
  .nil)
  (.cons (.ret (.cmp .eq (.call 70 (.cons (.bin .mul (.tup (.cons (.cst (.int 0)) .nil)) (.cst (.int 24))) (.cons (.bin .mul (.tup (.cons (.cst .none) .nil)) (.cst (.int 24))) .nil))) (.cst (.int 8388608))))
  .nil))))))⟩

/-- check_card -/
def d81 : Def := ⟨2, 0, [], (.cons (.exp (.call 25 (.cons (.var 0) (.cons (.cst (.int 1)) (.cons (.glo 0 (.int 100)) .nil)))))
  (.cons (.cond (.not (.call 1 (.cons (.var 1) (.cons (.cst (.int 0)) (.cons (.bin .sub (.var 0) (.cst (.int 1))) .nil)))))
  (.cons (.rais 9 .no)
  .nil)
  .nil)
  .nil))⟩

/-- places -/
def d82 : Def := ⟨2, 0, [], (.cons (.exp (.call 81 (.cons (.var 0) (.cons (.var 1) .nil))))
  (.cons (.ret (.rg1 true (.bin .add (.b2 .max (.var 1) (.bin .sub (.bin .sub (.var 0) (.cst (.int 1))) (.var 1))) (.cst (.int 1)))))
  .nil))⟩

/-- many_at -/
def d83 : Def := ⟨3, 1, [], (.cons (.exp (.call 81 (.cons (.var 0) (.cons (.var 1) .nil))))
  (.cons (.cond (.not (.call 1 (.cons (.var 2) (.cons (.cst (.int 0)) (.cons (.bin .sub (.var 0) (.cst (.int 1))) .nil)))))
  (.cons (.rais 9 .no)
  .nil)
  .nil)
  (.cons (.cond (.cmp .eq (.var 2) (.cst (.int 0)))
  (.cons (.ret (.call 9 (.cons (.bin .sub (.var 0) (.cst (.int 1))) (.cons (.var 1) .nil))))
  .nil)
  .nil)
  (.cons (.asg 3 (.cst (.int 0)))
  (.cons (.cond (.cmp .ge (.var 1) (.var 2))
  (.cons (.aug 3 .add (.call 9 (.cons (.bin .sub (.bin .sub (.var 0) (.cst (.int 1))) (.var 2)) (.cons (.bin .sub (.var 1) (.var 2)) .nil))))
  .nil)
  .nil)
  (.cons (.cond (.cmp .lt (.bin .add (.var 1) (.var 2)) (.var 0))
  (.cons (.aug 3 .add (.call 9 (.cons (.bin .sub (.bin .sub (.var 0) (.cst (.int 1))) (.var 2)) (.cons (.var 1) .nil))))
  .nil)
  .nil)
  (.cons (.ret (.bin .mul (.var 3) (.call 31 (.cons (.bin .sub (.var 2) (.cst (.int 1))) .nil))))
  .nil)))))))⟩

/-- _law_ways -/
def d84 : Def := ⟨2, 2, [], (.cons (.asg 2 (.cst (.int 1)))
  (.cons (.loop (.nm 3) (.r1 (.var 1))
  (.cons (.asg 2 (.bin .fdiv (.bin .mul (.var 2) (.bin .sub (.var 0) (.var 3))) (.bin .add (.var 3) (.cst (.int 1)))))
  .nil))
  (.cons (.ret (.var 2))
  .nil)))⟩

/-- _law_at -/
def d85 : Def := ⟨3, 2, [], (.cons (.asg 3 (.cst (.int 0)))
  (.cons (.cond (.cmp .eq (.var 2) (.cst (.int 0)))
  (.cons (.ret (.call 84 (.cons (.bin .sub (.var 0) (.cst (.int 1))) (.cons (.var 1) .nil))))
  .nil)
  .nil)
  (.cons (.cond (.cmp .lt (.bin .add (.var 1) (.var 2)) (.var 0))
  (.cons (.asg 3 (.bin .add (.var 3) (.call 84 (.cons (.bin .sub (.bin .sub (.var 0) (.var 2)) (.cst (.int 1))) (.cons (.var 1) .nil)))))
  .nil)
  .nil)
  (.cons (.cond (.cmp .ge (.var 1) (.var 2))
  (.cons (.asg 3 (.bin .add (.var 3) (.call 84 (.cons (.bin .sub (.bin .sub (.var 0) (.var 2)) (.cst (.int 1))) (.cons (.bin .sub (.var 1) (.var 2)) .nil)))))
  .nil)
  .nil)
  (.cons (.loop (.nm 4) (.r1 (.bin .sub (.var 2) (.cst (.int 1))))
  (.cons (.asg 3 (.bin .mul (.cst (.int 2)) (.var 3)))
  .nil))
  (.cons (.ret (.var 3))
  .nil))))))⟩

/-- _law_told -/
def d86 : Def := ⟨3, 1, [], (.cons (.asg 3 (.lst .nil))
  (.cons (.tri (.cons (.exp (.call 82 (.cons (.var 0) (.cons (.var 1) .nil))))
  .nil)
  [(1, none, .app 3 (.str ⟨#[115, 105, 122, 101]⟩)), (9, none, .app 3 (.str ⟨#[112, 108, 97, 99, 101]⟩))])
  (.cons (.tri (.cons (.exp (.call 83 (.cons (.var 0) (.cons (.var 1) (.cons (.var 2) .nil)))))
  .nil)
  [(1, none, .app 3 (.str ⟨#[115, 105, 122, 101]⟩)), (9, none, .app 3 (.str ⟨#[112, 108, 97, 99, 101]⟩))])
  (.cons (.ret (.var 3))
  .nil))))⟩

/-- law -/
def d87 : Def := ⟨1, 13, [], (.cons (.asg 1 (.call 13 (.cons (.var 0) (.cons (.cst (.int 2409)) .nil))))
  (.cons (.asg 2 (.bin .add (.cst (.int 1)) (.call 14 (.cons (.var 1) (.cons (.cst (.int 8)) .nil)))))
  (.cons (.asg 3 (.call 19 (.cons (.var 2) .nil)))
  (.cons (.loop (.nm 4) (.r1 (.var 2))
  (.cons (.asg 5 (.lc (.m1 .index (.var 7) (.var 4)) (.nm 7) (.var 3) .no [7]))
  (.cons (.cond (.not (.call 16 (.cons (.call 82 (.cons (.var 2) (.cons (.var 4) .nil))) (.cons (.b1 .sortset (.var 5)) .nil))))
  (.cons (.ret (.cst (.bool false)))
  .nil)
  .nil)
  (.cons (.loop (.nm 6) (.r1 (.var 2))
  (.cons (.cond (.not (.call 16 (.cons (.call 83 (.cons (.var 2) (.cons (.var 4) (.cons (.var 6) .nil)))) (.cons (.m1 .count (.var 5) (.var 6)) .nil))))
  (.cons (.ret (.cst (.bool false)))
  .nil)
  .nil)
  .nil))
  .nil))))
  (.cons (.asg 8 (.call 82 (.cons (.var 2) (.cons (.cst (.int 0)) .nil))))
  (.cons (.exp (.app 8 (.neg (.cst (.int 1)))))
  (.cons (.cond (.cmp .eq (.var 8) (.call 82 (.cons (.var 2) (.cons (.cst (.int 0)) .nil))))
  (.cons (.ret (.cst (.bool false)))
  .nil)
  .nil)
  (.cons (.asg 2 (.bin .add (.cst (.int 1)) (.call 14 (.cons (.var 1) (.cons (.cst (.int 100)) .nil)))))
  (.cons (.par [4, 9] (.cons (.call 14 (.cons (.var 1) (.cons (.var 2) .nil))) (.cons (.cst (.int 1)) .nil)))
  (.cons (.loop (.nm 10) (.r1 (.bin .sub (.var 2) (.cst (.int 1))))
  (.cons (.asg 9 (.bin .mul (.cst (.int 2)) (.var 9)))
  .nil))
  (.cons (.asg 11 (.lc (.call 83 (.cons (.var 2) (.cons (.var 4) (.cons (.var 6) .nil)))) (.nm 6) (.r1 (.var 2)) .no [6]))
  (.cons (.cond (.cmp .ne (.b1 .sum (.var 11)) (.var 9))
  (.cons (.ret (.cst (.bool false)))
  .nil)
  .nil)
  (.cons (.loop (.nm 6) (.val (.lst (.cons (.call 14 (.cons (.var 1) (.cons (.var 2) .nil))) (.cons (.bin .sub (.var 2) (.cst (.int 1))) (.cons (.cst (.int 0)) .nil)))))
  (.cons (.cond (.not (.call 16 (.cons (.ix (.var 11) (.var 6)) (.cons (.call 85 (.cons (.var 2) (.cons (.var 4) (.cons (.var 6) .nil)))) .nil))))
  (.cons (.ret (.cst (.bool false)))
  .nil)
  .nil)
  .nil))
  (.cons (.cond (.not (.call 16 (.cons (.call 82 (.cons (.var 2) (.cons (.var 4) .nil))) (.cons (.lc (.var 6) (.nm 6) (.r1 (.var 2)) (.so (.cmp .gt (.ix (.var 11) (.var 6)) (.cst (.int 0)))) [6]) .nil))))
  (.cons (.ret (.cst (.bool false)))
  .nil)
  .nil)
  (.cons (.cond (.cmp .ne (.b1 .sum (.lc (.call 83 (.cons (.var 2) (.cons (.var 12) (.cons (.var 4) .nil)))) (.nm 12) (.r1 (.var 2)) .no [12])) (.var 9))
  (.cons (.ret (.cst (.bool false)))
  .nil)
  .nil)
  (.cons (.loop (.nm 13) (.val (.lst (.cons (.cst .none) (.cons (.neg (.cst (.int 1))) (.cons (.var 2) (.cons (.cst (.str ⟨#[48]⟩)) (.cons (.cst (.bool true)) .nil)))))))
  (.cons (.cond (.or (.cmp .ne (.call 86 (.cons (.var 2) (.cons (.var 13) (.cons (.cst .none) .nil)))) (.lst (.cons (.cst (.str ⟨#[112, 108, 97, 99, 101]⟩)) (.cons (.cst (.str ⟨#[112, 108, 97, 99, 101]⟩)) .nil)))) (.cmp .ne (.call 86 (.cons (.var 2) (.cons (.var 4) (.cons (.var 13) .nil)))) (.lst (.cons (.cst (.str ⟨#[112, 108, 97, 99, 101]⟩)) .nil))))
  (.cons (.ret (.cst (.bool false)))
  .nil)
  .nil)
  .nil))
  (.cons (.ret (.cmp .eq (.lc (.var 13) (.nm 13) (.val (.lst (.cons (.cst .none) (.cons (.cst (.int 0)) (.cons (.cst (.int 101)) (.cons (.cst (.str ⟨#[51]⟩)) (.cons (.cst (.bool true)) .nil))))))) (.so (.cmp .ne (.call 86 (.cons (.var 13) (.cons (.cst .none) (.cons (.cst .none) .nil)))) (.lst (.cons (.cst (.str ⟨#[115, 105, 122, 101]⟩)) (.cons (.cst (.str ⟨#[115, 105, 122, 101]⟩)) .nil))))) [13]) (.lst .nil)))
  .nil)))))))))))))))))⟩

/-- card_in -/
def d94 : Def := ⟨1, 1, [], (.cons (.cond (.or (.not (.chn .le .le (.cst (.int 1)) (.b1 .len (.var 0)) (.cst (.int 2)))) (.or (.not (.b1 .all (.lc (.cmp .inn (.var 1) (.glo 10 (.str ⟨#[48, 49, 50, 51, 52, 53, 54, 55, 56, 57]⟩))) (.nm 1) (.var 0) .no [1]))) (.and (.cmp .eq (.ix (.var 0) (.cst (.int 0))) (.cst (.str ⟨#[48]⟩))) (.cmp .ne (.var 0) (.cst (.str ⟨#[48]⟩))))))
  (.cons (.ret (.cst .none))
  .nil)
  .nil)
  (.cons (.ret (.ite (.cmp .lt (.b1 .int (.var 0)) (.glo 0 (.int 100))) (.b1 .int (.var 0)) (.cst .none)))
  .nil))⟩

/-- read -/
def d95 : Def := ⟨1, 5, [], (.cons (.cond (.not (.b1 (.isi .str) (.var 0)))
  (.cons .stuck
  .nil)
  .nil)
  (.cons (.par [1, 2] (.cons (.m1 .split (.var 0) (.cst (.str ⟨#[32]⟩))) (.cons (.lst .nil) .nil)))
  (.cons (.loop (.tup [3, 4]) (.envar 1)
  (.cons (.asg 5 (.call 94 (.cons (.var 4) .nil)))
  (.cons (.cond (.or (.isN (.var 5)) (.and (.cmp .gt (.var 3) (.cst (.int 0))) (.and (.cmp .ne (.var 5) (.bin .sub (.b1 .min (.var 2)) (.cst (.int 1)))) (.cmp .ne (.var 5) (.bin .add (.b1 .max (.var 2)) (.cst (.int 1)))))))
  (.cons .stuck
  .nil)
  .nil)
  (.cons (.exp (.app 2 (.var 5)))
  .nil))))
  (.cons (.cond (.cmp .gt (.b1 .min (.var 2)) (.cst (.int 0)))
  (.cons .stuck
  .nil)
  .nil)
  (.cons (.ret (.b1 .tuple (.var 2)))
  .nil)))))⟩

/-- law -/
def d96 : Def := ⟨1, 8, [], (.cons (.asg 1 (.call 13 (.cons (.var 0) (.cons (.cst (.int 2412)) .nil))))
  (.cons (.asg 2 (.lst .nil))
  (.cons (.loop (.nm 3) (.r1 (.cst (.int 5)))
  (.cons (.asg 4 (.call 17 (.cons (.var 1) (.cons (.bin .add (.cst (.int 1)) (.call 14 (.cons (.var 1) (.cons (.call 15 (.cons (.var 1) (.cons (.lst (.cons (.cst (.int 4)) (.cons (.cst (.int 12)) (.cons (.cst (.int 100)) .nil)))) .nil))) .nil)))) .nil))))
  (.cons (.asg 5 (.m1 .join (.cst (.str ⟨#[32]⟩)) (.lc (.b1 .str (.var 8)) (.nm 8) (.var 4) .no [8])))
  (.cons (.cond (.or (.not (.call 16 (.cons (.call 12 (.cons (.var 4) .nil)) (.cons (.var 5) .nil)))) (.not (.call 16 (.cons (.call 95 (.cons (.var 5) .nil)) (.cons (.var 4) .nil)))))
  (.cons (.ret (.cst (.bool false)))
  .nil)
  .nil)
  (.cons (.loop (.tup [6, 7]) (.var 2)
  (.cons (.cond (.cmp .ne (.cmp .eq (.var 6) (.var 4)) (.cmp .eq (.var 7) (.var 5)))
  (.cons (.ret (.cst (.bool false)))
  .nil)
  .nil)
  .nil))
  (.cons (.exp (.app 2 (.tup (.cons (.var 4) (.cons (.var 5) .nil)))))
  .nil))))))
  (.cons (.ret (.cst (.bool true)))
  .nil))))⟩

/-- _law_wrong -/
def d97 : Def := ⟨1, 5, [], (.cons (.par [1, 2] (.cons (.m1 .split (.var 0) (.cst (.str ⟨#[32]⟩))) (.cons (.lst .nil) .nil)))
  (.cons (.loop (.nm 3) (.r1 (.b1 .len (.var 1)))
  (.cons (.asg 4 (.ix (.var 1) (.var 3)))
  (.cons (.cond (.or (.cmp .eq (.var 4) (.cst (.str ⟨#[]⟩))) (.or (.cmp .gt (.b1 .len (.var 4)) (.cst (.int 9))) (.cmp .ne (.lc (.var 5) (.nm 5) (.var 4) (.so (.cmp .nin (.var 5) (.cst (.str ⟨#[48, 49, 50, 51, 52, 53, 54, 55, 56, 57]⟩)))) [5]) (.lst .nil))))
  (.cons (.ret (.var 3))
  .nil)
  .nil)
  (.cons (.cond (.or (.cmp .ne (.b1 .str (.b1 .int (.var 4))) (.var 4)) (.cmp .gt (.b1 .int (.var 4)) (.cst (.int 99))))
  (.cons (.ret (.var 3))
  .nil)
  .nil)
  (.cons (.cond (.and (.cmp .ne (.var 2) (.lst .nil)) (.and (.cmp .ne (.b1 .int (.var 4)) (.bin .sub (.b1 .min (.var 2)) (.cst (.int 1)))) (.cmp .ne (.b1 .int (.var 4)) (.bin .add (.b1 .max (.var 2)) (.cst (.int 1))))))
  (.cons (.ret (.var 3))
  .nil)
  .nil)
  (.cons (.exp (.app 2 (.b1 .int (.var 4))))
  .nil))))))
  (.cons (.ret (.ite (.cmp .gt (.b1 .min (.var 2)) (.cst (.int 0))) (.b1 .len (.var 1)) (.cst .none)))
  .nil)))⟩

/-- _law_spoilt -/
def d98 : Def := ⟨2, 3, [], (.cons (.par [2, 3] (.cons (.call 14 (.cons (.var 0) (.cons (.cst (.int 5)) .nil))) (.cons (.call 14 (.cons (.var 0) (.cons (.bin .add (.b1 .len (.var 1)) (.cst (.int 1))) .nil))) .nil)))
  (.cons (.asg 4 (.call 15 (.cons (.var 0) (.cons (.b1 .list (.cst (.str ⟨#[32, 48, 49, 50, 51, 57, 97]⟩))) .nil))))
  (.cons (.cond (.cmp .eq (.var 2) (.cst (.int 0)))
  (.cons (.ret (.sl (.var 1) .no (.so (.var 3))))
  .nil)
  .nil)
  (.cons (.cond (.cmp .eq (.var 2) (.cst (.int 1)))
  (.cons (.ret (.bin .add (.sl (.var 1) .no (.so (.var 3))) (.sl (.var 1) (.so (.bin .add (.var 3) (.cst (.int 1)))) .no)))
  .nil)
  .nil)
  (.cons (.cond (.cmp .eq (.var 2) (.cst (.int 2)))
  (.cons (.ret (.bin .add (.bin .add (.sl (.var 1) .no (.so (.var 3))) (.var 4)) (.sl (.var 1) (.so (.bin .add (.var 3) (.cst (.int 1)))) .no)))
  .nil)
  .nil)
  (.cons (.cond (.cmp .eq (.var 2) (.cst (.int 3)))
  (.cons (.ret (.bin .add (.bin .add (.sl (.var 1) .no (.so (.var 3))) (.sl (.var 1) (.so (.var 3)) (.so (.bin .add (.var 3) (.cst (.int 1)))))) (.sl (.var 1) (.so (.var 3)) .no)))
  .nil)
  .nil)
  (.cons (.ret (.bin .add (.bin .add (.sl (.var 1) .no (.so (.var 3))) (.var 4)) (.sl (.var 1) (.so (.var 3)) .no)))
  .nil)))))))⟩

/-- _law_told -/
def d99 : Def := ⟨1, 2, [], (.cons (.asg 1 (.lst .nil))
  (.cons (.tri (.cons (.exp (.call 95 (.cons (.var 0) .nil)))
  .nil)
  [(13, some 2, .appF 1 2)])
  (.cons (.ret (.var 1))
  .nil)))⟩

/-- law -/
def d100 : Def := ⟨1, 10, [], (.cons (.asg 1 (.call 13 (.cons (.var 0) (.cons (.cst (.int 2413)) .nil))))
  (.cons (.loop (.nm 2) (.r1 (.cst (.int 6)))
  (.cons (.asg 3 (.call 17 (.cons (.var 1) (.cons (.bin .add (.cst (.int 1)) (.call 14 (.cons (.var 1) (.cons (.call 15 (.cons (.var 1) (.cons (.lst (.cons (.cst (.int 3)) (.cons (.cst (.int 6)) (.cons (.cst (.int 100)) .nil)))) .nil))) .nil)))) .nil))))
  (.cons (.asg 4 (.call 98 (.cons (.var 1) (.cons (.m1 .join (.cst (.str ⟨#[32]⟩)) (.lc (.b1 .str (.var 6)) (.nm 6) (.var 3) .no [6])) .nil))))
  (.cons (.asg 5 (.call 97 (.cons (.var 4) .nil)))
  (.cons (.cond (.or (.cmp .ne (.call 99 (.cons (.var 4) .nil)) (.ite (.isN (.var 5)) (.lst .nil) (.lst (.cons (.var 5) .nil)))) (.and (.isN (.var 5)) (.cmp .ne (.call 12 (.cons (.call 95 (.cons (.var 4) .nil)) .nil)) (.var 4))))
  (.cons (.ret (.cst (.bool false)))
  .nil)
  .nil)
  .nil)))))
  (.cons (.asg 7 (.m1 .join (.cst (.str ⟨#[32]⟩)) (.lc (.b1 .str (.var 6)) (.nm 6) (.r1 (.cst (.int 100))) .no [6])))
  (.cons (.loop (.nm 4) (.val (.lst (.cons (.cst (.str ⟨#[]⟩)) (.cons (.cst (.str ⟨#[32]⟩)) (.cons (.cst (.str ⟨#[48, 32]⟩)) (.cons (.cst (.str ⟨#[32, 48]⟩)) (.cons (.cst (.str ⟨#[49]⟩)) (.cons (.cst (.str ⟨#[49, 32, 50]⟩)) (.cons (.cst (.str ⟨#[48, 32, 48]⟩)) (.cons (.cst (.str ⟨#[48, 32, 50]⟩)) (.cons (.cst (.str ⟨#[48, 48]⟩)) (.cons (.cst (.str ⟨#[48, 32, 32, 49]⟩)) (.cons (.cst (.str ⟨#[49, 48, 48]⟩)) (.cons (.cst (.str ⟨#[57, 57]⟩)) (.cons (.var 7) (.cons (.bin .add (.var 7) (.cst (.str ⟨#[32, 49, 48, 48]⟩))) .nil))))))))))))))))
  (.cons (.asg 5 (.call 97 (.cons (.var 4) .nil)))
  (.cons (.cond (.cmp .ne (.call 99 (.cons (.var 4) .nil)) (.ite (.isN (.var 5)) (.lst .nil) (.lst (.cons (.var 5) .nil))))
  (.cons (.ret (.cst (.bool false)))
  .nil)
  .nil)
  .nil)))
  (.cons (.asg 8 (.lst (.cons (.tup (.cons (.cst (.str ⟨#[48, 32, 43, 49]⟩)) (.cons (.cst (.int 1)) .nil))) (.cons (.tup (.cons (.cst (.str ⟨#[48, 32, 49, 10]⟩)) (.cons (.cst (.int 1)) .nil))) (.cons (.tup (.cons (.cst (.str ⟨#[48, 32, 49, 95, 48]⟩)) (.cons (.cst (.int 1)) .nil))) (.cons (.tup (.cons (.cst (.str ⟨#[43, 48]⟩)) (.cons (.cst (.int 0)) .nil))) .nil))))))
  (.cons (.loop (.tup [4, 9]) (.val (.bin .add (.var 8) (.lst (.cons (.tup (.cons (.bin .add (.cst (.str ⟨#[48, 32]⟩)) (.bin .mul (.cst (.str ⟨#[49]⟩)) (.cst (.int 5000)))) (.cons (.cst (.int 1)) .nil))) .nil))))
  (.cons (.cond (.cmp .ne (.call 99 (.cons (.var 4) .nil)) (.lst (.cons (.var 9) .nil)))
  (.cons (.ret (.cst (.bool false)))
  .nil)
  .nil)
  .nil))
  (.cons (.ret (.cmp .eq (.lc (.var 10) (.nm 10) (.val (.lst (.cons (.cst .none) (.cons (.cst (.int 3)) (.cons (.cst (.bool true)) (.cons (.lst .nil) (.cons (.tup .nil) (.cons (.dnew false) (.cons (.lst (.cons (.cst (.str ⟨#[48]⟩)) .nil)) .nil))))))))) (.so (.cmp .ne (.call 99 (.cons (.var 10) .nil)) (.lst (.cons (.cst .none) .nil)))) [10]) (.lst .nil)))
  .nil)))))))⟩

/-- _law_rows_told -/
def d104 : Def := ⟨0, 1, [], (.cons (.asg 0 (.call 26 (.cons (.cst (.int 5)) (.cons (.cst (.int 2)) (.cons (.tup (.cons (.cst (.bool true)) (.cons (.cst (.bool false)) (.cons (.cst (.bool false)) (.cons (.cst (.bool true)) (.cons (.cst (.bool false)) .nil)))))) .nil)))))
  (.cons (.cond (.or (.cmp .ne (.var 0) (.tup (.cons (.cst (.int 1)) (.cons (.cst (.int 2)) (.cons (.cst (.int 3)) (.cons (.cst (.int 0)) (.cons (.cst (.int 4)) .nil))))))) (.or (.not (.call 6 (.cons (.var 0) .nil))) (.or (.ntN (.call 5 (.cons (.var 0) .nil))) (.cmp .ne (.call 5 (.cons (.tup (.cons (.cst (.int 1)) (.cons (.cst (.int 3)) (.cons (.cst (.int 2)) (.cons (.cst (.int 0)) .nil))))) .nil)) (.cst (.int 2))))))
  (.cons (.ret (.cst (.bool false)))
  .nil)
  .nil)
  (.cons (.cond (.or (.cmp .ne (.call 32 (.cons (.cst (.int 5)) .nil)) (.cst (.int 16))) (.cmp .ne (.call 35 (.cons (.cst (.int 3)) .nil)) (.lst (.cons (.tup (.cons (.cst (.int 0)) (.cons (.cst (.int 1)) (.cons (.cst (.int 2)) .nil)))) (.cons (.tup (.cons (.cst (.int 1)) (.cons (.cst (.int 0)) (.cons (.cst (.int 2)) .nil)))) (.cons (.tup (.cons (.cst (.int 1)) (.cons (.cst (.int 2)) (.cons (.cst (.int 0)) .nil)))) (.cons (.tup (.cons (.cst (.int 2)) (.cons (.cst (.int 1)) (.cons (.cst (.int 0)) .nil)))) .nil)))))))
  (.cons (.ret (.cst (.bool false)))
  .nil)
  .nil)
  (.cons (.cond (.or (.cmp .ne (.call 33 (.cons (.cst (.int 3)) (.cons (.cst (.int 2)) .nil))) (.tup (.cons (.cst (.int 1)) (.cons (.cst (.int 2)) (.cons (.cst (.int 0)) .nil))))) (.or (.cmp .ne (.call 10 (.cons (.tup (.cons (.cst (.int 1)) (.cons (.cst (.int 2)) (.cons (.cst (.int 0)) .nil)))) .nil)) (.cst (.int 2))) (.or (.cmp .ne (.call 11 (.cons (.var 0) .nil)) (.cst (.int 1))) (.cmp .ne (.call 38 (.cons (.cst (.int 5)) (.cons (.cst (.int 2)) .nil))) (.cst (.int 6))))))
  (.cons (.ret (.cst (.bool false)))
  .nil)
  .nil)
  (.cons (.ret (.cmp .eq (.call 8 (.cons (.tup (.cons (.cst (.int 1)) (.cons (.cst (.int 0)) .nil))) .nil)) (.lst (.cons (.tup (.cons (.cst (.int 1)) (.cons (.tup (.cons (.cst (.bool false)) (.cons (.cst (.bool true)) .nil))) .nil))) (.cons (.tup (.cons (.cst (.int 2)) (.cons (.tup (.cons (.cst (.bool true)) (.cons (.cst (.bool true)) .nil))) .nil))) .nil)))))
  .nil)))))⟩

/-- _law_lots_told -/
def d105 : Def := ⟨0, 0, [], (.cons (.cond (.or (.cmp .ne (.call 44 (.cons (.tup (.cons (.cst (.int 0)) (.cons (.cst (.int 2)) (.cons (.cst (.int 1)) (.cons (.cst (.int 3)) .nil))))) (.cons (.cst (.int 2)) .nil))) (.cst (.int 0))) (.cmp .ne (.call 45 (.cons (.tup (.cons (.cst (.int 0)) (.cons (.cst (.int 2)) (.cons (.cst (.int 1)) (.cons (.cst (.int 3)) .nil))))) .nil)) (.lst (.cons (.cst (.int 2)) .nil))))
  (.cons (.ret (.cst (.bool false)))
  .nil)
  .nil)
  (.cons (.cond (.or (.cmp .ne (.call 53 (.cons (.tup (.cons (.cst (.int 5)) (.cons (.cst (.int 6)) (.cons (.cst (.int 7)) (.cons (.cst (.int 8)) (.cons (.cst (.int 9)) .nil)))))) (.cons (.tup (.cons (.cst (.int 1)) (.cons (.cst (.int 2)) (.cons (.cst (.int 3)) (.cons (.cst (.int 0)) (.cons (.cst (.int 4)) .nil)))))) .nil))) (.tup (.cons (.cst (.int 6)) (.cons (.cst (.int 7)) (.cons (.cst (.int 8)) (.cons (.cst (.int 5)) (.cons (.cst (.int 9)) .nil))))))) (.not (.call 55 (.cons (.tup (.cons (.cst (.int 1)) (.cons (.cst (.int 2)) (.cons (.cst (.int 1)) (.cons (.cst (.int 2)) .nil))))) (.cons (.cst (.int 2)) .nil)))))
  (.cons (.ret (.cst (.bool false)))
  .nil)
  .nil)
  (.cons (.cond (.or (.not (.call 57 (.cons (.tup (.cons (.cst (.int 1)) (.cons (.cst (.int 2)) (.cons (.cst (.int 1)) (.cons (.cst (.int 2)) .nil))))) (.cons (.cst (.int 2)) .nil)))) (.or (.call 57 (.cons (.tup (.cons (.cst (.int 1)) (.cons (.cst (.int 2)) (.cons (.cst (.int 2)) (.cons (.cst (.int 1)) .nil))))) (.cons (.cst (.int 2)) .nil))) (.ntN (.call 58 (.cons (.tup (.cons (.cst (.int 1)) (.cons (.cst (.int 2)) (.cons (.cst (.int 1)) .nil)))) (.cons (.cst (.int 2)) .nil))))))
  (.cons (.ret (.cst (.bool false)))
  .nil)
  .nil)
  (.cons (.ret (.and (.call 59 (.cons (.tup (.cons (.cst (.int 1)) (.cons (.cst (.int 2)) (.cons (.cst (.int 2)) (.cons (.cst (.int 1)) .nil))))) (.cons (.cst (.int 2)) (.cons (.tup (.cons (.tup (.cons (.cst (.int 1)) (.cons (.cst (.int 2)) (.cons (.cst (.int 0)) (.cons (.cst (.int 3)) .nil))))) (.cons (.cst (.int 0)) .nil))) .nil)))) (.not (.call 59 (.cons (.tup (.cons (.cst (.int 1)) (.cons (.cst (.int 2)) (.cons (.cst (.int 2)) (.cons (.cst (.int 1)) .nil))))) (.cons (.cst (.int 2)) (.cons (.tup (.cons (.tup (.cons (.cst (.int 0)) (.cons (.cst (.int 1)) (.cons (.cst (.int 2)) (.cons (.cst (.int 3)) .nil))))) (.cons (.cst (.int 0)) .nil))) .nil)))))))
  .nil))))⟩

/-- _law_packs_told -/
def d106 : Def := ⟨0, 2, [], (.cons (.par [0, 1] (.cons (.tup (.cons (.cst (.int 0)) (.cons (.cst (.int 1)) (.cons (.cst (.int 0)) .nil)))) (.cons (.tup (.cons (.cst .none) (.cons (.cst (.int 0)) (.cons (.cst .none) .nil)))) .nil)))
  (.cons (.cond (.or (.cmp .ne (.call 70 (.cons (.var 0) (.cons (.var 1) .nil))) (.cst (.int 2))) (.or (.cmp .ne (.call 71 (.cons (.var 0) (.cons (.var 1) .nil))) (.tup (.cons (.cst (.int 1)) (.cons (.cst (.int 0)) (.cons (.cst (.int 2)) .nil))))) (.cmp .ne (.call 72 (.cons (.var 0) (.cons (.var 1) (.cons (.cst (.int 1)) .nil)))) (.lst (.cons (.cst (.int 0)) (.cons (.cst (.int 2)) .nil))))))
  (.cons (.ret (.cst (.bool false)))
  .nil)
  .nil)
  (.cons (.ret (.and (.isN (.call 71 (.cons (.var 0) (.cons (.tup (.cons (.cst (.int 1)) (.cons (.cst (.int 1)) (.cons (.cst .none) .nil)))) .nil)))) (.cmp .eq (.call 70 (.cons (.var 0) (.cons (.tup (.cons (.cst .none) (.cons (.cst .none) (.cons (.cst .none) .nil)))) .nil))) (.cst (.int 4)))))
  .nil)))⟩

/-- _law_places_told -/
def d107 : Def := ⟨0, 1, [], (.cons (.ret (.and (.cmp .eq (.call 82 (.cons (.cst (.int 5)) (.cons (.cst (.int 1)) .nil))) (.lst (.cons (.cst (.int 0)) (.cons (.cst (.int 1)) (.cons (.cst (.int 2)) (.cons (.cst (.int 3)) .nil)))))) (.cmp .eq (.lc (.call 83 (.cons (.cst (.int 5)) (.cons (.cst (.int 1)) (.cons (.var 0) .nil)))) (.nm 0) (.r1 (.cst (.int 5))) .no [0]) (.lst (.cons (.cst (.int 4)) (.cons (.cst (.int 4)) (.cons (.cst (.int 4)) (.cons (.cst (.int 4)) (.cons (.cst (.int 0)) .nil)))))))))
  .nil)⟩

/-- law -/
def d108 : Def := ⟨1, 2, [], (.cons (.asg 1 (.call 13 (.cons (.var 0) (.cons (.cst (.int 2415)) .nil))))
  (.cons (.asg 2 (.call 14 (.cons (.var 1) (.cons (.cst (.int 4)) .nil))))
  (.cons (.cond (.cmp .eq (.var 2) (.cst (.int 0)))
  (.cons (.ret (.call 104 .nil))
  .nil)
  .nil)
  (.cons (.cond (.cmp .eq (.var 2) (.cst (.int 1)))
  (.cons (.ret (.call 105 .nil))
  .nil)
  .nil)
  (.cons (.ret (.ite (.cmp .eq (.var 2) (.cst (.int 2))) (.call 106 .nil) (.call 107 .nil)))
  .nil)))))⟩

/-- law -/
def d110 : Def := ⟨1, 13, [], (.cons (.asg 1 (.call 13 (.cons (.var 0) (.cons (.cst (.int 2417)) .nil))))
  (.cons (.asg 2 (.bin .add (.cst (.int 1)) (.call 14 (.cons (.var 1) (.cons (.cst (.int 7)) .nil)))))
  (.cons (.asg 3 (.call 35 (.cons (.var 2) .nil)))
  (.cons (.cond (.or (.cmp .ne (.b1 .len (.var 3)) (.call 32 (.cons (.var 2) .nil))) (.cmp .ne (.b1 .sum (.lc (.call 38 (.cons (.var 2) (.cons (.var 4) .nil))) (.nm 4) (.r1 (.var 2)) .no [4])) (.call 32 (.cons (.var 2) .nil))))
  (.cons (.ret (.cst (.bool false)))
  .nil)
  .nil)
  (.cons (.cond (.cmp .ne (.lc (.call 10 (.cons (.var 5) .nil)) (.nm 5) (.var 3) .no [5]) (.rg1 true (.call 32 (.cons (.var 2) .nil))))
  (.cons (.ret (.cst (.bool false)))
  .nil)
  .nil)
  (.cons (.cond (.cmp .ne (.lc (.var 4) (.nm 4) (.r1 (.var 2)) (.so (.cmp .ne (.b1 .len (.lc (.var 5) (.nm 5) (.var 3) (.so (.cmp .eq (.call 11 (.cons (.var 5) .nil)) (.var 4))) [5])) (.call 38 (.cons (.var 2) (.cons (.var 4) .nil))))) [4]) (.lst .nil))
  (.cons (.ret (.cst (.bool false)))
  .nil)
  .nil)
  (.cons (.asg 6 (.call 14 (.cons (.var 1) (.cons (.var 2) .nil))))
  (.cons (.cond (.cmp .ne (.b1 .sum (.lc (.call 83 (.cons (.var 2) (.cons (.var 6) (.cons (.var 7) .nil)))) (.nm 7) (.r1 (.var 2)) .no [7])) (.call 32 (.cons (.var 2) .nil)))
  (.cons (.ret (.cst (.bool false)))
  .nil)
  .nil)
  (.cons (.cond (.cmp .ne (.call 82 (.cons (.var 2) (.cons (.var 6) .nil))) (.lc (.var 7) (.nm 7) (.r1 (.var 2)) (.so (.cmp .gt (.call 83 (.cons (.var 2) (.cons (.var 6) (.cons (.var 7) .nil)))) (.cst (.int 0)))) [7]))
  (.cons (.ret (.cst (.bool false)))
  .nil)
  .nil)
  (.cons (.par [8, 5] (.cons (.call 46 (.cons (.var 1) (.cons (.var 2) .nil))) (.cons (.call 15 (.cons (.var 1) (.cons (.var 3) .nil))) .nil)))
  (.cons (.asg 9 (.b1 .tuple (.lc (.ite (.cmp .eq (.call 14 (.cons (.var 1) (.cons (.cst (.int 2)) .nil))) (.cst (.int 0))) (.var 10) (.cst .none)) (.nm 10) (.val (.call 53 (.cons (.var 8) (.cons (.var 5) .nil)))) .no [10])))
  (.cons (.asg 11 (.lst .nil))
  (.cons (.loop (.nm 12) (.var 3)
  (.cons (.cond (.cmp .eq (.lc (.var 13) (.nm 13) (.r1 (.var 2)) (.so (.cmp .nin (.ix (.var 9) (.var 13)) (.lst (.cons (.cst .none) (.cons (.ix (.call 53 (.cons (.var 8) (.cons (.var 12) .nil))) (.var 13)) .nil))))) [13]) (.lst .nil))
  (.cons (.exp (.app 11 (.var 12)))
  .nil)
  .nil)
  .nil))
  (.cons (.cond (.or (.cmp .nin (.var 5) (.var 11)) (.or (.cmp .ne (.call 70 (.cons (.var 8) (.cons (.var 9) .nil))) (.b1 .len (.var 11))) (.cmp .ne (.call 71 (.cons (.var 8) (.cons (.var 9) .nil))) (.ix (.var 11) (.cst (.int 0))))))
  (.cons (.ret (.cst (.bool false)))
  .nil)
  .nil)
  (.cons (.asg 7 (.call 14 (.cons (.var 1) (.cons (.var 2) .nil))))
  (.cons (.cond (.cmp .ne (.call 72 (.cons (.var 8) (.cons (.var 9) (.cons (.var 7) .nil)))) (.b1 .sortset (.lc (.ix (.var 12) (.var 7)) (.nm 12) (.var 11) .no [12])))
  (.cons (.ret (.cst (.bool false)))
  .nil)
  .nil)
  (.cons (.ret (.and (.cmp .eq (.call 70 (.cons (.var 8) (.cons (.bin .mul (.tup (.cons (.cst .none) .nil)) (.var 2)) .nil))) (.call 32 (.cons (.var 2) .nil))) (.cmp .eq (.call 72 (.cons (.var 8) (.cons (.bin .mul (.tup (.cons (.cst .none) .nil)) (.var 2)) (.cons (.cst (.int 0)) .nil)))) (.rg1 true (.var 2)))))
  .nil)))))))))))))))))⟩

/-- fall_places -/
def d111 : Def := ⟨1, 1, [], (.cons (.exp (.call 7 (.cons (.var 0) .nil)))
  (.cons (.ret (.b1 .tuple (.lc (.var 1) (.nm 1) (.r2 (.cst (.int 1)) (.b1 .len (.var 0))) (.so (.cmp .lt (.ix (.var 0) (.var 1)) (.ix (.var 0) (.bin .sub (.var 1) (.cst (.int 1)))))) [1])))
  .nil))⟩

/-- are_places -/
def d112 : Def := ⟨2, 2, [], (.cons (.cond (.or (.not (.b1 (.isi .tuple) (.var 1))) (.not (.b1 .all (.lc (.call 1 (.cons (.var 2) (.cons (.cst (.int 1)) (.cons (.bin .sub (.var 0) (.cst (.int 1))) .nil)))) (.nm 2) (.var 1) .no [2]))))
  (.cons (.ret (.cst (.bool false)))
  .nil)
  .nil)
  (.cons (.ret (.b1 .all (.lc (.cmp .lt (.ix (.var 1) (.var 3)) (.ix (.var 1) (.bin .add (.var 3) (.cst (.int 1))))) (.nm 3) (.r1 (.bin .sub (.b1 .len (.var 1)) (.cst (.int 1)))) .no [3])))
  .nil))⟩

/-- row_with -/
def d113 : Def := ⟨2, 4, [], (.cons (.exp (.call 25 (.cons (.var 0) (.cons (.cst (.int 1)) (.cons (.glo 0 (.int 100)) .nil)))))
  (.cons (.cond (.not (.call 112 (.cons (.var 0) (.cons (.var 1) .nil))))
  (.cons (.rais 10 .no)
  .nil)
  .nil)
  (.cons (.par [2, 3] (.cons (.b1 .len (.var 1)) (.cons (.b1 .len (.var 1)) .nil)))
  (.cons (.asg 4 (.lst (.cons (.var 2) .nil)))
  (.cons (.loop (.nm 5) (.r2 (.cst (.int 1)) (.var 0))
  (.cons (.cond (.cmp .inn (.var 5) (.var 1))
  (.cons (.aug 2 .sub (.cst (.int 1)))
  (.cons (.exp (.app 4 (.var 2)))
  .nil))
  (.cons (.aug 3 .add (.cst (.int 1)))
  (.cons (.exp (.app 4 (.var 3)))
  .nil)))
  .nil))
  (.cons (.ret (.b1 .tuple (.var 4)))
  .nil))))))⟩

/-- _law_word -/
def d114 : Def := ⟨3, 1, [], (.cons (.asg 3 (.cst (.str ⟨#[]⟩)))
  (.cons (.tri (.cons (.cond (.cmp .eq (.var 0) (.cst (.str ⟨#[114, 111, 119]⟩)))
  (.cons (.exp (.call 113 (.cons (.var 1) (.cons (.var 2) .nil))))
  .nil)
  (.cons (.exp (.call 111 (.cons (.var 2) .nil)))
  .nil))
  .nil)
  [(1, none, .set 3 (.str ⟨#[115, 105, 122, 101]⟩)), (10, none, .set 3 (.str ⟨#[112, 108, 97, 99, 101, 115]⟩)), (3, none, .set 3 (.str ⟨#[114, 111, 119]⟩))])
  (.cons (.ret (.var 3))
  .nil)))⟩

/-- law -/
def d115 : Def := ⟨1, 10, [], (.cons (.asg 1 (.call 13 (.cons (.var 0) (.cons (.cst (.int 2418)) .nil))))
  (.cons (.asg 2 (.bin .add (.cst (.int 1)) (.call 14 (.cons (.var 1) (.cons (.call 15 (.cons (.var 1) (.cons (.lst (.cons (.cst (.int 5)) (.cons (.cst (.int 20)) (.cons (.cst (.int 100)) .nil)))) .nil))) .nil)))))
  (.cons (.asg 3 (.call 17 (.cons (.var 1) (.cons (.var 2) .nil))))
  (.cons (.asg 4 (.b1 .tuple (.lc (.var 5) (.nm 5) (.r2 (.cst (.int 1)) (.var 2)) (.so (.cmp .lt (.ix (.var 3) (.var 5)) (.ix (.var 3) (.bin .sub (.var 5) (.cst (.int 1)))))) [5])))
  (.cons (.cond (.or (.not (.call 16 (.cons (.call 111 (.cons (.var 3) .nil)) (.cons (.var 4) .nil)))) (.or (.not (.call 16 (.cons (.call 113 (.cons (.var 2) (.cons (.var 4) .nil))) (.cons (.var 3) .nil)))) (.cmp .ne (.b1 .len (.var 4)) (.call 11 (.cons (.var 3) .nil)))))
  (.cons (.ret (.cst (.bool false)))
  .nil)
  .nil)
  (.cons (.asg 6 (.b1 .tuple (.lc (.var 5) (.nm 5) (.r2 (.cst (.int 1)) (.var 2)) (.so (.cmp .eq (.call 14 (.cons (.var 1) (.cons (.cst (.int 3)) .nil))) (.cst (.int 0)))) [5])))
  (.cons (.asg 7 (.call 113 (.cons (.var 2) (.cons (.var 6) .nil))))
  (.cons (.cond (.or (.not (.call 6 (.cons (.var 7) .nil))) (.or (.cmp .ne (.b1 .len (.var 7)) (.var 2)) (.or (.cmp .ne (.call 111 (.cons (.var 7) .nil)) (.var 6)) (.cmp .ne (.ix (.var 7) (.cst (.int 0))) (.b1 .len (.var 6))))))
  (.cons (.ret (.cst (.bool false)))
  .nil)
  .nil)
  (.cons (.asg 8 (.bin .add (.cst (.int 1)) (.call 14 (.cons (.var 1) (.cons (.cst (.int 6)) .nil)))))
  (.cons (.cond (.cmp .ne (.b1 .sorted (.lc (.call 113 (.cons (.var 8) (.cons (.call 111 (.cons (.var 9) .nil)) .nil))) (.nm 9) (.val (.call 19 (.cons (.var 8) .nil))) .no [9])) (.call 19 (.cons (.var 8) .nil)))
  (.cons (.ret (.cst (.bool false)))
  .nil)
  .nil)
  (.cons (.cond (.cmp .ne (.b1 .lenset (.lc (.call 111 (.cons (.var 9) .nil)) (.nm 9) (.val (.call 19 (.cons (.var 8) .nil))) .no [9])) (.b1 .len (.call 19 (.cons (.var 8) .nil))))
  (.cons (.ret (.cst (.bool false)))
  .nil)
  .nil)
  (.cons (.loop (.nm 10) (.val (.lst (.cons (.cst .none) (.cons (.cst (.int 0)) (.cons (.cst (.int 101)) (.cons (.cst (.str ⟨#[51]⟩)) (.cons (.cst (.bool true)) .nil)))))))
  (.cons (.cond (.cmp .ne (.call 114 (.cons (.cst (.str ⟨#[114, 111, 119]⟩)) (.cons (.var 10) (.cons (.cst .none) .nil)))) (.cst (.str ⟨#[115, 105, 122, 101]⟩)))
  (.cons (.ret (.cst (.bool false)))
  .nil)
  .nil)
  .nil))
  (.cons (.loop (.nm 10) (.val (.lst (.cons (.cst .none) (.cons (.lst (.cons (.cst (.int 1)) .nil)) (.cons (.tup (.cons (.cst (.int 0)) .nil)) (.cons (.tup (.cons (.var 2) .nil)) (.cons (.tup (.cons (.cst (.int 2)) (.cons (.cst (.int 1)) .nil))) (.cons (.tup (.cons (.cst (.int 1)) (.cons (.cst (.int 1)) .nil))) (.cons (.tup (.cons (.cst (.bool true)) .nil)) (.cons (.tup (.cons (.cst (.str ⟨#[49]⟩)) .nil)) (.cons (.cst (.int 1)) .nil)))))))))))
  (.cons (.cond (.cmp .ne (.call 114 (.cons (.cst (.str ⟨#[114, 111, 119]⟩)) (.cons (.var 2) (.cons (.var 10) .nil)))) (.cst (.str ⟨#[112, 108, 97, 99, 101, 115]⟩)))
  (.cons (.ret (.cst (.bool false)))
  .nil)
  .nil)
  .nil))
  (.cons (.ret (.cmp .eq (.lc (.var 10) (.nm 10) (.val (.lst (.cons (.cst .none) (.cons (.tup .nil) (.cons (.tup (.cons (.cst (.int 0)) (.cons (.cst (.int 2)) (.cons (.cst (.int 1)) .nil)))) (.cons (.lst (.cons (.cst (.int 0)) .nil)) (.cons (.cst (.int 3)) .nil))))))) (.so (.cmp .ne (.call 114 (.cons (.cst (.str ⟨#[102, 97, 108, 108, 115]⟩)) (.cons (.cst .none) (.cons (.var 10) .nil)))) (.cst (.str ⟨#[114, 111, 119]⟩)))) [10]) (.lst .nil)))
  .nil))))))))))))))⟩

/-- check_two -/
def d116 : Def := ⟨2, 0, [], (.cons (.exp (.call 7 (.cons (.var 0) .nil)))
  (.cons (.cond (.or (.not (.call 6 (.cons (.var 1) .nil))) (.cmp .ne (.b1 .len (.var 0)) (.b1 .len (.var 1))))
  (.cons (.rais 3 .no)
  .nil)
  .nil)
  .nil))⟩

/-- spots_of -/
def d117 : Def := ⟨1, 3, [], (.cons (.asg 1 (.bin .mul (.lst (.cons (.cst (.int 0)) .nil)) (.b1 .len (.var 0))))
  (.cons (.loop (.tup [2, 3]) (.envar 0)
  (.cons (.sub 1 (.var 3) (.var 2))
  .nil))
  (.cons (.ret (.var 1))
  .nil)))⟩

/-- swaps_between -/
def d118 : Def := ⟨2, 4, [], (.cons (.exp (.call 116 (.cons (.var 0) (.cons (.var 1) .nil))))
  (.cons (.asg 2 (.call 117 (.cons (.var 1) .nil)))
  (.cons (.ret (.b1 .sum (.lc (.b1 .len (.lc (.var 5) (.nm 5) (.val (.sl (.var 0) .no (.so (.var 3)))) (.so (.cmp .gt (.ix (.var 2) (.var 5)) (.ix (.var 2) (.var 4)))) [5])) (.tup [3, 4]) (.envar 0) .no [3, 4])))
  .nil)))⟩

/-- exchanged -/
def d119 : Def := ⟨2, 0, [], (.cons (.ret (.tup (.star (.sl (.var 0) .no (.so (.var 1))) (.cons (.ix (.var 0) (.bin .add (.var 1) (.cst (.int 1)))) (.cons (.ix (.var 0) (.var 1)) (.star (.sl (.var 0) (.so (.bin .add (.var 1) (.cst (.int 2)))) .no) .nil))))))
  .nil)⟩

/-- swap_rows -/
def d120 : Def := ⟨2, 5, [], (.cons (.exp (.call 116 (.cons (.var 0) (.cons (.var 1) .nil))))
  (.cons (.par [2, 3] (.cons (.call 117 (.cons (.var 1) .nil)) (.cons (.lst (.cons (.var 0) .nil)) .nil)))
  (.cons (.whil (.cmp .ne (.ix (.var 3) (.neg (.cst (.int 1)))) (.var 1))
  (.cons (.asg 4 (.ix (.var 3) (.neg (.cst (.int 1)))))
  (.cons (.asg 5 (.lc (.var 6) (.nm 6) (.r1 (.bin .sub (.b1 .len (.var 4)) (.cst (.int 1)))) (.so (.and (.cmp .gt (.ix (.var 2) (.ix (.var 4) (.var 6))) (.ix (.var 2) (.ix (.var 4) (.bin .add (.var 6) (.cst (.int 1)))))) (.call 6 (.cons (.call 119 (.cons (.var 4) (.cons (.var 6) .nil))) .nil)))) [6]))
  (.cons (.exp (.app 3 (.call 119 (.cons (.var 4) (.cons (.ix (.var 5) (.cst (.int 0))) .nil)))))
  .nil))))
  (.cons (.ret (.b1 .tuple (.var 3)))
  .nil))))⟩

/-- _law_word -/
def d121 : Def := ⟨3, 1, [], (.cons (.asg 3 (.cst (.bool false)))
  (.cons (.tri (.cons (.cond (.cmp .eq (.var 0) (.cst (.str ⟨#[98, 101, 116, 119, 101, 101, 110]⟩)))
  (.cons (.exp (.call 118 (.cons (.var 1) (.cons (.var 2) .nil))))
  .nil)
  (.cons (.exp (.call 120 (.cons (.var 1) (.cons (.var 2) .nil))))
  .nil))
  .nil)
  [(3, none, .set 3 (.bool true))])
  (.cons (.ret (.var 3))
  .nil)))⟩

/-- _law_swapped -/
def d122 : Def := ⟨2, 0, [], (.cons (.ret (.bin .add (.bin .add (.sl (.var 0) .no (.so (.var 1))) (.tup (.cons (.ix (.var 0) (.bin .add (.var 1) (.cst (.int 1)))) (.cons (.ix (.var 0) (.var 1)) .nil)))) (.sl (.var 0) (.so (.bin .add (.var 1) (.cst (.int 2)))) .no)))
  .nil)⟩

/-- _law_far -/
def d123 : Def := ⟨2, 8, [], (.cons (.par [2, 3, 4] (.cons (.lst (.cons (.var 0) .nil)) (.cons (.lst (.cons (.var 0) .nil)) (.cons (.cst (.int 0)) .nil))))
  (.cons (.loop (.nm 5) (.r1 (.cst (.int 30)))
  (.cons (.cond (.cmp .inn (.var 1) (.var 2))
  (.cons (.ret (.var 4))
  .nil)
  .nil)
  (.cons (.asg 6 (.lst .nil))
  (.cons (.loop (.nm 7) (.var 3)
  (.cons (.loop (.nm 8) (.r1 (.bin .sub (.b1 .len (.var 7)) (.cst (.int 1))))
  (.cons (.asg 9 (.call 122 (.cons (.var 7) (.cons (.var 8) .nil))))
  (.cons (.cond (.and (.cmp .nin (.var 9) (.var 2)) (.call 6 (.cons (.var 9) .nil)))
  (.cons (.exp (.app 2 (.var 9)))
  (.cons (.exp (.app 6 (.var 9)))
  .nil))
  .nil)
  .nil)))
  .nil))
  (.cons (.par [3, 4] (.cons (.var 6) (.cons (.bin .add (.var 4) (.cst (.int 1))) .nil)))
  .nil)))))
  (.cons (.ret (.cst .none))
  .nil)))⟩

/-- _law_pairs -/
def d124 : Def := ⟨2, 3, [], (.cons (.asg 2 (.cst (.int 0)))
  (.cons (.loop (.nm 3) (.r1 (.b1 .len (.var 0)))
  (.cons (.asg 2 (.bin .add (.var 2) (.b1 .len (.lc (.var 4) (.nm 4) (.val (.sl (.var 0) .no (.so (.var 3)))) (.so (.cmp .gt (.m1 .index (.var 1) (.var 4)) (.m1 .index (.var 1) (.ix (.var 0) (.var 3))))) [4]))))
  .nil))
  (.cons (.ret (.var 2))
  .nil)))⟩

/-- law -/
def d125 : Def := ⟨1, 13, [], (.cons (.asg 1 (.call 13 (.cons (.var 0) (.cons (.cst (.int 2419)) .nil))))
  (.cons (.asg 2 (.bin .add (.cst (.int 1)) (.call 14 (.cons (.var 1) (.cons (.cst (.int 6)) .nil)))))
  (.cons (.par [3, 4] (.cons (.call 17 (.cons (.var 1) (.cons (.var 2) .nil))) (.cons (.call 17 (.cons (.var 1) (.cons (.var 2) .nil))) .nil)))
  (.cons (.cond (.not (.call 16 (.cons (.call 118 (.cons (.var 3) (.cons (.var 4) .nil))) (.cons (.call 123 (.cons (.var 3) (.cons (.var 4) .nil))) .nil))))
  (.cons (.ret (.cst (.bool false)))
  .nil)
  .nil)
  (.cons (.asg 2 (.bin .add (.cst (.int 1)) (.call 14 (.cons (.var 1) (.cons (.call 15 (.cons (.var 1) (.cons (.lst (.cons (.cst (.int 6)) (.cons (.cst (.int 12)) (.cons (.cst (.int 30)) .nil)))) .nil))) .nil)))))
  (.cons (.par [3, 4] (.cons (.call 17 (.cons (.var 1) (.cons (.var 2) .nil))) (.cons (.call 17 (.cons (.var 1) (.cons (.var 2) .nil))) .nil)))
  (.cons (.asg 5 (.call 120 (.cons (.var 3) (.cons (.var 4) .nil))))
  (.cons (.cond (.or (.not (.b1 (.isi .tuple) (.var 5))) (.or (.cmp .ne (.ix (.var 5) (.cst (.int 0))) (.var 3)) (.cmp .ne (.ix (.var 5) (.neg (.cst (.int 1)))) (.var 4))))
  (.cons (.ret (.cst (.bool false)))
  .nil)
  .nil)
  (.cons (.cond (.cmp .ne (.lc (.var 6) (.nm 6) (.var 5) (.so (.not (.call 6 (.cons (.var 6) .nil)))) [6]) (.lst .nil))
  (.cons (.ret (.cst (.bool false)))
  .nil)
  .nil)
  (.cons (.loop (.nm 7) (.r2 (.cst (.int 1)) (.b1 .len (.var 5)))
  (.cons (.cond (.cmp .nin (.ix (.var 5) (.var 7)) (.lc (.call 122 (.cons (.ix (.var 5) (.bin .sub (.var 7) (.cst (.int 1)))) (.cons (.var 8) .nil))) (.nm 8) (.r1 (.bin .sub (.var 2) (.cst (.int 1)))) .no [8]))
  (.cons (.ret (.cst (.bool false)))
  .nil)
  .nil)
  .nil))
  (.cons (.asg 9 (.call 124 (.cons (.var 3) (.cons (.var 4) .nil))))
  (.cons (.cond (.or (.not (.call 16 (.cons (.call 118 (.cons (.var 3) (.cons (.var 4) .nil))) (.cons (.var 9) .nil)))) (.cmp .ne (.b1 .len (.var 5)) (.bin .add (.var 9) (.cst (.int 1)))))
  (.cons (.ret (.cst (.bool false)))
  .nil)
  .nil)
  (.cons (.cond (.or (.cmp .ne (.call 118 (.cons (.var 4) (.cons (.var 3) .nil))) (.var 9)) (.cmp .ne (.call 118 (.cons (.var 3) (.cons (.var 3) .nil))) (.cst (.int 0))))
  (.cons (.ret (.cst (.bool false)))
  .nil)
  .nil)
  (.cons (.asg 2 (.bin .add (.cst (.int 31)) (.call 14 (.cons (.var 1) (.cons (.cst (.int 70)) .nil)))))
  (.cons (.par [10, 11] (.cons (.call 17 (.cons (.var 1) (.cons (.var 2) .nil))) (.cons (.call 17 (.cons (.var 1) (.cons (.var 2) .nil))) .nil)))
  (.cons (.cond (.and (.cmp .eq (.call 14 (.cons (.var 1) (.cons (.cst (.int 6)) .nil))) (.cst (.int 0))) (.not (.call 16 (.cons (.call 118 (.cons (.var 10) (.cons (.var 11) .nil))) (.cons (.call 124 (.cons (.var 10) (.cons (.var 11) .nil))) .nil)))))
  (.cons (.ret (.cst (.bool false)))
  .nil)
  .nil)
  (.cons (.asg 2 (.b1 .len (.var 3)))
  (.cons (.loop (.nm 12) (.val (.lst (.cons (.cst (.str ⟨#[98, 101, 116, 119, 101, 101, 110]⟩)) (.cons (.cst (.str ⟨#[114, 111, 119, 115]⟩)) .nil))))
  (.cons (.loop (.nm 13) (.val (.lst (.cons (.cst .none) (.cons (.tup .nil) (.cons (.tup (.cons (.cst (.int 0)) (.cons (.cst (.int 2)) (.cons (.cst (.int 1)) .nil)))) (.cons (.lst (.cons (.cst (.int 0)) .nil)) (.cons (.cst (.int 3)) (.cons (.bin .add (.var 3) (.tup (.cons (.var 2) .nil))) (.cons (.ite (.cmp .gt (.var 2) (.cst (.int 1))) (.sl (.var 3) (.so (.cst (.int 1))) .no) (.tup .nil)) .nil)))))))))
  (.cons (.cond (.or (.not (.call 121 (.cons (.var 12) (.cons (.var 3) (.cons (.var 13) .nil))))) (.and (.cmp .ne (.var 13) (.bin .add (.var 3) (.tup (.cons (.var 2) .nil)))) (.and (.not (.call 6 (.cons (.var 13) .nil))) (.not (.call 121 (.cons (.var 12) (.cons (.var 13) (.cons (.var 3) .nil))))))))
  (.cons (.ret (.cst (.bool false)))
  .nil)
  .nil)
  .nil))
  .nil))
  (.cons (.ret (.cst (.bool true)))
  .nil)))))))))))))))))))⟩

/-- behind -/
def d126 : Def := ⟨2, 1, [], (.cons (.ret (.b1 .tuple (.lc (.ix (.var 0) (.var 2)) (.nm 2) (.var 1) .no [2])))
  .nil)⟩

/-- rest_of -/
def d127 : Def := ⟨2, 3, [], (.cons (.asg 2 (.dc (.var 4) (.var 3) (.tup [3, 4]) (.envar 1) .no [3, 4]))
  (.cons (.ret (.b1 .tuple (.lc (.ix (.var 2) (.var 4)) (.nm 4) (.var 0) .no [4])))
  .nil))⟩

/-- two_rows -/
def d128 : Def := ⟨1, 2, [], (.cons (.exp (.call 3 (.cons (.var 0) .nil)))
  (.cons (.cond (.cmp .gt (.b1 .len (.var 0)) (.glo 4 (.int 12)))
  (.cons (.rais 12 .no)
  .nil)
  .nil)
  (.cons (.loop (.nm 1) (.val (.b1 .sorted (.call 34 (.cons (.b1 .len (.var 0)) .nil))))
  (.cons (.asg 2 (.call 127 (.cons (.var 0) (.cons (.var 1) .nil))))
  (.cons (.cond (.call 6 (.cons (.var 2) .nil))
  (.cons (.ret (.tup (.cons (.var 1) (.cons (.var 2) .nil))))
  .nil)
  .nil)
  .nil)))
  (.cons (.ret (.cst .none))
  .nil))))⟩

/-- fewest_laces -/
def d129 : Def := ⟨1, 10, [], (.cons (.exp (.call 3 (.cons (.var 0) .nil)))
  (.cons (.asg 1 (.b1 .len (.var 0)))
  (.cons (.cond (.cmp .gt (.var 1) (.glo 5 (.int 7)))
  (.cons (.rais 12 .no)
  .nil)
  .nil)
  (.cons (.par [2, 3] (.cons (.call 34 (.cons (.var 1) .nil)) (.cons (.b1 .tuple (.rg1 true (.var 1))) .nil)))
  (.cons (.par [4, 5, 6] (.cons (.dsp (.var 3) (.cst (.int 0))) (.cons (.lst (.cons (.var 3) .nil)) (.cons (.cst (.int 0)) .nil))))
  (.cons (.whil (.din true (.var 0) 4)
  (.cons (.par [8, 6] (.cons (.lst .nil) (.cons (.bin .add (.var 6) (.cst (.int 1))) .nil)))
  (.cons (.loop (.nm 7) (.var 5)
  (.cons (.loop (.nm 9) (.var 2)
  (.cons (.asg 10 (.call 126 (.cons (.var 7) (.cons (.var 9) .nil))))
  (.cons (.cond (.din true (.var 10) 4)
  (.cons (.sub 4 (.var 10) (.var 6))
  (.cons (.exp (.app 8 (.var 10)))
  .nil))
  .nil)
  .nil)))
  .nil))
  (.cons (.asg 5 (.var 8))
  .nil))))
  (.cons (.ret (.ix (.var 4) (.var 0)))
  .nil)))))))⟩

/-- _law_word -/
def d130 : Def := ⟨2, 1, [], (.cons (.asg 2 (.cst (.str ⟨#[]⟩)))
  (.cons (.tri (.cons (.cond (.cmp .eq (.var 0) (.cst (.str ⟨#[116, 119, 111]⟩)))
  (.cons (.exp (.call 128 (.cons (.var 1) .nil)))
  .nil)
  (.cons (.exp (.call 129 (.cons (.var 1) .nil)))
  .nil))
  .nil)
  [(2, none, .set 2 (.str ⟨#[111, 114, 100, 101, 114]⟩)), (12, none, .set 2 (.str ⟨#[103, 114, 101, 97, 116]⟩))])
  (.cons (.ret (.var 2))
  .nil)))⟩

/-- _law_both -/
def d131 : Def := ⟨2, 1, [], (.cons (.ret (.b1 .tuple (.lc (.ix (.var 0) (.var 2)) (.nm 2) (.var 1) .no [2])))
  .nil)⟩

/-- law -/
def d133 : Def := ⟨1, 18, [], (.cons (.asg 1 (.call 13 (.cons (.var 0) (.cons (.cst (.int 2420)) .nil))))
  (.cons (.asg 2 (.bin .add (.cst (.int 1)) (.call 14 (.cons (.var 1) (.cons (.cst (.int 5)) .nil)))))
  (.cons (.asg 3 (.call 19 (.cons (.var 2) .nil)))
  (.cons (.asg 4 (.call 15 (.cons (.var 1) (.cons (.lst (.cons (.call 18 (.cons (.var 1) (.cons (.var 2) .nil))) (.cons (.call 131 (.cons (.call 15 (.cons (.var 1) (.cons (.var 3) .nil))) (.cons (.call 15 (.cons (.var 1) (.cons (.var 3) .nil))) .nil))) .nil))) .nil))))
  (.cons (.asg 5 (.lst .nil))
  (.cons (.loop (.nm 6) (.var 3)
  (.cons (.asg 5 (.bin .add (.var 5) (.lc (.tup (.cons (.var 6) (.cons (.var 7) .nil))) (.nm 7) (.var 3) (.so (.cmp .eq (.call 131 (.cons (.var 6) (.cons (.var 7) .nil))) (.var 4))) [7])))
  .nil))
  (.cons (.cond (.not (.call 16 (.cons (.call 128 (.cons (.var 4) .nil)) (.cons (.ite (.cmp .ne (.var 5) (.lst .nil)) (.b1 .min (.var 5)) (.cst .none)) .nil))))
  (.cons (.ret (.cst (.bool false)))
  .nil)
  .nil)
  (.cons (.par [8, 9, 10] (.cons (.lst (.cons (.rg1 false (.var 2)) .nil)) (.cons (.lst (.cons (.rg1 false (.var 2)) .nil)) (.cons (.cst (.int 0)) .nil))))
  (.cons (.loop (.nm 11) (.r1 (.cst (.int 9)))
  (.cons (.cond (.cmp .nin (.var 4) (.var 8))
  (.cons (.asg 12 (.lst .nil))
  (.cons (.loop (.nm 13) (.var 9)
  (.cons (.asg 12 (.bin .add (.var 12) (.lc (.call 131 (.cons (.var 13) (.cons (.var 14) .nil))) (.nm 14) (.var 3) .no [14])))
  .nil))
  (.cons (.asg 9 (.b1 .sortset (.lc (.var 6) (.nm 6) (.var 12) (.so (.cmp .nin (.var 6) (.var 8))) [6])))
  (.cons (.par [8, 10] (.cons (.bin .add (.var 8) (.var 9)) (.cons (.bin .add (.var 10) (.cst (.int 1))) .nil)))
  .nil))))
  .nil)
  .nil))
  (.cons (.cond (.not (.call 16 (.cons (.call 129 (.cons (.var 4) .nil)) (.cons (.var 10) .nil))))
  (.cons (.ret (.cst (.bool false)))
  .nil)
  .nil)
  (.cons (.asg 2 (.bin .add (.cst (.int 7)) (.call 14 (.cons (.var 1) (.cons (.cst (.int 3)) .nil)))))
  (.cons (.par [6, 7] (.cons (.call 17 (.cons (.var 1) (.cons (.var 2) .nil))) (.cons (.call 17 (.cons (.var 1) (.cons (.var 2) .nil))) .nil)))
  (.cons (.asg 15 (.call 128 (.cons (.call 131 (.cons (.var 6) (.cons (.var 7) .nil))) .nil)))
  (.cons (.cond (.or (.isN (.var 15)) (.or (.not (.call 6 (.cons (.ix (.var 15) (.cst (.int 0))) .nil))) (.or (.not (.call 6 (.cons (.ix (.var 15) (.cst (.int 1))) .nil))) (.cmp .gt (.var 15) (.tup (.cons (.var 6) (.cons (.var 7) .nil)))))))
  (.cons (.ret (.cst (.bool false)))
  .nil)
  .nil)
  (.cons (.cond (.cmp .ne (.call 131 (.cons (.ix (.var 15) (.cst (.int 0))) (.cons (.ix (.var 15) (.cst (.int 1))) .nil))) (.call 131 (.cons (.var 6) (.cons (.var 7) .nil))))
  (.cons (.ret (.cst (.bool false)))
  .nil)
  .nil)
  (.cons (.cond (.not (.call 132 (.cons (.var 1) .nil)))
  (.cons (.ret (.cst (.bool false)))
  .nil)
  .nil)
  (.cons (.loop (.tup [16, 17]) (.val (.lst (.cons (.tup (.cons (.cst (.str ⟨#[116, 119, 111]⟩)) (.cons (.cst (.int 12)) .nil))) (.cons (.tup (.cons (.cst (.str ⟨#[102, 101, 119]⟩)) (.cons (.cst (.int 7)) .nil))) .nil))))
  (.cons (.loop (.nm 18) (.val (.lst (.cons (.cst .none) (.cons (.tup .nil) (.cons (.tup (.cons (.cst (.int 0)) (.cons (.cst (.int 0)) .nil))) (.cons (.lst (.cons (.cst (.int 0)) .nil)) (.cons (.cst (.int 3)) (.cons (.tup (.cons (.cst (.int 1)) .nil)) .nil))))))))
  (.cons (.cond (.cmp .ne (.call 130 (.cons (.var 16) (.cons (.var 18) .nil))) (.cst (.str ⟨#[111, 114, 100, 101, 114]⟩)))
  (.cons (.ret (.cst (.bool false)))
  .nil)
  .nil)
  .nil))
  (.cons (.cond (.or (.cmp .ne (.call 130 (.cons (.var 16) (.cons (.bin .mul (.tup (.cons (.cst (.int 0)) .nil)) (.bin .add (.var 17) (.cst (.int 1)))) .nil))) (.cst (.str ⟨#[111, 114, 100, 101, 114]⟩))) (.cmp .ne (.call 130 (.cons (.var 16) (.cons (.rg2 false (.cst (.int 1)) (.bin .add (.var 17) (.cst (.int 2)))) .nil))) (.cst (.str ⟨#[111, 114, 100, 101, 114]⟩))))
  (.cons (.ret (.cst (.bool false)))
  .nil)
  .nil)
  (.cons (.cond (.or (.cmp .ne (.call 130 (.cons (.var 16) (.cons (.rg1 false (.bin .add (.var 17) (.cst (.int 1)))) .nil))) (.cst (.str ⟨#[103, 114, 101, 97, 116]⟩))) (.cmp .ne (.call 130 (.cons (.cst (.str ⟨#[102, 101, 119]⟩)) (.cons (.rg1 false (.cst (.int 7))) .nil))) (.cst (.str ⟨#[]⟩))))
  (.cons (.ret (.cst (.bool false)))
  .nil)
  .nil)
  .nil))))
  (.cons (.ret (.cst (.bool true)))
  .nil))))))))))))))))))⟩

/-- circles_of -/
def d134 : Def := ⟨1, 5, [], (.cons (.par [1, 2] (.cons (.lst .nil) (.cons (.dnew false) .nil)))
  (.cons (.loop (.nm 3) (.r1 (.b1 .len (.var 0)))
  (.cons (.par [4, 5] (.cons (.lst .nil) (.cons (.var 3) .nil)))
  (.cons (.whil (.din true (.var 5) 2)
  (.cons (.sub 2 (.var 5) (.cst (.bool true)))
  (.cons (.exp (.app 4 (.var 5)))
  (.cons (.asg 5 (.ix (.var 0) (.var 5)))
  .nil))))
  (.cons (.cond (.cmp .gt (.b1 .len (.var 4)) (.cst (.int 0)))
  (.cons (.exp (.app 1 (.var 4)))
  .nil)
  .nil)
  .nil))))
  (.cons (.ret (.var 1))
  .nil)))⟩

/-- done_by -/
def d135 : Def := ⟨2, 4, [], (.cons (.asg 2 (.b1 .list (.var 0)))
  (.cons (.loop (.nm 3) (.val (.call 134 (.cons (.var 0) .nil)))
  (.cons (.loop (.tup [4, 5]) (.envar 3)
  (.cons (.sub 2 (.var 5) (.ix (.var 3) (.bin .mod (.bin .add (.var 4) (.var 1)) (.b1 .len (.var 3)))))
  .nil))
  .nil))
  (.cons (.ret (.b1 .tuple (.var 2)))
  .nil)))⟩

/-- done -/
def d136 : Def := ⟨2, 0, [], (.cons (.exp (.call 7 (.cons (.var 0) .nil)))
  (.cons (.cond (.not (.call 1 (.cons (.var 1) (.cons (.cst (.int 0)) (.cons (.glo 7 (.int 1000000000000000000000000000000)) .nil)))))
  (.cons (.rais 11 .no)
  .nil)
  .nil)
  (.cons (.ret (.call 135 (.cons (.var 0) (.cons (.var 1) .nil))))
  .nil)))⟩

/-- divisor -/
def d137 : Def := ⟨2, 0, [0, 1], (.cons (.whil (.cmp .ne (.var 1) (.cst (.int 0)))
  (.cons (.par [0, 1] (.cons (.var 1) (.cons (.bin .mod (.var 0) (.var 1)) .nil)))
  .nil))
  (.cons (.ret (.var 0))
  .nil))⟩

/-- round_of -/
def d138 : Def := ⟨1, 2, [], (.cons (.exp (.call 7 (.cons (.var 0) .nil)))
  (.cons (.asg 1 (.cst (.int 1)))
  (.cons (.loop (.nm 2) (.val (.call 134 (.cons (.var 0) .nil)))
  (.cons (.asg 1 (.bin .fdiv (.bin .mul (.var 1) (.b1 .len (.var 2))) (.call 137 (.cons (.var 1) (.cons (.b1 .len (.var 2)) .nil)))))
  .nil))
  (.cons (.ret (.var 1))
  .nil))))⟩

/-- next_row -/
def d139 : Def := ⟨1, 2, [], (.cons (.exp (.call 7 (.cons (.var 0) .nil)))
  (.cons (.cond (.cmp .gt (.b1 .len (.var 0)) (.glo 6 (.int 24)))
  (.cons (.rais 12 .no)
  .nil)
  .nil)
  (.cons (.par [1, 2] (.cons (.call 126 (.cons (.var 0) (.cons (.var 0) .nil))) (.cons (.cst (.int 2)) .nil)))
  (.cons (.whil (.not (.call 6 (.cons (.var 1) .nil)))
  (.cons (.par [1, 2] (.cons (.call 126 (.cons (.var 1) (.cons (.var 0) .nil))) (.cons (.bin .add (.var 2) (.cst (.int 1))) .nil)))
  .nil))
  (.cons (.ret (.var 2))
  .nil)))))⟩

/-- _law_word -/
def d140 : Def := ⟨3, 1, [], (.cons (.asg 3 (.cst (.str ⟨#[]⟩)))
  (.cons (.tri (.cons (.cond (.cmp .eq (.var 0) (.cst (.str ⟨#[100, 111, 110, 101]⟩)))
  (.cons (.exp (.call 136 (.cons (.var 1) (.cons (.var 2) .nil))))
  .nil)
  (.cons (.cond (.cmp .eq (.var 0) (.cst (.str ⟨#[114, 111, 117, 110, 100]⟩)))
  (.cons (.exp (.call 138 (.cons (.var 1) .nil)))
  .nil)
  (.cons (.exp (.call 139 (.cons (.var 1) .nil)))
  .nil))
  .nil))
  .nil)
  [(3, none, .set 3 (.str ⟨#[114, 111, 119]⟩)), (11, none, .set 3 (.str ⟨#[116, 105, 109, 101, 115]⟩)), (12, none, .set 3 (.str ⟨#[103, 114, 101, 97, 116]⟩))])
  (.cons (.ret (.var 3))
  .nil)))⟩

/-- _law_longer_right -/
def d141 : Def := ⟨1, 8, [], (.cons (.asg 1 (.bin .add (.cst (.int 15)) (.call 14 (.cons (.var 0) (.cons (.cst (.int 10)) .nil)))))
  (.cons (.par [2, 3] (.cons (.call 17 (.cons (.var 0) (.cons (.var 1) .nil))) (.cons (.rg1 false (.var 1)) .nil)))
  (.cons (.par [4, 5, 6] (.cons (.var 2) (.cons (.cst .none) (.cons (.ite (.cmp .eq (.var 2) (.var 3)) (.cst (.int 1)) (.cst .none)) .nil))))
  (.cons (.loop (.nm 7) (.r2 (.cst (.int 2)) (.cst (.int 3000)))
  (.cons (.cond (.or (.isN (.var 5)) (.isN (.var 6)))
  (.cons (.asg 4 (.b1 .tuple (.lc (.ix (.var 4) (.var 8)) (.nm 8) (.var 2) .no [8])))
  (.cons (.asg 5 (.ite (.and (.isN (.var 5)) (.call 6 (.cons (.var 4) .nil))) (.var 7) (.var 5)))
  (.cons (.asg 6 (.ite (.and (.isN (.var 6)) (.cmp .eq (.var 4) (.var 3))) (.var 7) (.var 6)))
  .nil)))
  .nil)
  .nil))
  (.cons (.ret (.or (.isN (.var 6)) (.and (.call 16 (.cons (.call 138 (.cons (.var 2) .nil)) (.cons (.var 6) .nil))) (.call 16 (.cons (.call 139 (.cons (.var 2) .nil)) (.cons (.var 5) .nil))))))
  .nil)))))⟩

/-- law -/
def d142 : Def := ⟨1, 13, [], (.cons (.asg 1 (.call 13 (.cons (.var 0) (.cons (.cst (.int 2421)) .nil))))
  (.cons (.asg 2 (.bin .add (.cst (.int 1)) (.call 14 (.cons (.var 1) (.cons (.call 15 (.cons (.var 1) (.cons (.lst (.cons (.cst (.int 4)) (.cons (.cst (.int 9)) (.cons (.cst (.int 14)) .nil)))) .nil))) .nil)))))
  (.cons (.par [3, 4] (.cons (.call 17 (.cons (.var 1) (.cons (.var 2) .nil))) (.cons (.rg1 false (.var 2)) .nil)))
  (.cons (.par [5, 6, 7] (.cons (.var 4) (.cons (.lst .nil) (.cons (.lst (.cons (.var 4) .nil)) .nil))))
  (.cons (.loop (.nm 8) (.r2 (.cst (.int 1)) (.cst (.int 400)))
  (.cons (.asg 5 (.b1 .tuple (.lc (.ix (.var 5) (.var 9)) (.nm 9) (.var 3) .no [9])))
  (.cons (.cond (.or (.cmp .eq (.var 6) (.lst .nil)) (.cmp .gt (.ix (.var 6) (.cst (.int 0))) (.bin .sub (.var 8) (.cst (.int 3)))))
  (.cons (.exp (.app 7 (.var 5)))
  .nil)
  .nil)
  (.cons (.cond (.cmp .eq (.var 5) (.var 4))
  (.cons (.exp (.app 6 (.var 8)))
  .nil)
  .nil)
  .nil))))
  (.cons (.cond (.or (.cmp .eq (.var 6) (.lst .nil)) (.not (.call 16 (.cons (.call 138 (.cons (.var 3) .nil)) (.cons (.ix (.var 6) (.cst (.int 0))) .nil)))))
  (.cons (.ret (.cst (.bool false)))
  .nil)
  .nil)
  (.cons (.asg 8 (.call 14 (.cons (.var 1) (.cons (.b1 .len (.var 7)) .nil))))
  (.cons (.asg 10 (.bin .sub (.bin .pow (.cst (.int 10)) (.cst (.int 30))) (.call 14 (.cons (.var 1) (.cons (.cst (.int 999)) .nil)))))
  (.cons (.cond (.not (.call 16 (.cons (.call 136 (.cons (.var 3) (.cons (.var 8) .nil))) (.cons (.ix (.var 7) (.var 8)) .nil))))
  (.cons (.ret (.cst (.bool false)))
  .nil)
  .nil)
  (.cons (.cond (.not (.call 16 (.cons (.call 136 (.cons (.var 3) (.cons (.var 10) .nil))) (.cons (.ix (.var 7) (.bin .mod (.var 10) (.ix (.var 6) (.cst (.int 0))))) .nil))))
  (.cons (.ret (.cst (.bool false)))
  .nil)
  .nil)
  (.cons (.asg 11 (.lc (.var 8) (.nm 8) (.r2 (.cst (.int 2)) (.b1 .len (.var 7))) (.so (.call 6 (.cons (.ix (.var 7) (.var 8)) .nil))) [8]))
  (.cons (.cond (.or (.not (.call 16 (.cons (.call 139 (.cons (.var 3) .nil)) (.cons (.ix (.var 11) (.cst (.int 0))) .nil)))) (.not (.chn .le .le (.cst (.int 2)) (.call 139 (.cons (.var 3) .nil)) (.bin .add (.call 138 (.cons (.var 3) .nil)) (.cst (.int 1))))))
  (.cons (.ret (.cst (.bool false)))
  .nil)
  .nil)
  (.cons (.asg 2 (.bin .add (.cst (.int 25)) (.call 14 (.cons (.var 1) (.cons (.cst (.int 76)) .nil)))))
  (.cons (.asg 10 (.call 17 (.cons (.var 1) (.cons (.var 2) .nil))))
  (.cons (.cond (.or (.cmp .ne (.call 136 (.cons (.var 10) (.cons (.cst (.int 0)) .nil))) (.rg1 false (.var 2))) (.or (.cmp .ne (.call 136 (.cons (.var 10) (.cons (.cst (.int 1)) .nil))) (.var 10)) (.cmp .ne (.call 140 (.cons (.cst (.str ⟨#[110, 101, 120, 116]⟩)) (.cons (.var 10) (.cons (.cst .none) .nil)))) (.cst (.str ⟨#[103, 114, 101, 97, 116]⟩)))))
  (.cons (.ret (.cst (.bool false)))
  .nil)
  .nil)
  (.cons (.cond (.or (.cmp .ne (.call 136 (.cons (.var 10) (.cons (.cst (.int 2)) .nil))) (.b1 .tuple (.lc (.ix (.var 10) (.var 9)) (.nm 9) (.var 10) .no [9]))) (.cmp .ne (.call 136 (.cons (.var 10) (.cons (.call 138 (.cons (.var 10) .nil)) .nil))) (.rg1 false (.var 2))))
  (.cons (.ret (.cst (.bool false)))
  .nil)
  .nil)
  (.cons (.cond (.not (.call 141 (.cons (.var 1) .nil)))
  (.cons (.ret (.cst (.bool false)))
  .nil)
  .nil)
  (.cons (.loop (.nm 12) (.val (.lst (.cons (.cst (.str ⟨#[100, 111, 110, 101]⟩)) (.cons (.cst (.str ⟨#[114, 111, 117, 110, 100]⟩)) (.cons (.cst (.str ⟨#[110, 101, 120, 116]⟩)) .nil)))))
  (.cons (.loop (.nm 13) (.val (.lst (.cons (.cst .none) (.cons (.tup .nil) (.cons (.tup (.cons (.cst (.int 0)) (.cons (.cst (.int 2)) (.cons (.cst (.int 1)) .nil)))) (.cons (.lst (.cons (.cst (.int 0)) .nil)) (.cons (.cst (.int 3)) (.cons (.bin .add (.tup (.cons (.cst (.int 0)) (.cons (.cst (.int 2)) .nil))) (.rg1 false (.cst (.int 30)))) (.cons (.bin .mul (.tup (.cons (.cst (.int 0)) .nil)) (.cst (.int 25))) .nil)))))))))
  (.cons (.cond (.cmp .ne (.call 140 (.cons (.var 12) (.cons (.var 13) (.cons (.cst .none) .nil)))) (.cst (.str ⟨#[114, 111, 119]⟩)))
  (.cons (.ret (.cst (.bool false)))
  .nil)
  .nil)
  .nil))
  .nil))
  (.cons (.ret (.cmp .eq (.lc (.var 13) (.nm 13) (.val (.lst (.cons (.cst .none) (.cons (.neg (.cst (.int 1))) (.cons (.bin .add (.bin .pow (.cst (.int 10)) (.cst (.int 30))) (.cst (.int 1))) (.cons (.cst (.str ⟨#[49]⟩)) (.cons (.cst (.bool true)) .nil))))))) (.so (.cmp .ne (.call 140 (.cons (.cst (.str ⟨#[100, 111, 110, 101]⟩)) (.cons (.var 3) (.cons (.var 13) .nil)))) (.cst (.str ⟨#[116, 105, 109, 101, 115]⟩)))) [13]) (.lst .nil)))
  .nil)))))))))))))))))))⟩

/-- check_held -/
def d143 : Def := ⟨3, 0, [], (.cons (.exp (.call 25 (.cons (.var 0) (.cons (.cst (.int 1)) (.cons (.glo 8 (.int 6)) .nil)))))
  (.cons (.exp (.call 25 (.cons (.var 1) (.cons (.cst (.int 1)) (.cons (.var 0) .nil)))))
  (.cons (.cond (.not (.call 1 (.cons (.var 2) (.cons (.cst (.int 1)) (.cons (.glo 9 (.int 4)) .nil)))))
  (.cons (.rais 6 .no)
  .nil)
  .nil)
  .nil)))⟩

/-- all_packs -/
def d144 : Def := ⟨2, 4, [], (.cons (.asg 2 (.lst (.cons (.tup .nil) .nil)))
  (.cons (.loop (.nm 3) (.r1 (.var 0))
  (.cons (.asg 2 (.lc2 (.tup (.star (.var 4) (.cons (.var 5) .nil))) (.nm 4) (.var 2) (.nm 5) (.r1 (.var 1)) [4, 5] [5]))
  .nil))
  (.cons (.ret (.var 2))
  .nil)))⟩

/-- holding -/
def d145 : Def := ⟨3, 1, [], (.cons (.ret (.lc (.var 3) (.nm 3) (.val (.call 144 (.cons (.var 0) (.cons (.var 2) .nil)))) (.so (.isN (.call 56 (.cons (.var 3) (.cons (.var 1) .nil))))) [3]))
  .nil)⟩

/-- count_holding -/
def d146 : Def := ⟨3, 0, [], (.cons (.exp (.call 143 (.cons (.var 0) (.cons (.var 1) (.cons (.var 2) .nil)))))
  (.cons (.ret (.b1 .len (.call 145 (.cons (.var 0) (.cons (.var 1) (.cons (.var 2) .nil))))))
  .nil))⟩

/-- least_holding -/
def d147 : Def := ⟨3, 1, [], (.cons (.exp (.call 143 (.cons (.var 0) (.cons (.var 1) (.cons (.var 2) .nil)))))
  (.cons (.asg 3 (.call 145 (.cons (.var 0) (.cons (.var 1) (.cons (.var 2) .nil)))))
  (.cons (.ret (.ite (.cmp .gt (.b1 .len (.var 3)) (.cst (.int 0))) (.ix (.var 3) (.cst (.int 0))) (.cst .none)))
  .nil)))⟩

/-- _law_every -/
def d148 : Def := ⟨1, 5, [], (.cons (.asg 1 (.lc (.tup (.cons (.var 2) .nil)) (.nm 2) (.r1 (.var 0)) .no [2]))
  (.cons (.loop (.nm 3) (.r1 (.bin .sub (.var 0) (.cst (.int 1))))
  (.cons (.asg 4 (.lst .nil))
  (.cons (.loop (.nm 5) (.var 1)
  (.cons (.loop (.nm 2) (.r1 (.var 0))
  (.cons (.cond (.or (.cmp .eq (.var 2) (.bin .sub (.b1 .min (.var 5)) (.cst (.int 1)))) (.cmp .eq (.var 2) (.bin .add (.b1 .max (.var 5)) (.cst (.int 1)))))
  (.cons (.exp (.app 4 (.bin .add (.var 5) (.tup (.cons (.var 2) .nil)))))
  .nil)
  .nil)
  .nil))
  .nil))
  (.cons (.asg 1 (.var 4))
  .nil))))
  (.cons (.ret (.b1 .sorted (.var 1)))
  .nil)))⟩

/-- _law_breaks -/
def d149 : Def := ⟨3, 4, [], (.cons (.asg 3 (.lst .nil))
  (.cons (.loop (.nm 4) (.var 2)
  (.cons (.asg 5 (.call 47 (.cons (.lc (.ix (.var 0) (.var 6)) (.nm 6) (.var 4) .no [6]) (.cons (.var 1) .nil))))
  (.cons (.cond (.ntN (.var 5))
  (.cons (.exp (.app 3 (.tup (.cons (.var 4) (.cons (.var 5) .nil)))))
  .nil)
  .nil)
  .nil)))
  (.cons (.ret (.var 3))
  .nil)))⟩

/-- _law_word -/
def d150 : Def := ⟨4, 1, [], (.cons (.asg 4 (.cst (.str ⟨#[]⟩)))
  (.cons (.tri (.cons (.cond (.cmp .eq (.var 0) (.cst (.str ⟨#[99, 111, 117, 110, 116]⟩)))
  (.cons (.exp (.call 146 (.cons (.var 1) (.cons (.var 2) (.cons (.var 3) .nil)))))
  .nil)
  (.cons (.exp (.call 147 (.cons (.var 1) (.cons (.var 2) (.cons (.var 3) .nil)))))
  .nil))
  .nil)
  [(1, none, .set 4 (.str ⟨#[115, 105, 122, 101]⟩)), (6, none, .set 4 (.str ⟨#[110, 117, 109, 98, 101, 114]⟩))])
  (.cons (.ret (.var 4))
  .nil)))⟩

/-- law -/
def d151 : Def := ⟨1, 13, [], (.cons (.asg 1 (.call 13 (.cons (.var 0) (.cons (.cst (.int 2422)) .nil))))
  (.cons (.par [2, 3] (.cons (.bin .add (.cst (.int 1)) (.call 14 (.cons (.var 1) (.cons (.cst (.int 5)) .nil)))) (.cons (.bin .add (.cst (.int 1)) (.call 14 (.cons (.var 1) (.cons (.cst (.int 3)) .nil)))) .nil)))
  (.cons (.cond (.cmp .eq (.call 14 (.cons (.var 1) (.cons (.cst (.int 40)) .nil))) (.cst (.int 0)))
  (.cons (.par [2, 3] (.cons (.cst (.int 6)) (.cons (.bin .add (.cst (.int 2)) (.call 14 (.cons (.var 1) (.cons (.cst (.int 3)) .nil)))) .nil)))
  .nil)
  .nil)
  (.cons (.par [4, 5] (.cons (.bin .add (.cst (.int 1)) (.call 14 (.cons (.var 1) (.cons (.var 2) .nil)))) (.cons (.lst (.cons (.tup .nil) .nil)) .nil)))
  (.cons (.loop (.nm 6) (.r1 (.var 2))
  (.cons (.asg 7 (.lst .nil))
  (.cons (.loop (.nm 8) (.var 5)
  (.cons (.asg 7 (.bin .add (.var 7) (.lc (.bin .add (.var 8) (.tup (.cons (.var 9) .nil))) (.nm 9) (.r1 (.var 3)) .no [9])))
  .nil))
  (.cons (.asg 5 (.var 7))
  .nil))))
  (.cons (.asg 10 (.call 148 (.cons (.var 2) .nil)))
  (.cons (.asg 11 (.lc (.var 8) (.nm 8) (.var 5) (.so (.cmp .eq (.call 149 (.cons (.var 8) (.cons (.var 4) (.cons (.var 10) .nil)))) (.lst .nil))) [8]))
  (.cons (.cond (.cmp .ne (.lc (.var 8) (.nm 8) (.var 11) (.so (.not (.call 57 (.cons (.var 8) (.cons (.var 4) .nil))))) [8]) (.lst .nil))
  (.cons (.ret (.cst (.bool false)))
  .nil)
  .nil)
  (.cons (.cond (.not (.call 16 (.cons (.call 146 (.cons (.var 2) (.cons (.var 4) (.cons (.var 3) .nil)))) (.cons (.b1 .len (.var 11)) .nil))))
  (.cons (.ret (.cst (.bool false)))
  .nil)
  .nil)
  (.cons (.cond (.not (.call 16 (.cons (.call 147 (.cons (.var 2) (.cons (.var 4) (.cons (.var 3) .nil)))) (.cons (.ite (.cmp .ne (.var 11) (.lst .nil)) (.ix (.var 11) (.cst (.int 0))) (.cst .none)) .nil))))
  (.cons (.ret (.cst (.bool false)))
  .nil)
  .nil)
  (.cons (.loop (.nm 12) (.val (.lst (.cons (.cst (.str ⟨#[99, 111, 117, 110, 116]⟩)) (.cons (.cst (.str ⟨#[108, 101, 97, 115, 116]⟩)) .nil))))
  (.cons (.loop (.nm 13) (.val (.lst (.cons (.cst .none) (.cons (.cst (.int 0)) (.cons (.cst (.int 7)) (.cons (.cst (.str ⟨#[51]⟩)) (.cons (.cst (.bool true)) .nil)))))))
  (.cons (.cond (.cmp .ne (.call 150 (.cons (.var 12) (.cons (.var 13) (.cons (.cst .none) (.cons (.cst .none) .nil))))) (.cst (.str ⟨#[115, 105, 122, 101]⟩)))
  (.cons (.ret (.cst (.bool false)))
  .nil)
  .nil)
  .nil))
  (.cons (.loop (.nm 13) (.val (.lst (.cons (.cst .none) (.cons (.cst (.int 0)) (.cons (.bin .add (.var 2) (.cst (.int 1))) (.cons (.cst (.str ⟨#[49]⟩)) (.cons (.cst (.bool true)) .nil)))))))
  (.cons (.cond (.cmp .ne (.call 150 (.cons (.var 12) (.cons (.var 2) (.cons (.var 13) (.cons (.cst .none) .nil))))) (.cst (.str ⟨#[115, 105, 122, 101]⟩)))
  (.cons (.ret (.cst (.bool false)))
  .nil)
  .nil)
  .nil))
  (.cons (.loop (.nm 13) (.val (.lst (.cons (.cst .none) (.cons (.cst (.int 0)) (.cons (.cst (.int 5)) (.cons (.cst (.str ⟨#[49]⟩)) (.cons (.cst (.bool true)) .nil)))))))
  (.cons (.cond (.cmp .ne (.call 150 (.cons (.var 12) (.cons (.var 2) (.cons (.var 4) (.cons (.var 13) .nil))))) (.cst (.str ⟨#[110, 117, 109, 98, 101, 114]⟩)))
  (.cons (.ret (.cst (.bool false)))
  .nil)
  .nil)
  .nil))
  .nil))))
  (.cons (.ret (.cmp .eq (.call 150 (.cons (.cst (.str ⟨#[108, 101, 97, 115, 116]⟩)) (.cons (.cst (.int 6)) (.cons (.cst (.int 6)) (.cons (.cst (.int 1)) .nil))))) (.cst (.str ⟨#[]⟩))))
  .nil))))))))))))⟩

/-- _law_falls_told -/
def d152 : Def := ⟨0, 0, [], (.cons (.cond (.or (.cmp .ne (.call 111 (.cons (.tup (.cons (.cst (.int 1)) (.cons (.cst (.int 0)) (.cons (.cst (.int 2)) .nil)))) .nil)) (.tup (.cons (.cst (.int 1)) .nil))) (.or (.cmp .ne (.call 113 (.cons (.cst (.int 3)) (.cons (.tup (.cons (.cst (.int 1)) .nil)) .nil))) (.tup (.cons (.cst (.int 1)) (.cons (.cst (.int 0)) (.cons (.cst (.int 2)) .nil))))) (.cmp .ne (.call 113 (.cons (.cst (.int 4)) (.cons (.tup (.cons (.cst (.int 1)) (.cons (.cst (.int 2)) (.cons (.cst (.int 3)) .nil)))) .nil))) (.tup (.cons (.cst (.int 3)) (.cons (.cst (.int 2)) (.cons (.cst (.int 1)) (.cons (.cst (.int 0)) .nil))))))))
  (.cons (.ret (.cst (.bool false)))
  .nil)
  .nil)
  (.cons (.cond (.or (.cmp .ne (.call 118 (.cons (.tup (.cons (.cst (.int 0)) (.cons (.cst (.int 1)) (.cons (.cst (.int 2)) .nil)))) (.cons (.tup (.cons (.cst (.int 2)) (.cons (.cst (.int 1)) (.cons (.cst (.int 0)) .nil)))) .nil))) (.cst (.int 3))) (.cmp .ne (.call 118 (.cons (.tup (.cons (.cst (.int 1)) (.cons (.cst (.int 0)) (.cons (.cst (.int 2)) .nil)))) (.cons (.tup (.cons (.cst (.int 1)) (.cons (.cst (.int 2)) (.cons (.cst (.int 0)) .nil)))) .nil))) (.cst (.int 1))))
  (.cons (.ret (.cst (.bool false)))
  .nil)
  .nil)
  (.cons (.ret (.cmp .eq (.call 120 (.cons (.tup (.cons (.cst (.int 0)) (.cons (.cst (.int 1)) (.cons (.cst (.int 2)) .nil)))) (.cons (.tup (.cons (.cst (.int 1)) (.cons (.cst (.int 2)) (.cons (.cst (.int 0)) .nil)))) .nil))) (.tup (.cons (.tup (.cons (.cst (.int 0)) (.cons (.cst (.int 1)) (.cons (.cst (.int 2)) .nil)))) (.cons (.tup (.cons (.cst (.int 1)) (.cons (.cst (.int 0)) (.cons (.cst (.int 2)) .nil)))) (.cons (.tup (.cons (.cst (.int 1)) (.cons (.cst (.int 2)) (.cons (.cst (.int 0)) .nil)))) .nil))))))
  .nil)))⟩

/-- _law_laces_told -/
def d153 : Def := ⟨0, 0, [], (.cons (.cond (.or (.cmp .ne (.call 128 (.cons (.tup (.cons (.cst (.int 0)) (.cons (.cst (.int 1)) (.cons (.cst (.int 2)) .nil)))) .nil)) (.tup (.cons (.tup (.cons (.cst (.int 0)) (.cons (.cst (.int 1)) (.cons (.cst (.int 2)) .nil)))) (.cons (.tup (.cons (.cst (.int 0)) (.cons (.cst (.int 1)) (.cons (.cst (.int 2)) .nil)))) .nil)))) (.cmp .ne (.call 128 (.cons (.tup (.cons (.cst (.int 0)) (.cons (.cst (.int 2)) (.cons (.cst (.int 1)) .nil)))) .nil)) (.tup (.cons (.tup (.cons (.cst (.int 1)) (.cons (.cst (.int 0)) (.cons (.cst (.int 2)) .nil)))) (.cons (.tup (.cons (.cst (.int 1)) (.cons (.cst (.int 2)) (.cons (.cst (.int 0)) .nil)))) .nil)))))
  (.cons (.ret (.cst (.bool false)))
  .nil)
  .nil)
  (.cons (.cond (.or (.cmp .ne (.call 128 (.cons (.tup (.cons (.cst (.int 2)) (.cons (.cst (.int 0)) (.cons (.cst (.int 1)) .nil)))) .nil)) (.tup (.cons (.tup (.cons (.cst (.int 1)) (.cons (.cst (.int 0)) (.cons (.cst (.int 2)) .nil)))) (.cons (.tup (.cons (.cst (.int 2)) (.cons (.cst (.int 1)) (.cons (.cst (.int 0)) .nil)))) .nil)))) (.or (.cmp .ne (.call 129 (.cons (.tup (.cons (.cst (.int 0)) (.cons (.cst (.int 1)) (.cons (.cst (.int 2)) .nil)))) .nil)) (.cst (.int 0))) (.cmp .ne (.call 129 (.cons (.tup (.cons (.cst (.int 0)) (.cons (.cst (.int 2)) (.cons (.cst (.int 1)) .nil)))) .nil)) (.cst (.int 2)))))
  (.cons (.ret (.cst (.bool false)))
  .nil)
  .nil)
  (.cons (.ret (.cmp .eq (.call 129 (.cons (.tup (.cons (.cst (.int 1)) (.cons (.cst (.int 0)) (.cons (.cst (.int 2)) .nil)))) .nil)) (.cst (.int 1))))
  .nil)))⟩

/-- _law_again_told -/
def d154 : Def := ⟨0, 0, [], (.cons (.cond (.or (.cmp .ne (.call 136 (.cons (.tup (.cons (.cst (.int 1)) (.cons (.cst (.int 2)) (.cons (.cst (.int 0)) .nil)))) (.cons (.cst (.int 2)) .nil))) (.tup (.cons (.cst (.int 2)) (.cons (.cst (.int 0)) (.cons (.cst (.int 1)) .nil))))) (.or (.cmp .ne (.call 136 (.cons (.tup (.cons (.cst (.int 1)) (.cons (.cst (.int 2)) (.cons (.cst (.int 0)) .nil)))) (.cons (.bin .pow (.cst (.int 10)) (.cst (.int 30))) .nil))) (.tup (.cons (.cst (.int 1)) (.cons (.cst (.int 2)) (.cons (.cst (.int 0)) .nil))))) (.cmp .ne (.call 138 (.cons (.tup (.cons (.cst (.int 1)) (.cons (.cst (.int 2)) (.cons (.cst (.int 0)) .nil)))) .nil)) (.cst (.int 3)))))
  (.cons (.ret (.cst (.bool false)))
  .nil)
  .nil)
  (.cons (.cond (.or (.cmp .ne (.call 139 (.cons (.tup (.cons (.cst (.int 1)) (.cons (.cst (.int 0)) (.cons (.cst (.int 2)) .nil)))) .nil)) (.cst (.int 2))) (.or (.cmp .ne (.call 139 (.cons (.tup (.cons (.cst (.int 1)) (.cons (.cst (.int 2)) (.cons (.cst (.int 0)) .nil)))) .nil)) (.cst (.int 3))) (.cmp .ne (.call 139 (.cons (.tup (.cons (.cst (.int 0)) .nil)) .nil)) (.cst (.int 2)))))
  (.cons (.ret (.cst (.bool false)))
  .nil)
  .nil)
  (.cons (.cond (.or (.cmp .ne (.call 146 (.cons (.cst (.int 2)) (.cons (.cst (.int 2)) (.cons (.cst (.int 2)) .nil)))) (.cst (.int 2))) (.or (.cmp .ne (.call 147 (.cons (.cst (.int 4)) (.cons (.cst (.int 2)) (.cons (.cst (.int 2)) .nil)))) (.tup (.cons (.cst (.int 0)) (.cons (.cst (.int 1)) (.cons (.cst (.int 0)) (.cons (.cst (.int 1)) .nil)))))) (.ntN (.call 147 (.cons (.cst (.int 2)) (.cons (.cst (.int 2)) (.cons (.cst (.int 1)) .nil)))))))
  (.cons (.ret (.cst (.bool false)))
  .nil)
  .nil)
  (.cons (.ret (.cmp .eq (.call 146 (.cons (.cst (.int 3)) (.cons (.cst (.int 1)) (.cons (.cst (.int 3)) .nil)))) (.cst (.int 27))))
  .nil))))⟩

/-- law -/
def d155 : Def := ⟨1, 2, [], (.cons (.asg 1 (.call 13 (.cons (.var 0) (.cons (.cst (.int 2423)) .nil))))
  (.cons (.asg 2 (.call 14 (.cons (.var 1) (.cons (.cst (.int 3)) .nil))))
  (.cons (.cond (.cmp .eq (.var 2) (.cst (.int 0)))
  (.cons (.ret (.call 152 .nil))
  .nil)
  .nil)
  (.cons (.ret (.ite (.cmp .eq (.var 2) (.cst (.int 1))) (.call 153 .nil) (.call 154 .nil)))
  .nil))))⟩

/-- _law_lists -/
def d156 : Def := ⟨1, 4, [], (.cons (.unp [1, 2, 3] (.var 0))
  (.cons (.asg 4 (.lst (.cons (.call 8 (.cons (.var 1) .nil)) (.cons (.call 35 (.cons (.var 3) .nil)) (.cons (.call 45 (.cons (.rev (.var 1)) .nil)) (.cons (.call 72 (.cons (.var 2) (.cons (.bin .mul (.tup (.cons (.cst .none) .nil)) (.var 3)) (.cons (.cst (.int 0)) .nil)))) .nil))))))
  (.cons (.asg 4 (.bin .add (.var 4) (.lst (.cons (.call 82 (.cons (.var 3) (.cons (.bin .sub (.var 3) (.cst (.int 1))) .nil))) .nil))))
  (.cons (.ret (.var 4))
  .nil))))⟩

end Mlg
/-! Pl3: the source of numbers. -/
namespace Mlg
open PySem (PyData Str)
/-- a def of the table -/
class Has (tab : Nat → Option Def) (g : Nat) (d : outParam Def) : Prop where
  eq : tab g = some d
/-- a call's wish, by its def's body -/
theorem callW {tab : Nat → Option Def} {k f : Nat} {args : List Slot} {d : Def} {Q : R × List Slot → Prop} {E : Nat → D → Env → Prop} (H : Has tab f d) (hl : args.length = d.np) (hk : lendOk d.reb 0 args = true)
    (hq : Wp (execs (callF tab k) d.np d.body (args ++ List.replicate d.ns .un)) (fun p => Q (p.2.getD (.val .none), mask d.reb 0 (p.1.take d.np))) (fun c f ρ => E c f (mask d.reb 0 (ρ.take d.np)))) : Wp (callF tab (k + 1) f args) Q E := wp_callF H.eq hl hk hq
/-- a comprehension that changes nothing, over items that are told -/
theorem loopC_fm {α : Type} {turn : D → Env → Res (Option D × Env)} {ρ : Env} (enc g : α → D) (p : α → Bool) {xs : List α} (h0 : ∀ a ∈ xs, Wp (turn (enc a) ρ) (fun q => q = (if p a = true then some (g a) else none, ρ)) (fun _ _ _ => False)) (hl : xs.length ≤ 1000000) : loopC turn (xs.map enc) [] ρ = .ok ((xs.filter p).map g, ρ) := by
  have h : ∀ a ∈ xs, turn (enc a) ρ = .ok (if p a = true then some (g a) else none, ρ) := fun a ha => (h0 a ha).eq
  have key : ∀ (xs : List α) (acc : List D), (∀ a ∈ xs, turn (enc a) ρ = .ok (if p a = true then some (g a) else none, ρ)) → acc.length + xs.length ≤ 1000000 → loopC turn (xs.map enc) acc ρ = .ok (acc ++ (xs.filter p).map g, ρ) := by
    intro xs
    induction xs with
    | nil => intro acc _ _; simp [loopC]
    | cons a xs ih =>
      intro acc h hl
      rw [List.map_cons]
      unfold loopC
      rw [h a List.mem_cons_self, List.filter_cons]
      rw [List.length_cons] at hl
      by_cases c : p a = true
      · rw [if_pos c, if_pos c]
        dsimp only
        rw [if_pos (small_of (by omega)), ih _ (fun b hb => h b (List.mem_cons_of_mem _ hb)) (by simp; omega)]
        simp
      · rw [if_neg c, if_neg c]
        dsimp only
        rw [ih _ (fun b hb => h b (List.mem_cons_of_mem _ hb)) (by omega)]
  simpa using key xs [] h (by simpa using hl)
theorem loopC_mp {α : Type} {turn : D → Env → Res (Option D × Env)} {ρ : Env} (enc g : α → D) {xs : List α} (h : ∀ a ∈ xs, Wp (turn (enc a) ρ) (fun q => q = (some (g a), ρ)) (fun _ _ _ => False)) (hl : xs.length ≤ 1000000) : loopC turn (xs.map enc) [] ρ = .ok (xs.map g, ρ) := by
  rw [loopC_fm enc g (fun _ => true) (fun a ha => by rw [if_pos rfl]; exact h a ha) hl, List.filter_eq_self.mpr fun _ _ => rfl]
abbrev dI (l : List Int) : List D := l.map .int
/-- a source of numbers -/
def Src (l : List Int) : Prop := ∃ a b r, l = a :: b :: r ∧ 0 ≤ a ∧ 0 ≤ b ∧ ∀ x ∈ r, (0 : Int) < x
@[simp] theorem small0 : small [] = true := rfl
@[simp] theorem small1 (a0 : D) : small [a0] = true := rfl
@[simp] theorem small2 (a0 a1 : D) : small [a0, a1] = true := rfl
@[simp] theorem small3 (a0 a1 a2 : D) : small [a0, a1, a2] = true := rfl
@[simp] theorem small4 (a0 a1 a2 a3 : D) : small [a0, a1, a2, a3] = true := rfl
@[simp] theorem small5 (a0 a1 a2 a3 a4 : D) : small [a0, a1, a2, a3, a4] = true := rfl
@[simp] theorem small6 (a0 a1 a2 a3 a4 a5 : D) : small [a0, a1, a2, a3, a4, a5] = true := rfl
@[simp] theorem small7 (a0 a1 a2 a3 a4 a5 a6 : D) : small [a0, a1, a2, a3, a4, a5, a6] = true := rfl
@[simp] theorem small8 (a0 a1 a2 a3 a4 a5 a6 a7 : D) : small [a0, a1, a2, a3, a4, a5, a6, a7] = true := rfl
@[simp] theorem small9 (a0 a1 a2 a3 a4 a5 a6 a7 a8 : D) : small [a0, a1, a2, a3, a4, a5, a6, a7, a8] = true := rfl
@[simp] theorem small10 (a0 a1 a2 a3 a4 a5 a6 a7 a8 a9 : D) : small [a0, a1, a2, a3, a4, a5, a6, a7, a8, a9] = true := rfl
@[simp] theorem small11 (a0 a1 a2 a3 a4 a5 a6 a7 a8 a9 a10 : D) : small [a0, a1, a2, a3, a4, a5, a6, a7, a8, a9, a10] = true := rfl
@[simp] theorem small12 (a0 a1 a2 a3 a4 a5 a6 a7 a8 a9 a10 a11 : D) : small [a0, a1, a2, a3, a4, a5, a6, a7, a8, a9, a10, a11] = true := rfl
@[simp] theorem small13 (a0 a1 a2 a3 a4 a5 a6 a7 a8 a9 a10 a11 a12 : D) : small [a0, a1, a2, a3, a4, a5, a6, a7, a8, a9, a10, a11, a12] = true := rfl
@[simp] theorem small14 (a0 a1 a2 a3 a4 a5 a6 a7 a8 a9 a10 a11 a12 a13 : D) : small [a0, a1, a2, a3, a4, a5, a6, a7, a8, a9, a10, a11, a12, a13] = true := rfl
@[simp] theorem small15 (a0 a1 a2 a3 a4 a5 a6 a7 a8 a9 a10 a11 a12 a13 a14 : D) : small [a0, a1, a2, a3, a4, a5, a6, a7, a8, a9, a10, a11, a12, a13, a14] = true := rfl
@[simp] theorem small16 (a0 a1 a2 a3 a4 a5 a6 a7 a8 a9 a10 a11 a12 a13 a14 a15 : D) : small [a0, a1, a2, a3, a4, a5, a6, a7, a8, a9, a10, a11, a12, a13, a14, a15] = true := rfl
@[simp] theorem place_0 (n : Nat) : place (n + 1) 0 = some 0 := by rw [place_nn (by omega) (by omega)]; rfl
@[simp] theorem place_1 (n : Nat) : place (n + 1 + 1) 1 = some 1 := by rw [place_nn (by omega) (by omega)]; rfl
@[simp] theorem place_2 (n : Nat) : place (n + 1 + 1 + 1) 2 = some 2 := by rw [place_nn (by omega) (by omega)]; rfl
variable {tab : Nat → Option Def}
set_option maxHeartbeats 4000000 in
theorem below_ok [H : Has tab 14 d14] {k : Nat} {l : List Int} {m : Int} (hs : Src l) (h0 : 0 < m) (h1 : m < 1000000000) :
    ∃ i l', 0 ≤ i ∧ i < m ∧ Src l' ∧ callF tab (k + 1) 14 [.own (.lst (dI l)), .val (.int m)] = .ok (.val (.int i), [.own (.lst (dI l')), .val (.int m)]) := by
  obtain ⟨a, b, r, rfl, ha, hb, hr⟩ := hs
  have key : Wp (callF tab (k + 1) 14 [.own (.lst (dI (a :: b :: r))), .val (.int m)]) (fun p => ∃ i l', 0 ≤ i ∧ i < m ∧ Src l' ∧ p = (.val (.int i), [.own (.lst (dI l')), .val (.int m)])) (fun _ _ _ => False) := by
    refine callW H rfl rfl ?_
    have m0 : ∀ x : Int, 0 ≤ x % m ∧ x % m < m := fun x => ⟨Int.emod_nonneg _ (by omega), Int.emod_lt_of_pos _ h0⟩
    have d0 : ∀ x : Int, 0 ≤ x → 0 ≤ x / m := fun x hx => Int.ediv_nonneg hx (by omega)
    have s0 : ∀ x : Int, 0 ≤ x % 2147483647 := fun x => Int.emod_nonneg _ (by decide)
    rcases r with _ | ⟨c, r⟩
    · by_cases hb0 : b = 0
      · subst hb0
        simp -implicitDefEqProofs [d14, h0, h1]
        exact ⟨_, (m0 _).1, (m0 _).2, [_, 0], ⟨_, _, _, rfl, s0 _, hb, hr⟩, rfl, rfl⟩
      · have hb1 : 0 < b := by omega
        simp -implicitDefEqProofs [d14, h0, h1, hb0, hb1]
        exact ⟨_, (m0 _).1, (m0 _).2, [a, b / m], ⟨_, _, _, rfl, ha, d0 _ hb, hr⟩, rfl, rfl⟩
    · have hc := hr c List.mem_cons_self
      have hr' := fun x hx => hr x (List.mem_cons_of_mem c hx)
      have e2 : (2 : Int) < (r.length : Int) + 1 + 1 + 1 := by omega
      by_cases hb0 : b = 0
      · subst hb0
        simp -implicitDefEqProofs [d14, h0, h1, hc, e2]
        exact ⟨_, (m0 _).1, (m0 _).2, a :: c / m :: r, ⟨_, _, _, rfl, ha, d0 _ (by omega), hr'⟩, rfl, rfl⟩
      · have hb1 : 0 < b := by omega
        simp -implicitDefEqProofs [d14, h0, h1, hb0, hb1]
        exact ⟨_, (m0 _).1, (m0 _).2, a :: b / m :: c :: r, ⟨_, _, _, rfl, ha, d0 _ hb, hr⟩, rfl, rfl⟩
  obtain ⟨p, e, i, l', h2, h3, h4, rfl⟩ := key.okk
  exact ⟨i, l', h2, h3, h4, e⟩
set_option maxHeartbeats 4000000 in
theorem random_ok [H : Has tab 13 d13] {k : Nat} {xs : List Int} {m : Int} (hx : xs.length ≤ 63) (h0 : 0 ≤ m) :
    ∃ l, Src l ∧ callF tab (k + 1) 13 [.ro (dI xs), .val (.int m)] = .ok (.tmp (.lst (dI l)), [.ro (dI xs), .val (.int m)]) := by
  have key : Wp (callF tab (k + 1) 13 [.ro (dI xs), .val (.int m)]) (fun p => ∃ l, Src l ∧ p = (.tmp (.lst (dI l)), [.ro (dI xs), .val (.int m)])) (fun _ _ _ => False) := by
    refine callW H rfl rfl ?_
    simp -implicitDefEqProofs [d13]
    refine wp_loopF (fun i ρ => ∃ s x, (0 : Int) ≤ s ∧ ρ = [.ro (dI xs), .val (.int m), .val (.int s), x] ∧ (x = .un ∨ ∃ d, x = .val d)) ⟨m, .un, h0, rfl, .inl rfl⟩ ?_ ?_
    · rintro i d ρ hd ⟨s, x, hs, rfl, hxx⟩
      rw [List.getElem?_map] at hd
      obtain ⟨c, hc, rfl⟩ := Option.map_eq_some_iff.mp hd
      simp
      exact ⟨_, Int.emod_nonneg _ (by decide), _, ⟨rfl, rfl⟩, .inr ⟨_, rfl⟩⟩
    · rintro ρ ⟨s, x, hs, rfl, hxx⟩
      have fin : loopC (lcT (callF tab k) (.var 3) (.nm 3) (.so (.cmp .ge (.var 3) (.bin .pow (.cst (.int 10)) (.cst (.int 18))))) [3]) (dI xs) [] [.ro (dI xs), .val (.int m), .val (.int s), .un] = .ok (dI (xs.filter fun c => decide (1000000000000000000 ≤ c)), [.ro (dI xs), .val (.int m), .val (.int s), .un]) := by
        refine loopC_fm _ _ _ (fun c _ => ?_) (by omega)
        by_cases hc : 1000000000000000000 ≤ c <;> simp [hc]
      have sm : small (.int s :: .int 0 :: dI (xs.filter fun c => decide (1000000000000000000 ≤ c))) = true := by
        apply small_of
        have := List.length_filter_le (fun c => decide ((1000000000000000000 : Int) ≤ c)) xs
        simp
        omega
      have done : Src (s :: 0 :: xs.filter fun c => decide (1000000000000000000 ≤ c)) := ⟨s, 0, _, rfl, hs, by decide, fun x hx => by
        have := (List.mem_filter.mp hx).2
        simp at this
        omega⟩
      rcases hxx with rfl | ⟨d, rfl⟩
      · simp [fin, sm]
        exact ⟨_, done, rfl⟩
      · simp [fin, sm]
        exact ⟨_, done, rfl⟩
  obtain ⟨p, e, l, h1, rfl⟩ := key.okk
  exact ⟨l, h1, e⟩
/-- a call without arguments that gives True -/
def okT : Res (R × List Slot) → Bool
  | .ok (.val (.bool true), []) => true
  | _ => false
theorem okT_eq {r : Res (R × List Slot)} (h : okT r = true) : r = .ok (.val (.bool true), []) := by
  unfold okT at h
  split at h
  · rfl
  · cases h
end Mlg
/-! Rw: rows, numbers of choices. Plain Lean. -/
namespace Mlg
/-- the cards so far are those from lo to hi, each beginning consecutive -/
inductive Part : Int → Int → List Int → Prop
  | one (c : Int) : Part c c [c]
  | dn {lo hi : Int} {l : List Int} : Part lo hi l → Part (lo - 1) hi (l ++ [lo - 1])
  | up {lo hi : Int} {l : List Int} : Part lo hi l → Part lo (hi + 1) (l ++ [hi + 1])
theorem Part.le {lo hi : Int} {l : List Int} (h : Part lo hi l) : lo ≤ hi := by
  induction h with
  | one c => omega
  | dn _ ih => omega
  | up _ ih => omega
theorem Part.len {lo hi : Int} {l : List Int} (h : Part lo hi l) : (l.length : Int) = hi - lo + 1 := by
  induction h with
  | one c => simp
  | dn _ ih => rw [List.length_append]; simp; omega
  | up _ ih => rw [List.length_append]; simp; omega
theorem Part.mem {lo hi : Int} {l : List Int} (h : Part lo hi l) : ∀ x, x ∈ l ↔ lo ≤ x ∧ x ≤ hi := by
  induction h with
  | one c => intro x; simp; omega
  | dn h ih => intro x; have := h.le; rw [List.mem_append, ih]; simp; omega
  | up h ih => intro x; have := h.le; rw [List.mem_append, ih]; simp; omega
theorem Part.nodup {lo hi : Int} {l : List Int} (h : Part lo hi l) : l.Nodup := by
  induction h with
  | one c => simp
  | dn h ih => rw [List.nodup_append]; refine ⟨ih, by simp, fun a ha b hb => ?_⟩; have := (h.mem a).mp ha; simp at hb; omega
  | up h ih => rw [List.nodup_append]; refine ⟨ih, by simp, fun a ha b hb => ?_⟩; have := (h.mem a).mp ha; simp at hb; omega
theorem Part.ne {lo hi : Int} {l : List Int} (h : Part lo hi l) : l ≠ [] := by
  intro e
  subst e
  have h1 := h.len
  have h2 := h.le
  simp at h1
  omega
def IsRow (n : Int) (l : List Int) : Prop := Part 0 (n - 1) l
theorem IsRow.len {n : Int} {l : List Int} (h : IsRow n l) : (l.length : Int) = n := by have := Part.len h; omega

/-! ### in how many ways -/
def ch : Nat → Nat → Nat
  | _, 0 => 1
  | 0, _ + 1 => 0
  | n + 1, k + 1 => ch n k + ch n (k + 1)
@[simp] theorem ch_zero (n : Nat) : ch n 0 = 1 := by cases n <;> rfl
theorem ch_over : ∀ {n k : Nat}, n < k → ch n k = 0
  | 0, k + 1, _ => rfl
  | n + 1, k + 1, h => by
    show ch n k + ch n (k + 1) = 0
    rw [ch_over (by omega), ch_over (by omega)]
theorem ch_mul : ∀ n k : Nat, ch n (k + 1) * (k + 1) = ch n k * (n - k)
  | 0, k => by
    have h1 : ch 0 (k + 1) = 0 := rfl
    rw [h1]; simp
  | n + 1, 0 => by
    have e : ch (n + 1) 1 = ch n 0 + ch n 1 := rfl
    have h := ch_mul n 0
    simp at h ⊢
    rw [e, h]; simp; omega
  | n + 1, j + 1 => by
    have e1 : ch (n + 1) (j + 1 + 1) = ch n (j + 1) + ch n (j + 1 + 1) := rfl
    have e2 : ch (n + 1) (j + 1) = ch n j + ch n (j + 1) := rfl
    have h1 := ch_mul n (j + 1)
    have h2 := ch_mul n j
    by_cases c : j + 1 ≤ n
    · rw [e1, e2]
      obtain ⟨m, hm⟩ : ∃ m, n = j + 1 + m := ⟨n - (j + 1), by omega⟩
      subst hm
      have a1 : j + 1 + m - (j + 1) = m := by omega
      have a2 : j + 1 + m - j = m + 1 := by omega
      have a3 : j + 1 + m + 1 - (j + 1) = m + 1 := by omega
      rw [a1] at h1
      rw [a2] at h2
      rw [a3]
      generalize ch (j + 1 + m) j = x at *
      generalize ch (j + 1 + m) (j + 1) = y at *
      generalize ch (j + 1 + m) (j + 1 + 1) = z at *
      have g1 : (y + z) * (j + 1 + 1) = y * (j + 1 + 1) + y * m := by rw [Nat.add_mul, h1]
      have g2 : (x + y) * (m + 1) = y * (j + 1) + y * (m + 1) := by rw [Nat.add_mul, ← h2]
      rw [g1, g2, ← Nat.mul_add, ← Nat.mul_add]
      congr 1
      omega
    · rw [ch_over (show n + 1 < j + 1 + 1 by omega)]
      by_cases c2 : n + 1 = j + 1
      · have : n + 1 - (j + 1) = 0 := by omega
        rw [this]; simp
      · rw [ch_over (show n + 1 < j + 1 by omega)]; simp
theorem ch_pascal (n k : Nat) : ch (n + 1) (k + 1) = ch n (k + 1) + ch n k := by
  show ch n k + ch n (k + 1) = _
  omega
theorem ch_step (n i : Nat) : ((ch n i : Int) * ((n : Int) - (i : Int))) / ((i : Int) + 1) = (ch n (i + 1) : Int) := by
  by_cases h : i ≤ n
  · have e : (ch n i : Int) * ((n : Int) - (i : Int)) = (ch n (i + 1) : Int) * ((i : Int) + 1) := by
      have := ch_mul n i
      have e2 : (n : Int) - (i : Int) = ((n - i : Nat) : Int) := by omega
      rw [e2]
      exact_mod_cast this.symm
    rw [e, Int.mul_ediv_cancel _ (by omega)]
  · rw [ch_over (show n < i by omega), ch_over (show n < i + 1 by omega)]
    simp
end Mlg
namespace Mlg
/-! ### the first beginning that bars -/
def barGo : Int → Int → Nat → List Int → Option Nat
  | _, _, _, [] => none
  | lo, hi, at_, c :: r => if 0 < at_ ∧ c ≠ lo - 1 ∧ c ≠ hi + 1 then some (at_ + 1) else barGo (if c < lo then c else lo) (if c > hi then c else hi) (at_ + 1) r
def barOf : List Int → Option Nat
  | [] => none
  | c :: r => barGo c c 0 (c :: r)
theorem Part.cons {lo hi : Int} {l : List Int} (h : Part lo hi l) : ∃ c r, l = c :: r ∧ ∀ rest, barGo c c 0 (l ++ rest) = barGo lo hi l.length rest := by
  induction h with
  | one c =>
    refine ⟨c, [], rfl, fun rest => ?_⟩
    show (if 0 < 0 ∧ c ≠ c - 1 ∧ c ≠ c + 1 then some (0 + 1) else barGo (if c < c then c else c) (if c > c then c else c) (0 + 1) rest) = _
    rw [if_neg (by omega), if_neg (by omega)]
    rfl
  | @dn lo hi l h ih =>
    obtain ⟨c, r, e, ih⟩ := ih
    refine ⟨c, r ++ [lo - 1], by rw [e]; rfl, fun rest => ?_⟩
    rw [List.append_assoc, ih]
    show (if 0 < l.length ∧ lo - 1 ≠ lo - 1 ∧ lo - 1 ≠ hi + 1 then some (l.length + 1) else barGo (if lo - 1 < lo then lo - 1 else lo) (if lo - 1 > hi then lo - 1 else hi) (l.length + 1) rest) = _
    have := h.le
    rw [if_neg (by omega), if_pos (by omega), if_neg (by omega), List.length_append]
    rfl
  | @up lo hi l h ih =>
    obtain ⟨c, r, e, ih⟩ := ih
    refine ⟨c, r ++ [hi + 1], by rw [e]; rfl, fun rest => ?_⟩
    rw [List.append_assoc, ih]
    show (if 0 < l.length ∧ hi + 1 ≠ lo - 1 ∧ hi + 1 ≠ hi + 1 then some (l.length + 1) else barGo (if hi + 1 < lo then hi + 1 else lo) (if hi + 1 > hi then hi + 1 else hi) (l.length + 1) rest) = _
    have := h.le
    rw [if_neg (by omega), if_neg (by omega), if_pos (by omega), List.length_append]
    rfl
theorem Part.bar {lo hi : Int} {l : List Int} (h : Part lo hi l) : barOf l = none := by
  obtain ⟨c, r, e, k⟩ := h.cons
  have := k []
  rw [List.append_nil] at this
  subst e
  exact this
theorem barGo_part : ∀ {r pre : List Int} {lo hi : Int}, Part lo hi pre → barGo lo hi pre.length r = none → ∃ lo' hi', Part lo' hi' (pre ++ r)
  | [], pre, lo, hi, h, _ => ⟨lo, hi, by rw [List.append_nil]; exact h⟩
  | c :: r, pre, lo, hi, h, e => by
    have hle := h.le
    have hp : 0 < pre.length := List.length_pos_iff.mpr h.ne
    unfold barGo at e
    split at e
    · cases e
    · rename_i n
      have : c = lo - 1 ∨ c = hi + 1 := by
        by_cases a : c = lo - 1
        · exact .inl a
        · by_cases b : c = hi + 1
          · exact .inr b
          · exact absurd ⟨hp, a, b⟩ n
      rcases this with rfl | rfl
      · rw [if_pos (by omega), if_neg (by omega)] at e
        have h2 := Part.dn h
        rw [show pre.length + 1 = (pre ++ [lo - 1]).length by simp] at e
        obtain ⟨a, b, q⟩ := barGo_part h2 e
        exact ⟨a, b, by rw [List.append_assoc] at q; exact q⟩
      · rw [if_neg (by omega), if_pos (by omega)] at e
        have h2 := Part.up h
        rw [show pre.length + 1 = (pre ++ [hi + 1]).length by simp] at e
        obtain ⟨a, b, q⟩ := barGo_part h2 e
        exact ⟨a, b, by rw [List.append_assoc] at q; exact q⟩
theorem bar_part {l : List Int} (h0 : l ≠ []) (h : barOf l = none) : ∃ lo hi, Part lo hi l := by
  cases l with
  | nil => exact absurd rfl h0
  | cons c r =>
    have h : barGo c c 0 (c :: r) = none := h
    unfold barGo at h
    rw [if_neg (by omega), if_neg (by omega)] at h
    exact barGo_part (.one c) h
/-- an order that nothing bars is a row -/
theorem row_of_bar {l : List Int} (h0 : l ≠ []) (hr : ∀ x ∈ l, 0 ≤ x ∧ x ≤ (l.length : Int) - 1) (h : barOf l = none) : IsRow l.length l := by
  obtain ⟨lo, hi, p⟩ := bar_part h0 h
  have h1 := p.len
  have h2 := hr lo ((p.mem lo).mpr ⟨by omega, p.le⟩)
  have h3 := hr hi ((p.mem hi).mpr ⟨p.le, by omega⟩)
  have e1 : lo = 0 := by omega
  have e2 : hi = (l.length : Int) - 1 := by omega
  subst e1 e2
  exact p
end Mlg
/-! Pl4: small functions of the program and of the laws. -/
namespace Mlg
open PySem (PyData Str)
variable {tab : Nat → Option Def}
/-! ### is_integer, is_from, check_size -/
def intB : D → Bool
  | .int _ => true
  | _ => false
theorem is_integer_ok [H : Has tab 0 d0] {k : Nat} (v : D) : callF tab (k + 1) 0 [.val v] = .ok (.val (.bool (intB v)), [.val v]) := by
  have key : Wp (callF tab (k + 1) 0 [.val v]) (fun p => p = (.val (.bool (intB v)), [.val v])) (fun _ _ _ => False) := by
    refine callW H rfl rfl ?_
    cases v <;> simp -implicitDefEqProofs [d0, isTy, intB]
  obtain ⟨p, e, rfl⟩ := key.okk
  exact e
def fromB (v : D) (lo hi : Int) : Bool := match v with
  | .int i => decide (lo ≤ i) && decide (i ≤ hi)
  | _ => false
@[simp] theorem fromB_int (i lo hi : Int) : fromB (.int i) lo hi = (decide (lo ≤ i) && decide (i ≤ hi)) := rfl
theorem is_from_ok [Has tab 0 d0] [H : Has tab 1 d1] {k : Nat} (v : D) (lo hi : Int) : callF tab (k + 2) 1 [.val v, .val (.int lo), .val (.int hi)] = .ok (.val (.bool (fromB v lo hi)), [.val v, .val (.int lo), .val (.int hi)]) := by
  have key : Wp (callF tab (k + 1 + 1) 1 [.val v, .val (.int lo), .val (.int hi)]) (fun p => p = (.val (.bool (fromB v lo hi)), [.val v, .val (.int lo), .val (.int hi)])) (fun _ _ _ => False) := by
    refine callW H rfl rfl ?_
    have e := is_integer_ok (tab := tab) (k := k) v
    cases v with
    | int i => by_cases h : lo ≤ i <;> simp -implicitDefEqProofs [d1, e, intB, fromB, h]
    | none => simp -implicitDefEqProofs [d1, e, intB, fromB]
    | bool _ => simp -implicitDefEqProofs [d1, e, intB, fromB]
    | str _ => simp -implicitDefEqProofs [d1, e, intB, fromB]
    | list _ => simp -implicitDefEqProofs [d1, e, intB, fromB]
    | tuple _ => simp -implicitDefEqProofs [d1, e, intB, fromB]
    | dict _ => simp -implicitDefEqProofs [d1, e, intB, fromB]
  obtain ⟨p, e, rfl⟩ := key.okk
  exact e
/-- a check: nothing, or an error -/
theorem check_size_ok [Has tab 0 d0] [Has tab 1 d1] [H : Has tab 25 d25] {k : Nat} (v : D) (lo hi : Int) : callF tab (k + 3) 25 [.val v, .val (.int lo), .val (.int hi)] =
    if fromB v lo hi = true then .ok (.val .none, [.val v, .val (.int lo), .val (.int hi)]) else .exc 1 .none [.val v, .val (.int lo), .val (.int hi)] := by
  have e := is_from_ok (tab := tab) (k := k) v lo hi
  have e0 := H.eq
  show callF tab (k + 2 + 1) 25 _ = _
  unfold callF
  rw [e0]
  cases h : fromB v lo hi <;> simp -implicitDefEqProofs [d25, execs_cons, h, e, doCall, bOf, asB, exec, execs, eval, evals, Res.bind]
/-! ### pick -/
theorem pick_ok [Has tab 14 d14] [H : Has tab 15 d15] {k : Nat} {l : List Int} {ds : List D} (hs : Src l) (h0 : ds ≠ []) (h1 : ds.length < 1000) :
    ∃ (i : Nat) (x : D) (l' : List Int), ds[i]? = some x ∧ Src l' ∧ callF tab (k + 2) 15 [.own (.lst (dI l)), .own (.lst ds)] = .ok (.val x, [.own (.lst (dI l')), .own (.lst ds)]) := by
  have hp : 0 < ds.length := List.length_pos_iff.mpr h0
  obtain ⟨i, l', i0, i1, hs', e⟩ := below_ok (tab := tab) (k := k) (m := (ds.length : Int)) hs (by omega) (by omega)
  have hi : i.toNat < ds.length := by omega
  refine ⟨i.toNat, ds[i.toNat], l', List.getElem?_eq_getElem hi, hs', Wp.eq ?_⟩
  refine callW H rfl rfl ?_
  simp -implicitDefEqProofs [d15, e, place_nn i0 i1, List.getElem?_eq_getElem hi]
/-! ### a drawn row -/
/-- the state of a row's making -/
def RowI (n : Int) (i : Int) (ρ : Env) : Prop := ∃ lo hi f l' x, 0 ≤ lo ∧ hi < n ∧ Part lo hi f ∧ hi - lo = i ∧ Src l' ∧ ρ = [.own (.lst (dI l')), .val (.int n), .val (.int lo), .own (.lst (dI f)), .val (.int hi), x]
theorem row_ok [Has tab 14 d14] [H : Has tab 17 d17] {k : Nat} {l : List Int} {n : Int} (hs : Src l) (h0 : 0 < n) (h1 : n ≤ 1000) :
    ∃ (r l' : List Int), IsRow n r ∧ Src l' ∧ callF tab (k + 2) 17 [.own (.lst (dI l)), .val (.int n)] = .ok (.val (.tuple (dI r)), [.own (.lst (dI l')), .val (.int n)]) := by
  obtain ⟨c, l1, c0, c1, hs1, e1⟩ := below_ok (tab := tab) (k := k) (m := n) hs h0 (by omega)
  have key : Wp (callF tab (k + 1 + 1) 17 [.own (.lst (dI l)), .val (.int n)]) (fun p => ∃ r l', IsRow n r ∧ Src l' ∧ p = (.val (.tuple (dI r)), [.own (.lst (dI l')), .val (.int n)])) (fun _ _ _ => False) := by
    refine callW H rfl rfl ?_
    have rg : rangeOk (n - 1) = true := rangeOk_of (by omega) (by omega)
    simp -implicitDefEqProofs [d17, e1, rg]
    refine wp_loopR (RowI n) ⟨c, c, [c], l1, .un, c0, c1, .one c, by omega, hs1, rfl⟩ ?_ ?_
    · rintro i ρ i0 i1 ⟨lo, hi, f, l', x, q0, q1, q2, q3, q4, rfl⟩
      have hl := q2.len
      have sm : small (dI f) = true := small_of (by rw [List.length_map]; omega)
      obtain ⟨b, l2, b0, b1, hs2, e2⟩ := below_ok (tab := tab) (k := k) (m := 2) q4 (by decide) (by decide)
      have fin : ∀ {lo' hi' c : Int} {l3 : List Int} {x : Slot}, 0 ≤ lo' → hi' < n → Part lo' hi' (f ++ [c]) → hi' - lo' = i + 1 → Src l3 → RowI n (i + 1) [.own (.lst (dI l3)), .val (.int n), .val (.int lo'), .own (.lst (dI f ++ [.int c])), .val (.int hi'), x] :=
        fun {lo' hi' c l3 x} a b p d e => ⟨lo', hi', f ++ [c], l3, x, a, b, p, d, e, by simp⟩
      by_cases a1 : hi = n - 1
      · simp [a1, sm]
        exact fin (by omega) (by omega) (.dn (a1 ▸ q2)) (by omega) q4
      · by_cases a2 : 0 < lo
        · by_cases a3 : b = 0
          · subst a3
            simp [a1, a2, e2, sm]
            exact fin (by omega) (by omega) (.dn q2) (by omega) hs2
          · simp [a1, a2, e2, a3, sm]
            exact fin (by omega) (by omega) (.up q2) (by omega) hs2
        · simp [a1, a2, sm]
          exact fin (by omega) (by omega) (.up q2) (by omega) q4
    · rintro ρ ⟨lo, hi, f, l', x, q0, q1, q2, q3, q4, rfl⟩
      have z1 : lo = 0 := by omega
      have z2 : hi = n - 1 := by omega
      subst z1 z2
      simp
      exact ⟨f, q2, l', q4, rfl, rfl⟩
  obtain ⟨p, e, r, l', h2, h3, rfl⟩ := key.okk
  exact ⟨r, l', h2, h3, e⟩
/-! ### choose -/
def ChI (n m : Nat) (i : Int) (ρ : Env) : Prop := ∃ x, ρ = [.val (.int n), .val (.int m), .val (.int (ch n i.toNat)), x]
theorem choose_ok [H : Has tab 9 d9] {k : Nat} (n m : Nat) (hn : n ≤ 1000) (hm : m ≤ 1000) : callF tab (k + 1) 9 [.val (.int n), .val (.int m)] = .ok (.val (.int (ch n m)), [.val (.int n), .val (.int m)]) := by
  refine Wp.eq ?_
  refine callW H rfl rfl ?_
  have rg : rangeOk (m : Int) = true := rangeOk_of (by omega) (by omega)
  simp -implicitDefEqProofs [d9, rg]
  refine wp_loopR (ChI n m) ⟨.un, by simp⟩ ?_ ?_
  · rintro i ρ i0 i1 ⟨x, rfl⟩
    have c1 : (0 : Int) < i + 1 := by omega
    have c2 : i + 1 < 1000000000 := by omega
    have c3 : ((n : Int) - i).natAbs < 18446744073709551616 := by omega
    have e := ch_step n i.toNat
    have e2 : ((i.toNat : Nat) : Int) = i := by omega
    rw [e2] at e
    simp -implicitDefEqProofs [c1, c2, c3, e]
    refine ⟨.val (.int i), ?_⟩
    rw [show (i + 1).toNat = i.toNat + 1 by omega]
  · rintro ρ ⟨x, rfl⟩
    simp
/-! ### falls -/
def fallAt (l : List Int) (j : Nat) : Bool := match l[j + 1]?, l[j]? with
  | some a, some b => decide (a < b)
  | _, _ => false
def fallsL (l : List Int) : List Nat := (List.range (l.length - 1)).filter (fallAt l)
theorem rangeL_nat (lo : Int) (n : Nat) : rangeL lo (lo + n) = (List.range n).map fun (j : Nat) => .int (lo + j) := by
  unfold rangeL
  rw [show (lo + (n : Int) - lo).toNat = n by omega]
theorem get_at {α : Type} {l : List α} {j : Nat} (h : j < l.length) : ∃ x, l[j]? = some x := ⟨l[j], List.getElem?_eq_getElem h⟩
/-- the list of the places of falls -/
theorem falls_lc {call : CallT} {l : List Int} {ρ' : Env} (h1 : l ≠ []) (h2 : l.length ≤ 1000) :
    loopC (lcT call (.var 1) (.nm 1) (.so (.cmp .lt (.ix (.var 0) (.var 1)) (.ix (.var 0) (.bin .sub (.var 1) (.cst (.int 1)))))) [1]) (rangeL 1 (l.length : Int)) [] [.val (.tuple (dI l)), .un] = .ok ((fallsL l).map fun (j : Nat) => .int (1 + j), [.val (.tuple (dI l)), .un]) := by
  have hp : 0 < l.length := List.length_pos_iff.mpr h1
  have e : (l.length : Int) = 1 + ((l.length - 1 : Nat) : Int) := by omega
  rw [e, rangeL_nat]
  refine loopC_fm _ _ _ (fun j hj => ?_) (by simp; omega)
  have hj : j < l.length - 1 := List.mem_range.mp hj
  have p1 : place l.length (1 + (j : Int)) = some (j + 1) := by rw [place_nn (by omega) (by omega)]; congr 1; omega
  have p2 : place l.length (1 + (j : Int) - 1) = some j := by rw [place_nn (by omega) (by omega)]; congr 1; omega
  obtain ⟨a, g1⟩ := get_at (l := l) (j := j + 1) (by omega)
  obtain ⟨b, g2⟩ := get_at (l := l) (j := j) (by omega)
  by_cases c : a < b <;> simp -implicitDefEqProofs [p1, p2, g1, g2, c, fallAt]
end Mlg
/-! Pl5: orders and rows. -/
namespace Mlg
open PySem (PyData Str)
variable {tab : Nat → Option Def}
theorem intsD_dI : ∀ l : List Int, intsD (dI l) = some l
  | [] => rfl
  | i :: l => by
    show (intsD (dI l)).map (i :: ·) = _
    rw [intsD_dI l]
    rfl
theorem bools_map {α : Type} (f : α → Bool) : ∀ l : List α, bools (l.map fun a => .bool (f a)) = some (l.map f)
  | [] => rfl
  | a :: l => by
    show (bools (l.map fun a => .bool (f a))).map (f a :: ·) = _
    rw [bools_map f l]
    rfl
theorem all_from {lo hi : Int} : ∀ {ds : List D}, (ds.all fun d => fromB d lo hi) = true → ∃ l : List Int, ds = dI l ∧ ∀ x ∈ l, lo ≤ x ∧ x ≤ hi
  | [], _ => ⟨[], rfl, fun x h => by cases h⟩
  | d :: ds, h => by
    rw [List.all_cons, Bool.and_eq_true] at h
    obtain ⟨l, rfl, hl⟩ := all_from h.2
    cases d with
    | int i =>
      have := h.1
      simp at this
      exact ⟨i :: l, rfl, fun x hx => by
        rcases List.mem_cons.mp hx with rfl | hx
        · exact this
        · exact hl x hx⟩
    | none => cases h.1
    | bool _ => cases h.1
    | str _ => cases h.1
    | list _ => cases h.1
    | tuple _ => cases h.1
    | dict _ => cases h.1
theorem from_all {lo hi : Int} {l : List Int} (h : ∀ x ∈ l, lo ≤ x ∧ x ≤ hi) : ((dI l).all fun d => fromB d lo hi) = true := by
  rw [List.all_map, List.all_eq_true]
  intro x hx
  simp [h x hx]
/-! one of each -/
theorem mem_step {acc : List Int} {x y : Int} : y ∈ stepI acc x ↔ y ∈ acc ∨ y = x := by
  unfold stepI
  split
  · rename_i h
    simp at h
    constructor
    · exact .inl
    · rintro (h1 | rfl)
      · exact h1
      · exact h
  · simp
theorem dedup_go : ∀ (xs acc : List Int), acc.Nodup → ((xs.foldl stepI acc).length = acc.length + xs.length ↔ (acc ++ xs).Nodup) ∧ (xs.foldl stepI acc).length ≤ acc.length + xs.length ∧ (xs.foldl stepI acc).Nodup
  | [], acc, h => by simp [h]
  | x :: xs, acc, h => by
    rw [List.foldl_cons]
    by_cases hx : x ∈ acc
    · have e : stepI acc x = acc := by unfold stepI; rw [if_pos (by simpa using hx)]
      rw [e]
      obtain ⟨h1, h2, h3⟩ := dedup_go xs acc h
      refine ⟨⟨fun q => ?_, fun q => ?_⟩, by simp; omega, h3⟩
      · simp at q; omega
      · rw [List.nodup_append] at q
        exact absurd rfl (q.2.2 x hx x List.mem_cons_self)
    · have e : stepI acc x = acc ++ [x] := by unfold stepI; rw [if_neg (by simpa using hx)]
      have hn : (acc ++ [x]).Nodup := by
        rw [List.nodup_append]
        exact ⟨h, by simp, fun a ha b hb => by simp at hb; subst hb; exact fun z => hx (z ▸ ha)⟩
      rw [e]
      obtain ⟨h1, h2, h3⟩ := dedup_go xs (acc ++ [x]) hn
      rw [List.length_append, List.append_assoc] at h1
      rw [List.length_append] at h2
      simp only [List.length_cons, List.length_nil, List.singleton_append] at h1 h2 ⊢
      exact ⟨by rw [← h1]; omega, by omega, h3⟩
theorem dedup_len (xs : List Int) : (dedupI xs).length = xs.length ↔ xs.Nodup := by
  have := (dedup_go xs [] (by simp)).1
  simpa [dedupI] using this
/-! ### is_order -/
def orderL (l : List Int) : Bool := decide (1 ≤ l.length) && decide (l.length ≤ 100) && l.all (fun x => decide (0 ≤ x) && decide (x ≤ (l.length : Int) - 1)) && decide l.Nodup
def orderB : D → Bool
  | .tuple ds => match intsD ds with
    | some l => orderL l
    | none => false
  | _ => false
theorem intsD_some : ∀ {ds : List D} {l : List Int}, intsD ds = some l → ds = dI l
  | [], l, h => by cases h; rfl
  | d :: ds, l, h => by
    cases d with
    | int i =>
      have h : (intsD ds).map (i :: ·) = some l := h
      cases e : intsD ds with
      | none => rw [e] at h; cases h
      | some l' => rw [e] at h; cases h; rw [intsD_some e]; rfl
    | none => cases h
    | bool _ => cases h
    | str _ => cases h
    | list _ => cases h
    | tuple _ => cases h
    | dict _ => cases h
theorem orderB_dI (l : List Int) : orderB (.tuple (dI l)) = orderL l := by
  show (match intsD (dI l) with | some l => orderL l | none => false) = _
  rw [intsD_dI]
theorem orderL_iff {l : List Int} : orderL l = true ↔ 1 ≤ l.length ∧ l.length ≤ 100 ∧ (∀ x ∈ l, 0 ≤ x ∧ x ≤ (l.length : Int) - 1) ∧ l.Nodup := by
  unfold orderL
  simp [and_assoc]
theorem orderB_iff {v : D} : orderB v = true ↔ ∃ l, v = .tuple (dI l) ∧ orderL l = true := by
  constructor
  · intro h
    cases v with
    | tuple ds =>
      have h : (match intsD ds with | some l => orderL l | none => false) = true := h
      cases e : intsD ds with
      | none => rw [e] at h; cases h
      | some l => rw [e] at h; exact ⟨l, by rw [intsD_some e], h⟩
    | none => cases h
    | bool _ => cases h
    | int _ => cases h
    | str _ => cases h
    | list _ => cases h
    | dict _ => cases h
  · rintro ⟨l, rfl, h⟩
    rw [orderB_dI]; exact h
theorem is_order_ok [Has tab 0 d0] [Has tab 1 d1] [H : Has tab 2 d2] {k : Nat} (v : D) : callF tab (k + 3) 2 [.val v] = .ok (.val (.bool (orderB v)), [.val v]) := by
  refine Wp.eq ?_
  refine callW H rfl rfl ?_
  cases v with
  | tuple ds =>
    by_cases c1 : (1 : Int) ≤ ds.length
    · by_cases c2 : (ds.length : Int) ≤ 100
      · have lc : loopC (lcT (callF tab (k + 2)) (.call 1 (.cons (.var 1) (.cons (.cst (.int 0)) (.cons (.bin .sub (.b1 .len (.var 0)) (.cst (.int 1))) .nil)))) (.nm 1) .no [1]) (ds.map id) [] [.val (.tuple ds), .un] = .ok (ds.map fun d => .bool (fromB d 0 ((ds.length : Int) - 1)), [.val (.tuple ds), .un]) := by
          refine loopC_mp id (fun d => .bool (fromB d 0 ((ds.length : Int) - 1))) (fun d _ => ?_) (by omega)
          have e := is_from_ok (tab := tab) (k := k) d 0 ((ds.length : Int) - 1)
          simp -implicitDefEqProofs [e]
        rw [List.map_id] at lc
        have hall : b1 .all (.list (ds.map fun d => .bool (fromB d 0 ((ds.length : Int) - 1)))) = some (.val (.bool (ds.all fun d => fromB d 0 ((ds.length : Int) - 1)))) := by
          show (bools _).map _ = _
          rw [bools_map]
          simp only [Option.map_some]
          rw [List.all_map]
          rfl
        cases ha : ds.all (fun d => fromB d 0 ((ds.length : Int) - 1)) with
        | true =>
          obtain ⟨l, hds, hl⟩ := all_from ha
          have el : ds.length = l.length := by rw [hds, List.length_map]
          have hls : b1 .lenset (.tuple ds) = some (.val (.int (dedupI l).length)) := by
            rw [hds]
            show (((some (dI l)).bind intsD).bind _).or _ = _
            simp only [Option.bind_some, intsD_dI]
            rw [if_pos (by omega), Option.some_or]
          have hdd : decide (((dedupI l).length : Int) = (ds.length : Int)) = orderB (.tuple ds) := by
            rw [hds, orderB_dI, List.length_map]
            rw [Bool.eq_iff_iff, decide_eq_true_iff, orderL_iff]
            rw [el] at hl c1 c2
            have := dedup_len l
            constructor
            · intro h; exact ⟨by omega, by omega, hl, this.mp (by omega)⟩
            · intro h; have := this.mpr h.2.2.2; omega
          simp -implicitDefEqProofs [d2, c1, c2, lc, hall, ha, hls, hdd]
        | false =>
          have ho : orderB (.tuple ds) = false := by
            cases h : orderB (.tuple ds) with
            | false => rfl
            | true =>
              obtain ⟨l, e, hl⟩ := orderB_iff.mp h
              cases e
              have := (orderL_iff.mp hl).2.2.1
              rw [List.length_map, from_all this] at ha
              cases ha
          simp -implicitDefEqProofs [d2, c1, c2, lc, hall, ha, ho]
      · have ho : orderB (.tuple ds) = false := by
          cases h : orderB (.tuple ds) with
          | false => rfl
          | true =>
            obtain ⟨l, e, hl⟩ := orderB_iff.mp h
            cases e
            have := orderL_iff.mp hl
            rw [List.length_map] at c2
            omega
        simp -implicitDefEqProofs [d2, c1, c2, ho]
    · have ho : orderB (.tuple ds) = false := by
        cases h : orderB (.tuple ds) with
        | false => rfl
        | true =>
          obtain ⟨l, e, hl⟩ := orderB_iff.mp h
          cases e
          have := orderL_iff.mp hl
          rw [List.length_map] at c1
          omega
      simp -implicitDefEqProofs [d2, c1, ho]
  | none => simp -implicitDefEqProofs [d2, isTy, orderB]
  | bool _ => simp -implicitDefEqProofs [d2, isTy, orderB]
  | int _ => simp -implicitDefEqProofs [d2, isTy, orderB]
  | str _ => simp -implicitDefEqProofs [d2, isTy, orderB]
  | list _ => simp -implicitDefEqProofs [d2, isTy, orderB]
  | dict _ => simp -implicitDefEqProofs [d2, isTy, orderB]
/-! ### bar_of -/
theorem enum_get : ∀ {ds : List D} {n i : Nat} {d : D}, (enumL n ds)[i]? = some d → ∃ e, ds[i]? = some e ∧ d = .tuple [.int ((n + i : Nat) : Int), e]
  | [], n, i, d, h => by simp [enumL] at h
  | x :: ds, n, 0, d, h => by
    simp [enumL] at h
    exact ⟨x, rfl, by rw [← h]; simp⟩
  | x :: ds, n, i + 1, d, h => by
    simp [enumL] at h
    obtain ⟨e, h1, h2⟩ := enum_get h
    refine ⟨e, by simpa using h1, ?_⟩
    rw [h2]
    congr 4
    omega
@[simp] theorem enum_len : ∀ (ds : List D) (n : Nat), (enumL n ds).length = ds.length
  | [], _ => rfl
  | _ :: ds, n => by simp [enumL, enum_len ds]
def barD : Option Nat → D
  | none => .none
  | some n => .int n
def BarI (l : List Int) (i : Nat) (ρ : Env) : Prop := ∃ lo hi x y, barGo lo hi i (l.drop i) = barOf l ∧ ρ = [.val (.tuple (dI l)), .val (.int lo), .val (.int hi), x, y]
theorem bar_of_ok [H : Has tab 4 d4] {k : Nat} {l : List Int} (h0 : l ≠ []) : callF tab (k + 1) 4 [.val (.tuple (dI l))] = .ok (.val (barD (barOf l)), [.val (.tuple (dI l))]) := by
  refine Wp.eq ?_
  refine callW H rfl rfl ?_
  obtain ⟨c, r, rfl⟩ := List.exists_cons_of_ne_nil h0
  generalize hl : c :: r = l
  have g0 : l[0]? = some c := by rw [← hl]; rfl
  have p0 : place l.length 0 = some 0 := by rw [← hl]; simp
  simp -implicitDefEqProofs [d4, g0, p0]
  refine wp_loopF (BarI l) ⟨c, c, .un, .un, by rw [← hl]; rfl, by simp⟩ ?_ ?_
  · rintro i d ρ hd ⟨lo, hi, x, y, hb, rfl⟩
    obtain ⟨e, h1, rfl⟩ := enum_get hd
    rw [List.getElem?_map] at h1
    obtain ⟨z, h2, rfl⟩ := Option.map_eq_some_iff.mp h1
    obtain ⟨hlt, hz⟩ := List.getElem?_eq_some_iff.mp h2
    rw [List.drop_eq_getElem_cons hlt, hz] at hb
    unfold barGo at hb
    have ei : ((0 + i : Nat) : Int) = i := by omega
    rw [ei]
    by_cases c1 : 0 < i ∧ z ≠ lo - 1 ∧ z ≠ hi + 1
    · rw [if_pos c1] at hb
      simp -implicitDefEqProofs [c1.1, c1.2.1, c1.2.2, ← hb, barD]
    · rw [if_neg c1] at hb
      have fin : ∀ {x y : Slot}, BarI l (i + 1) [.val (.tuple (dI l)), .val (.int (if z < lo then z else lo)), .val (.int (if z > hi then z else hi)), x, y] := fun {x y} => ⟨_, _, x, y, hb, rfl⟩
      by_cases a1 : 0 < i
      · by_cases a2 : z = lo - 1
        · have b2 := eq_true a2
          simp -implicitDefEqProofs [a1, b2]
          exact fin
        · by_cases a3 : z = hi + 1
          · have b3 := eq_true a3
            simp -implicitDefEqProofs [a1, a2, b3]
            exact fin
          · exact absurd ⟨a1, a2, a3⟩ c1
      · simp -implicitDefEqProofs [a1]
        exact fin
  · rintro ρ ⟨lo, hi, x, y, hb, rfl⟩
    simp [barGo] at hb
    simp [← hb, barD]
/-! ### is_row, check_row -/
def rowL (l : List Int) : Bool := orderL l && (barOf l).isNone
def rowB : D → Bool
  | .tuple ds => match intsD ds with
    | some l => rowL l
    | none => false
  | _ => false
theorem rowB_dI (l : List Int) : rowB (.tuple (dI l)) = rowL l := by
  show (match intsD (dI l) with | some l => rowL l | none => false) = _
  rw [intsD_dI]
theorem rowL_iff {l : List Int} : rowL l = true ↔ l.length ≤ 100 ∧ IsRow l.length l := by
  unfold rowL
  rw [Bool.and_eq_true, orderL_iff]
  constructor
  · rintro ⟨⟨h1, h2, h3, h4⟩, h5⟩
    refine ⟨h2, row_of_bar (fun z => by rw [z] at h1; simp at h1) h3 (by simpa using h5)⟩
  · rintro ⟨h1, h2⟩
    have h3 := Part.le h2
    refine ⟨⟨by omega, h1, fun x hx => ?_, h2.nodup⟩, by rw [Part.bar h2]; rfl⟩
    have := (Part.mem h2 x).mp hx
    omega
theorem rowB_iff {v : D} : rowB v = true ↔ ∃ l, v = .tuple (dI l) ∧ l.length ≤ 100 ∧ IsRow l.length l := by
  constructor
  · intro h
    cases v with
    | tuple ds =>
      have h : (match intsD ds with | some l => rowL l | none => false) = true := h
      cases e : intsD ds with
      | none => rw [e] at h; cases h
      | some l => rw [e] at h; exact ⟨l, by rw [intsD_some e], rowL_iff.mp h⟩
    | none => cases h
    | bool _ => cases h
    | int _ => cases h
    | str _ => cases h
    | list _ => cases h
    | dict _ => cases h
  · rintro ⟨l, rfl, h⟩
    rw [rowB_dI]; exact rowL_iff.mpr h
theorem is_row_ok [Has tab 0 d0] [Has tab 1 d1] [Has tab 2 d2] [Has tab 4 d4] [H : Has tab 6 d6] {k : Nat} (v : D) : callF tab (k + 4) 6 [.val v] = .ok (.val (.bool (rowB v)), [.val v]) := by
  refine Wp.eq ?_
  refine callW H rfl rfl ?_
  have e1 := is_order_ok (tab := tab) (k := k) v
  cases ho : orderB v with
  | false =>
    have hr : rowB v = false := by
      cases h : rowB v with
      | false => rfl
      | true =>
        obtain ⟨l, rfl, h1, h2⟩ := rowB_iff.mp h
        have h3 := rowL_iff.mpr ⟨h1, h2⟩
        unfold rowL at h3
        rw [← orderB_dI, ho] at h3
        cases h3
    simp -implicitDefEqProofs [d6, e1, ho, hr]
  | true =>
    obtain ⟨l, rfl, hl⟩ := orderB_iff.mp ho
    have h1 := orderL_iff.mp hl
    have e2 := bar_of_ok (tab := tab) (k := k + 2) (l := l) (fun z => by rw [z] at h1; simp at h1)
    have hr : rowB (.tuple (dI l)) = (barOf l).isNone := by rw [rowB_dI]; unfold rowL; rw [hl]; rfl
    cases hb : barOf l with
    | none => simp -implicitDefEqProofs [d6, e1, ho, e2, hr, hb, barD]
    | some n => simp -implicitDefEqProofs [d6, e1, ho, e2, hr, hb, barD]
theorem check_row_ok [Has tab 0 d0] [Has tab 1 d1] [Has tab 2 d2] [Has tab 4 d4] [Has tab 6 d6] [H : Has tab 7 d7] {k : Nat} {v : D} (h : rowB v = true) : callF tab (k + 5) 7 [.val v] = .ok (.val .none, [.val v]) := by
  refine Wp.eq ?_
  refine callW H rfl rfl ?_
  have e1 := is_row_ok (tab := tab) (k := k) v
  simp -implicitDefEqProofs [d7, e1, h]
theorem check_row_no [Has tab 0 d0] [Has tab 1 d1] [Has tab 2 d2] [Has tab 4 d4] [Has tab 6 d6] [H : Has tab 7 d7] {k : Nat} {v : D} (h : rowB v = false) : callF tab (k + 5) 7 [.val v] = .exc 3 .none [.val v] := by
  refine Wp.ex ?_
  refine callW H rfl rfl ?_
  have e1 := is_row_ok (tab := tab) (k := k) v
  simp -implicitDefEqProofs [d7, e1, h]
/-! ### falls -/
theorem falls_ok [Has tab 0 d0] [Has tab 1 d1] [Has tab 2 d2] [Has tab 4 d4] [Has tab 6 d6] [Has tab 7 d7] [H : Has tab 11 d11] {k : Nat} {l : List Int} (h : rowL l = true) : callF tab (k + 6) 11 [.val (.tuple (dI l))] = .ok (.val (.int (fallsL l).length), [.val (.tuple (dI l))]) := by
  refine Wp.eq ?_
  refine callW H rfl rfl ?_
  have e1 := check_row_ok (tab := tab) (k := k) (v := .tuple (dI l)) (by rw [rowB_dI]; exact h)
  have h1 := rowL_iff.mp h
  have h2 := falls_lc (call := callF tab (k + 5)) (ρ' := []) (Part.ne h1.2) (by omega)
  have rg : rangeOk (l.length : Int) = true := rangeOk_of (by omega) (by omega)
  have rg1 : rangeOk 1 = true := by decide
  simp -implicitDefEqProofs [d11, e1, h2, rg, rg1]
theorem law_falls_ok [H : Has tab 39 d39] {k : Nat} {l : List Int} (h0 : l ≠ []) (h1 : l.length ≤ 1000) : callF tab (k + 1) 39 [.val (.tuple (dI l))] = .ok (.val (.int (fallsL l).length), [.val (.tuple (dI l))]) := by
  refine Wp.eq ?_
  refine callW H rfl rfl ?_
  have h2 := falls_lc (call := callF tab k) (ρ' := []) h0 h1
  have rg : rangeOk (l.length : Int) = true := rangeOk_of (by omega) (by omega)
  have rg1 : rangeOk 1 = true := by decide
  simp -implicitDefEqProofs [d39, h2, rg, rg1]
/-! ### _law_equal of flat values -/
theorem equal_int [H : Has tab 16 d16] {k : Nat} (i j : Int) : callF tab (k + 1) 16 [.val (.int i), .val (.int j)] = .ok (.val (.bool (decide (i = j))), [.val (.int i), .val (.int j)]) := by
  refine Wp.eq ?_
  refine callW H rfl rfl ?_
  simp -implicitDefEqProofs [d16, isTy]
end Mlg
/-! Rw2: all rows, in their order. Plain Lean. -/
namespace Mlg
abbrev Tr := Int × Int × List Int
def extT (n : Int) (t : Tr) : List Tr :=
  (if 0 < t.1 then [(t.1 - 1, t.2.1, t.2.2 ++ [t.1 - 1])] else []) ++ (if t.2.1 < n - 1 then [(t.1, t.2.1 + 1, t.2.2 ++ [t.2.1 + 1])] else [])
def gen (n : Nat) : Nat → List Tr
  | 0 => (List.range n).map fun (c : Nat) => ((c : Int), (c : Int), [(c : Int)])
  | j + 1 => (gen n j).flatMap (extT n)
def rowsN (n : Nat) : List (List Int) := (gen n (n - 1)).map (·.2.2)
theorem mem_extT {n : Int} {t u : Tr} : u ∈ extT n t ↔ (0 < t.1 ∧ u = (t.1 - 1, t.2.1, t.2.2 ++ [t.1 - 1])) ∨ (t.2.1 < n - 1 ∧ u = (t.1, t.2.1 + 1, t.2.2 ++ [t.2.1 + 1])) := by
  unfold extT
  rw [List.mem_append]
  by_cases a : 0 < t.1 <;> by_cases b : t.2.1 < n - 1 <;> simp [a, b]
theorem gen_part {n : Nat} : ∀ {j : Nat} {t : Tr}, t ∈ gen n j → Part t.1 t.2.1 t.2.2 ∧ 0 ≤ t.1 ∧ t.2.1 < n ∧ t.2.1 - t.1 = j
  | 0, t, h => by
    obtain ⟨c, hc, rfl⟩ := List.mem_map.mp h
    have := List.mem_range.mp hc
    exact ⟨.one _, by simp, by simp; omega, by simp⟩
  | j + 1, t, h => by
    obtain ⟨u, hu, ht⟩ := List.mem_flatMap.mp h
    obtain ⟨h1, h2, h3, h4⟩ := gen_part hu
    rcases mem_extT.mp ht with ⟨a, rfl⟩ | ⟨a, rfl⟩
    · exact ⟨.dn h1, by simp; omega, by simp; omega, by simp; omega⟩
    · exact ⟨.up h1, by simp; omega, by simp; omega, by simp; omega⟩
theorem part_gen {n : Nat} {lo hi : Int} {r : List Int} (h : Part lo hi r) : 0 ≤ lo → hi < n → (lo, hi, r) ∈ gen n (hi - lo).toNat := by
  induction h with
  | one c =>
    intro h0 h1
    rw [show (c - c).toNat = 0 by omega]
    refine List.mem_map.mpr ⟨c.toNat, List.mem_range.mpr (by omega), ?_⟩
    rw [show ((c.toNat : Nat) : Int) = c by omega]
  | @dn lo hi l h ih =>
    intro h0 h1
    have := h.le
    rw [show (hi - (lo - 1)).toNat = (hi - lo).toNat + 1 by omega]
    exact List.mem_flatMap.mpr ⟨_, ih (by omega) h1, mem_extT.mpr (.inl ⟨by simp; omega, rfl⟩)⟩
  | @up lo hi l h ih =>
    intro h0 h1
    have := h.le
    rw [show (hi + 1 - lo).toNat = (hi - lo).toNat + 1 by omega]
    exact List.mem_flatMap.mpr ⟨_, ih h0 (by omega), mem_extT.mpr (.inr ⟨by simp; omega, rfl⟩)⟩
/-- all rows and no others -/
theorem mem_rowsN {n : Nat} (hn : 0 < n) {r : List Int} : r ∈ rowsN n ↔ IsRow n r := by
  unfold rowsN IsRow
  rw [List.mem_map]
  constructor
  · rintro ⟨t, ht, rfl⟩
    obtain ⟨h1, h2, h3, h4⟩ := gen_part ht
    have e1 : t.1 = 0 := by omega
    have e2 : t.2.1 = (n : Int) - 1 := by omega
    rw [← e2, ← e1]
    exact h1
  · intro h
    have := part_gen (n := n) h (by omega) (by omega)
    rw [show ((n : Int) - 1 - 0).toNat = n - 1 by omega] at this
    exact ⟨_, this, rfl⟩
/-! ### the order -/
def ltL : List Int → List Int → Bool
  | [], [] => false
  | [], _ :: _ => true
  | _ :: _, [] => false
  | x :: xs, y :: ys => if x = y then ltL xs ys else x < y
theorem ltL_append : ∀ {a b : List Int} (x y : List Int), a.length = b.length → ltL a b = true → ltL (a ++ x) (b ++ y) = true
  | [], [], _, _, _, h => by cases h
  | p :: a, q :: b, x, y, hl, h => by
    show (if p = q then ltL (a ++ x) (b ++ y) else decide (p < q)) = true
    have h : (if p = q then ltL a b else decide (p < q)) = true := h
    split
    · rename_i e; rw [if_pos e] at h; exact ltL_append x y (by simpa using hl) h
    · rename_i e; rw [if_neg e] at h; exact h
theorem ltL_last : ∀ (a : List Int) (x y : Int), x < y → ltL (a ++ [x]) (a ++ [y]) = true
  | [], x, y, h => by
    show (if x = y then _ else decide (x < y)) = true
    rw [if_neg (by omega)]
    exact decide_eq_true h
  | p :: a, x, y, h => by
    show (if p = p then ltL (a ++ [x]) (a ++ [y]) else _) = true
    rw [if_pos rfl]
    exact ltL_last a x y h
theorem ltL_asymm : ∀ {a b : List Int}, ltL a b = true → ltL b a = false
  | [], [], h => by cases h
  | [], _ :: _, _ => rfl
  | _ :: _, [], h => by cases h
  | x :: xs, y :: ys, h => by
    have h : (if x = y then ltL xs ys else decide (x < y)) = true := h
    show (if y = x then ltL ys xs else decide (y < x)) = false
    by_cases e : x = y
    · rw [if_pos e] at h
      rw [if_pos e.symm]
      exact ltL_asymm h
    · rw [if_neg e] at h
      rw [if_neg fun z => e z.symm]
      have := of_decide_eq_true h
      exact decide_eq_false (by omega)
def SortT (l : List Tr) : Prop := l.Pairwise fun a b => ltL a.2.2 b.2.2 = true
theorem gen_sorted {n : Nat} : ∀ j : Nat, SortT (gen n j)
  | 0 => by
    unfold SortT
    show ((List.range n).map _).Pairwise _
    rw [List.pairwise_map]
    refine List.Pairwise.imp ?_ (List.pairwise_lt_range (n := n))
    intro a b h
    show (if (a : Int) = (b : Int) then _ else decide ((a : Int) < (b : Int))) = true
    rw [if_neg (by omega)]
    exact decide_eq_true (by omega)
  | j + 1 => by
    have ih := gen_sorted (n := n) j
    unfold SortT at ih ⊢
    show ((gen n j).flatMap (extT n)).Pairwise _
    rw [List.flatMap_def, List.pairwise_flatten]
    constructor
    · intro l hl
      obtain ⟨t, ht, rfl⟩ := List.mem_map.mp hl
      have hle := (gen_part ht).1.le
      unfold extT
      by_cases a : 0 < t.1 <;> by_cases b : t.2.1 < (n : Int) - 1 <;> simp [a, b]
      exact ltL_last _ _ _ (by omega)
    · rw [List.pairwise_map]
      refine List.Pairwise.imp_of_mem ?_ ih
      intro a b ha hb h x hx y hy
      have la := (gen_part ha).1.len
      have lb := (gen_part hb).1.len
      have ja := (gen_part ha).2.2.2
      have jb := (gen_part hb).2.2.2
      have hl : a.2.2.length = b.2.2.length := by omega
      rcases mem_extT.mp hx with ⟨_, rfl⟩ | ⟨_, rfl⟩ <;> rcases mem_extT.mp hy with ⟨_, rfl⟩ | ⟨_, rfl⟩ <;> exact ltL_append _ _ hl h
theorem rowsN_sorted (n : Nat) : (rowsN n).Pairwise fun a b => ltL a b = true := by
  unfold rowsN
  rw [List.pairwise_map]
  exact gen_sorted _
end Mlg
/-! Pl6: all rows, by the law. -/
namespace Mlg
open PySem (PyData Str)
variable {tab : Nat → Option Def}
abbrev tD (r : List Int) : D := .tuple (dI r)
/-! ### least and greatest -/
theorem minI_spec : ∀ (l : List Int) (m : Int), (minI m l = m ∨ minI m l ∈ l) ∧ minI m l ≤ m ∧ ∀ x ∈ l, minI m l ≤ x
  | [], m => ⟨.inl rfl, Int.le_refl _, fun x h => by cases h⟩
  | a :: l, m => by
    obtain ⟨h1, h2, h3⟩ := minI_spec l (if a < m then a else m)
    have u1 : (if a < m then a else m) ≤ m := by split <;> omega
    have u2 : (if a < m then a else m) ≤ a := by split <;> omega
    show (minI (if a < m then a else m) l = m ∨ minI (if a < m then a else m) l ∈ a :: l) ∧ minI (if a < m then a else m) l ≤ m ∧ ∀ x ∈ a :: l, minI (if a < m then a else m) l ≤ x
    refine ⟨?_, ?_, fun x hx => ?_⟩
    · rcases h1 with h1 | h1
      · rw [h1]
        split
        · exact .inr List.mem_cons_self
        · exact .inl rfl
      · exact .inr (List.mem_cons_of_mem _ h1)
    · omega
    · rcases List.mem_cons.mp hx with rfl | hx
      · omega
      · exact h3 x hx
theorem maxI_spec : ∀ (l : List Int) (m : Int), (maxI m l = m ∨ maxI m l ∈ l) ∧ m ≤ maxI m l ∧ ∀ x ∈ l, x ≤ maxI m l
  | [], m => ⟨.inl rfl, Int.le_refl _, fun x h => by cases h⟩
  | a :: l, m => by
    obtain ⟨h1, h2, h3⟩ := maxI_spec l (if a > m then a else m)
    have u1 : m ≤ (if a > m then a else m) := by split <;> omega
    have u2 : a ≤ (if a > m then a else m) := by split <;> omega
    show (maxI (if a > m then a else m) l = m ∨ maxI (if a > m then a else m) l ∈ a :: l) ∧ m ≤ maxI (if a > m then a else m) l ∧ ∀ x ∈ a :: l, x ≤ maxI (if a > m then a else m) l
    refine ⟨?_, ?_, fun x hx => ?_⟩
    · rcases h1 with h1 | h1
      · rw [h1]
        split
        · exact .inr List.mem_cons_self
        · exact .inl rfl
      · exact .inr (List.mem_cons_of_mem _ h1)
    · omega
    · rcases List.mem_cons.mp hx with rfl | hx
      · omega
      · exact h3 x hx
theorem b1_min {lo hi : Int} {r : List Int} (h : Part lo hi r) : b1 .min (tD r) = some (.val (.int lo)) := by
  obtain ⟨c, r', rfl⟩ := List.exists_cons_of_ne_nil h.ne
  show ((some (dI (c :: r'))).bind intsD).bind _ = _
  simp only [Option.bind_some, intsD_dI]
  obtain ⟨h1, h2, h3⟩ := minI_spec r' c
  have hm : minI c r' ∈ c :: r' := by
    rcases h1 with z | z
    · rw [z]; exact List.mem_cons_self
    · exact List.mem_cons_of_mem _ z
  have a := (h.mem _).mp hm
  have b := (h.mem lo).mpr ⟨by omega, h.le⟩
  have : minI c r' ≤ lo := by
    rcases List.mem_cons.mp b with z | z
    · omega
    · exact h3 lo z
  rw [show minI c r' = lo by omega]
theorem b1_max {lo hi : Int} {r : List Int} (h : Part lo hi r) : b1 .max (tD r) = some (.val (.int hi)) := by
  obtain ⟨c, r', rfl⟩ := List.exists_cons_of_ne_nil h.ne
  show ((some (dI (c :: r'))).bind intsD).bind _ = _
  simp only [Option.bind_some, intsD_dI]
  obtain ⟨h1, h2, h3⟩ := maxI_spec r' c
  have hm : maxI c r' ∈ c :: r' := by
    rcases h1 with z | z
    · rw [z]; exact List.mem_cons_self
    · exact List.mem_cons_of_mem _ z
  have a := (h.mem _).mp hm
  have b := (h.mem hi).mpr ⟨h.le, by omega⟩
  have : hi ≤ maxI c r' := by
    rcases List.mem_cons.mp b with z | z
    · omega
    · exact h3 hi z
  rw [show maxI c r' = hi by omega]
/-! ### a sort of what is sorted -/
theorem ltInts_is : ∀ a b : List Int, ltInts a b = ltL a b
  | [], [] => rfl
  | [], _ :: _ => rfl
  | _ :: _, [] => rfl
  | x :: xs, y :: ys => by
    show (if x = y then ltInts xs ys else decide (x < y)) = (if x = y then ltL xs ys else decide (x < y))
    rw [ltInts_is xs ys]
theorem ltD_tD (a b : List Int) : ltD (tD a) (tD b) = ltL a b := by
  show (match intsD (dI a), intsD (dI b) with | some a, some b => ltInts a b | _, _ => false) = _
  rw [intsD_dI, intsD_dI]
  exact ltInts_is a b
theorem sort_rows : ∀ {ls : List (List Int)}, ls.Pairwise (fun a b => ltL a b = true) → sortD (ls.map tD) = ls.map tD
  | [], _ => rfl
  | a :: ls, h => by
    rw [List.pairwise_cons] at h
    show insD (tD a) (sortD (ls.map tD)) = _
    rw [sort_rows h.2]
    cases ls with
    | nil => rfl
    | cons b ls =>
      show (if ltD (tD b) (tD a) = true then _ else tD a :: tD b :: ls.map tD) = _
      rw [ltD_tD, ltL_asymm (h.1 b List.mem_cons_self), if_neg Bool.false_ne_true]
      rfl
theorem sortable_rows {ls : List (List Int)} (h : ∀ r ∈ ls, r ≠ []) : sortable (ls.map tD) = true := by
  unfold sortable
  rw [Bool.or_eq_true]
  refine .inr ?_
  rw [List.all_map, List.all_eq_true]
  intro r hr
  obtain ⟨c, r', rfl⟩ := List.exists_cons_of_ne_nil (h r hr)
  show (intsD (dI (c :: r'))).isSome = true
  rw [intsD_dI]
  rfl
/-! ### the loops -/
theorem rangeL_0 (n : Nat) : rangeL 0 n = (List.range n).map fun (j : Nat) => .int (j : Int) := by
  have := rangeL_nat 0 n
  simp only [Int.zero_add] at this
  exact this
def addL (lo hi : Int) (r : List Int) (i : Int) : List D := (if 0 < lo ∧ lo - 1 < i then [tD (r ++ [lo - 1])] else []) ++ (if hi + 1 < i then [tD (r ++ [hi + 1])] else [])
theorem addL_len (lo hi : Int) (r : List Int) (i : Int) : (addL lo hi r i).length ≤ 2 := by
  unfold addL
  rw [List.length_append]
  split <;> split <;> simp
theorem addL_end {n lo hi : Int} {r : List Int} (h : Part lo hi r) (h0 : 0 ≤ lo) (h1 : hi < n) : addL lo hi r n = (extT n (lo, hi, r)).map fun t => tD t.2.2 := by
  unfold addL extT
  have := h.le
  rw [List.map_append]
  congr 1
  · by_cases a : 0 < lo
    · rw [if_pos ⟨a, by omega⟩, if_pos (show 0 < (lo, hi, r).1 from a)]; rfl
    · rw [if_neg (fun z => a z.1), if_neg (show ¬ 0 < (lo, hi, r).1 from a)]; rfl
  · by_cases a : hi < n - 1
    · rw [if_pos (by omega), if_pos (show (lo, hi, r).2.1 < n - 1 from a)]; rfl
    · rw [if_neg (by omega), if_neg (show ¬ (lo, hi, r).2.1 < n - 1 from a)]; rfl
def inB : Ss := .cons (.cond (.or (.cmp .eq (.var 2) (.bin .sub (.b1 .min (.var 5)) (.cst (.int 1)))) (.cmp .eq (.var 2) (.bin .add (.b1 .max (.var 5)) (.cst (.int 1)))))
  (.cons (.exp (.app 4 (.bin .add (.var 5) (.tup (.cons (.var 2) .nil))))) .nil) .nil) .nil
def InI (n : Nat) (s1 x3 : Slot) (base : List D) (lo hi : Int) (r : List Int) (i : Int) (ρ : Env) : Prop := ∃ x, ρ = [.val (.int n), s1, x, x3, .own (.lst (base ++ addL lo hi r i)), .val (tD r)]
theorem in_ok {call : CallT} {n : Nat} {s1 x2 x3 : Slot} {base : List D} {lo hi : Int} {r : List Int} {Q : Env × Option R → Prop} {E : Nat → D → Env → Prop} (h : Part lo hi r) (h0 : 0 ≤ lo) (h1 : hi < n) (hn : n ≤ 1000) (hb : base.length ≤ 100000)
    (hq : ∀ x, Q ([.val (.int n), s1, x, x3, .own (.lst (base ++ addL lo hi r n)), .val (tD r)], none)) :
    Wp (loopF (bodyF call 1 (.nm 2) inB) (rangeL 0 n) [.val (.int n), s1, x2, x3, .own (.lst base), .val (tD r)]) Q E := by
  have hle := h.le
  have e0 : addL lo hi r 0 = [] := by
    unfold addL
    rw [if_neg (by omega), if_neg (by omega)]
    rfl
  refine wp_loopR (InI n s1 x3 base lo hi r) ⟨x2, by rw [e0, List.append_nil]⟩ ?_ ?_
  · rintro i ρ i0 i1 ⟨x, rfl⟩
    have m1 := b1_min h
    have m2 := b1_max h
    have hl := h.len
    have sm : small (base ++ addL lo hi r i) = true := small_of (by have := addL_len lo hi r i; rw [List.length_append]; omega)
    have sm2 : small (dI r ++ [.int i]) = true := small_of (by rw [List.length_append, List.length_map]; simp; omega)
    have fin : ∀ {l : List D}, l = base ++ addL lo hi r (i + 1) → InI n s1 x3 base lo hi r (i + 1) [.val (.int n), s1, .val (.int i), x3, .own (.lst l), .val (tD r)] := fun {l} e => ⟨.val (.int i), by rw [e]⟩
    unfold inB
    by_cases a1 : i = lo - 1
    · have b1 := eq_true a1
      simp -implicitDefEqProofs [m1, m2, b1, sm, sm2]
      refine fin ?_
      unfold addL
      rw [if_neg (by omega), if_neg (by omega), if_pos (by omega), if_neg (by omega), a1]
      simp
    · by_cases a2 : i = hi + 1
      · have b2 := eq_true a2
        simp -implicitDefEqProofs [m1, m2, a1, b2, sm, sm2]
        refine fin ?_
        unfold addL
        by_cases a3 : 0 < lo
        · rw [if_pos (by omega), if_neg (by omega), if_pos (by omega), if_pos (by omega), a2]
          simp
        · rw [if_neg (by omega), if_neg (by omega), if_neg (by omega), if_pos (by omega), a2]
          simp
      · simp -implicitDefEqProofs [m1, m2, a1, a2]
        refine fin ?_
        unfold addL
        congr 2
        · by_cases a3 : 0 < lo ∧ lo - 1 < i
          · rw [if_pos a3, if_pos (by omega)]
          · rw [if_neg a3, if_neg (by omega)]
        · by_cases a3 : hi + 1 < i
          · rw [if_pos a3, if_pos (by omega)]
          · rw [if_neg a3, if_neg (by omega)]
  · rintro ρ ⟨x, rfl⟩
    rw [show max (0 : Int) (n : Int) = n by omega]
    exact hq x
/-! the rows of a lap -/
def midB : Ss := .cons (.loop (.nm 2) (.r1 (.var 0)) inB) .nil
def encT (ts : List Tr) : List D := ts.map fun t => tD t.2.2
def MidI (n : Nat) (s1 x3 : Slot) (ts : List Tr) (i : Nat) (ρ : Env) : Prop := ∃ x y, ρ = [.val (.int n), s1, x, x3, .own (.lst (encT ((ts.take i).flatMap (extT n)))), y]
theorem encT_get {ts : List Tr} {i : Nat} {d : D} (h : (encT ts)[i]? = some d) : ∃ t, ts[i]? = some t ∧ d = tD t.2.2 := by
  unfold encT at h
  rw [List.getElem?_map] at h
  obtain ⟨t, h1, h2⟩ := Option.map_eq_some_iff.mp h
  exact ⟨t, h1, h2.symm⟩
theorem flat_len {n : Int} : ∀ ts : List Tr, (ts.flatMap (extT n)).length ≤ 2 * ts.length
  | [] => by simp
  | t :: ts => by
    rw [List.flatMap_cons, List.length_append, List.length_cons]
    have h1 := flat_len (n := n) ts
    have h2 : (extT n t).length ≤ 2 := by
      unfold extT
      rw [List.length_append]
      split <;> split <;> simp
    omega
theorem mid_ok {call : CallT} {n : Nat} {s1 x2 x3 x5 : Slot} {ts : List Tr} {Q : Env × Option R → Prop} {E : Nat → D → Env → Prop} (hts : ∀ t ∈ ts, Part t.1 t.2.1 t.2.2 ∧ 0 ≤ t.1 ∧ t.2.1 < n) (hn : n ≤ 1000) (hl : ts.length ≤ 40000)
    (hq : ∀ x y, Q ([.val (.int n), s1, x, x3, .own (.lst (encT (ts.flatMap (extT n)))), y], none)) :
    Wp (loopF (bodyF call 1 (.nm 5) midB) (encT ts) [.val (.int n), s1, x2, x3, .own (.lst []), x5]) Q E := by
  refine wp_loopF (MidI n s1 x3 ts) ⟨x2, x5, by simp [encT]⟩ ?_ ?_
  · rintro i d ρ hd ⟨x, y, rfl⟩
    have hd2 : ts[i]?.map (fun t => tD t.2.2) = some d := by rw [← List.getElem?_map]; exact hd
    cases ht : ts[i]? with
    | none => rw [ht] at hd2; cases hd2
    | some t =>
    rw [ht] at hd2
    have ed : tD t.2.2 = d := Option.some.inj hd2
    rw [← ed]
    have p123 := hts t (List.mem_of_getElem? ht)
    have p1 := p123.1
    have p2 := p123.2.1
    have p3 := p123.2.2
    have rg : rangeOk (n : Int) = true := rangeOk_of (by omega) (by omega)
    unfold midB
    simp -implicitDefEqProofs [rg]
    refine in_ok p1 p2 p3 hn (by unfold encT; rw [List.length_map]; have := flat_len (n := n) (ts.take i); rw [List.length_take] at this; omega) fun x => ?_
    simp -implicitDefEqProofs
    refine ⟨x, .val (tD t.2.2), ?_⟩
    rw [addL_end p1 p2 p3]
    have e : (ts.take (i + 1)).flatMap (extT n) = (ts.take i).flatMap (extT n) ++ extT n t := by
      rw [List.take_succ, ht]
      simp
    rw [e]
    unfold encT
    rw [List.map_append]
  · rintro ρ ⟨x, y, rfl⟩
    have : (encT ts).length = ts.length := by simp [encT]
    rw [this, List.take_length]
    exact hq x y
/-! all rows -/
def isL (L : List D) (s : Slot) : Prop := s = .own (.lst L) ∨ s = .val (.list L)
def EvI (n : Nat) (i : Int) (ρ : Env) : Prop := ∃ s1 x2 x3 x4 x5, isL (encT (gen n i.toNat)) s1 ∧ ρ = [.val (.int n), s1, x2, x3, x4, x5]
theorem gen_len {n : Nat} : ∀ j : Nat, (gen n j).length ≤ n * 2 ^ j
  | 0 => by show ((List.range n).map _).length ≤ _; simp
  | j + 1 => by
    show ((gen n j).flatMap (extT n)).length ≤ _
    have h1 := flat_len (n := n) (gen n j)
    have h2 := gen_len (n := n) j
    rw [Nat.pow_succ, ← Nat.mul_assoc]
    omega
theorem every_ok [H : Has tab 19 d19] {k n : Nat} (h0 : 0 < n) (h1 : n ≤ 10) : callF tab (k + 1) 19 [.val (.int n)] = .ok (.tmp (.lst ((rowsN n).map tD)), [.val (.int n)]) := by
  refine Wp.eq ?_
  refine callW H rfl rfl ?_
  have rg : rangeOk (n : Int) = true := rangeOk_of (by omega) (by omega)
  have rg1 : rangeOk ((n : Int) - 1) = true := rangeOk_of (by omega) (by omega)
  have lc : loopC (lcT (callF tab k) (.tup (.cons (.var 2) .nil)) (.nm 2) .no [2]) (rangeL 0 n) [] [.val (.int n), .un, .un, .un, .un, .un] = .ok (encT (gen n 0), [.val (.int n), .un, .un, .un, .un, .un]) := by
    rw [rangeL_0]
    have e : encT (gen n 0) = (List.range n).map fun (j : Nat) => .tuple [.int (j : Int)] := by
      show ((List.range n).map _).map _ = _
      rw [List.map_map]
      rfl
    rw [e]
    exact loopC_mp _ _ (fun j _ => by simp -implicitDefEqProofs) (by simp; omega)
  simp -implicitDefEqProofs [d19, rg, rg1, lc]
  refine wp_loopR (EvI n) ⟨.own _, .un, .un, .un, .un, .inl rfl, rfl⟩ ?_ ?_
  · rintro i ρ i0 i1 ⟨s1, x2, x3, x4, x5, hs, rfl⟩
    have hts : ∀ t ∈ gen n i.toNat, Part t.1 t.2.1 t.2.2 ∧ 0 ≤ t.1 ∧ t.2.1 < n := fun t ht => let ⟨a, b, c, _⟩ := gen_part ht; ⟨a, b, c⟩
    have hlen : (gen n i.toNat).length ≤ 40000 := by
      have := gen_len (n := n) i.toNat
      have h2 : 2 ^ i.toNat ≤ 2 ^ 10 := Nat.pow_le_pow_right (by decide) (by omega)
      have h3 : n * 2 ^ i.toNat ≤ 10 * 2 ^ 10 := Nat.mul_le_mul h1 h2
      omega
    have eg : encT ((gen n i.toNat).flatMap (extT n)) = encT (gen n (i + 1).toNat) := by
      rw [show (i + 1).toNat = i.toNat + 1 by omega]
      rfl
    have fin : ∀ {s1 x2 x3 x4 x5 : Slot}, isL (encT (gen n (i + 1).toNat)) s1 → EvI n (i + 1) [.val (.int n), s1, x2, x3, x4, x5] := fun {s1 x2 x3 x4 x5} h => ⟨s1, x2, x3, x4, x5, h, rfl⟩
    rcases hs with rfl | rfl
    · simp -implicitDefEqProofs
      refine mid_ok hts (by omega) hlen fun x y => ?_
      simp -implicitDefEqProofs [eg]
      exact fin (.inr rfl)
    · simp -implicitDefEqProofs
      refine mid_ok hts (by omega) hlen fun x y => ?_
      simp -implicitDefEqProofs [eg]
      exact fin (.inr rfl)
  · rintro ρ ⟨s1, x2, x3, x4, x5, hs, rfl⟩
    have em : (max (0 : Int) ((n : Int) - 1)).toNat = n - 1 := by omega
    rw [em] at hs
    have er : encT (gen n (n - 1)) = (rowsN n).map tD := by
      unfold encT rowsN
      rw [List.map_map]
      rfl
    rw [er] at hs
    have so : sortable ((rowsN n).map tD) = true := sortable_rows fun r hr => Part.ne ((mem_rowsN h0).mp hr)
    have sd := sort_rows (rowsN_sorted n)
    have bs : b1 .sorted (.list ((rowsN n).map tD)) = some (.tmp (.lst ((rowsN n).map tD))) := by
      show (if sortable _ = true then some (R.tmp (.lst (sortD _))) else _) = _
      rw [if_pos so, sd]
    rcases hs with rfl | rfl
    · simp -implicitDefEqProofs [bs]
    · simp -implicitDefEqProofs [bs]
end Mlg
/-! Rw3: lots of a row stay unlike. Plain Lean. -/
namespace Mlg
theorem Part.take {lo hi : Int} {l : List Int} (h : Part lo hi l) : ∀ {m : Nat}, 0 < m → m ≤ l.length → ∃ a b, Part a b (l.take m) ∧ lo ≤ a ∧ b ≤ hi := by
  induction h with
  | one c =>
    intro m h0 h1
    have : m = 1 := by simp at h1; omega
    subst this
    exact ⟨c, c, .one c, by omega, by omega⟩
  | @dn lo hi l h ih =>
    intro m h0 h1
    rw [List.length_append] at h1
    by_cases e : m ≤ l.length
    · obtain ⟨a, b, p, q, r⟩ := ih h0 e
      rw [List.take_append_of_le_length e]
      exact ⟨a, b, p, by omega, r⟩
    · have : m = (l ++ [lo - 1]).length := by rw [List.length_append]; simp at h1 ⊢; omega
      rw [this, List.take_length]
      exact ⟨_, _, .dn h, by omega, by omega⟩
  | @up lo hi l h ih =>
    intro m h0 h1
    rw [List.length_append] at h1
    by_cases e : m ≤ l.length
    · obtain ⟨a, b, p, q, r⟩ := ih h0 e
      rw [List.take_append_of_le_length e]
      exact ⟨a, b, p, q, by omega⟩
    · have : m = (l ++ [hi + 1]).length := by rw [List.length_append]; simp at h1 ⊢; omega
      rw [this, List.take_length]
      exact ⟨_, _, .up h, by omega, by omega⟩
/-- a number strictly between two neighbouring multiples is none -/
theorem no_mult {k x y : Int} {i : Int} (hk : 0 < k) (h : x % k = y % k) (h1 : i * k < y - x) (h2 : y - x < (i + 1) * k) : False := by
  have e : (y - x) % k = 0 := by rw [Int.sub_emod, h]; simp
  obtain ⟨q, hq⟩ := Int.dvd_of_emod_eq_zero e
  rw [hq, Int.mul_comm i k] at h1
  rw [hq, Int.mul_comm (i + 1) k] at h2
  have a1 := Int.lt_of_mul_lt_mul_left h1 (by omega)
  have a2 := Int.lt_of_mul_lt_mul_left h2 (by omega)
  omega
theorem lot_unlike {lo hi : Int} {l : List Int} (h : Part lo hi l) {k i : Nat} (hk : 0 < k) (hi' : i * k + k ≤ l.length) : (((l.drop (i * k)).take k).map (· % (k : Int))).Nodup := by
  have hn : ((l.drop (i * k)).take k).Nodup := (h.nodup.sublist (List.drop_sublist _ _)).sublist (List.take_sublist _ _)
  show List.Pairwise _ _
  rw [List.pairwise_map]
  -- the beginnings ahead of the lot and with it
  obtain ⟨c, d, p2, _, _⟩ := h.take (m := i * k + k) (by omega) hi'
  have l2 := p2.len
  rw [List.length_take] at l2
  have em : min (i * k + k) l.length = i * k + k := by omega
  rw [em] at l2
  have hsplit : l.take (i * k + k) = l.take (i * k) ++ (l.drop (i * k)).take k := List.take_add
  have key : ∀ x y, x ∈ (l.drop (i * k)).take k → y ∈ (l.drop (i * k)).take k → x < y → x % (k : Int) ≠ y % (k : Int) := by
    intro x y hx hy hxy e
    have mx := (p2.mem x).mp (by rw [hsplit]; exact List.mem_append_right _ hx)
    have my := (p2.mem y).mp (by rw [hsplit]; exact List.mem_append_right _ hy)
    by_cases hi0 : i = 0
    · subst hi0
      exact no_mult (i := 0) (k := k) (by omega) e (by omega) (by simp at l2 ⊢; omega)
    · obtain ⟨a, b, p1, q1, q2⟩ := p2.take (m := i * k) (Nat.mul_pos (by omega) hk) (by rw [List.length_take]; omega)
      have et : (l.take (i * k + k)).take (i * k) = l.take (i * k) := by rw [List.take_take]; congr 1; omega
      rw [et] at p1
      have l1 := p1.len
      rw [List.length_take] at l1
      have em1 : min (i * k) l.length = i * k := by omega
      rw [em1] at l1
      have nd := p2.nodup
      rw [hsplit, List.nodup_append] at nd
      have nx : ¬ (a ≤ x ∧ x ≤ b) := fun z => nd.2.2 x ((p1.mem x).mpr z) x hx rfl
      have ny : ¬ (a ≤ y ∧ y ≤ b) := fun z => nd.2.2 y ((p1.mem y).mpr z) y hy rfl
      have hk' : (0 : Int) < k := by omega
      have ik : ((i * k : Nat) : Int) = (i : Int) * (k : Int) := by simp
      have ikk : ((i * k + k : Nat) : Int) = (i : Int) * (k : Int) + k := by simp
      rw [ik] at l1
      rw [ikk] at l2
      have e2 : ((i : Int) + 1) * k = (i : Int) * k + k := by rw [Int.add_mul, Int.one_mul]
      by_cases b1 : y < a
      · exact no_mult (i := 0) hk' e (by omega) (by simp; omega)
      · by_cases b2 : b < x
        · exact no_mult (i := 0) hk' e (by omega) (by simp; omega)
        · exact no_mult (i := i) hk' e (by omega) (by rw [e2]; omega)
  refine List.Pairwise.imp_of_mem ?_ hn
  intro x y hx hy hne
  rcases Int.lt_or_gt_of_ne hne with z | z
  · exact key x y hx hy z
  · exact fun e => key y x hy hx z e.symm
end Mlg
/-! Pl04: the plain law of k04. -/
namespace Mlg
open PySem (PyData Str)
variable {tab : Nat → Option Def}
theorem pick_int [Has tab 14 d14] [Has tab 15 d15] {k : Nat} {l ms : List Int} (hs : Src l) (h0 : ms ≠ []) (h1 : ms.length < 1000) :
    ∃ (m : Int) (l' : List Int), m ∈ ms ∧ Src l' ∧ callF tab (k + 2) 15 [.own (.lst (dI l)), .own (.lst (dI ms))] = .ok (.val (.int m), [.own (.lst (dI l')), .own (.lst (dI ms))]) := by
  obtain ⟨i, x, l', h2, h3, h4⟩ := pick_ok (tab := tab) (k := k) (ds := dI ms) hs (by simpa using h0) (by simpa using h1)
  rw [List.getElem?_map] at h2
  cases e : ms[i]? with
  | none => rw [e] at h2; cases h2
  | some m =>
    rw [e] at h2
    have : x = .int m := (Option.some.inj h2).symm
    subst this
    exact ⟨m, l', List.mem_of_getElem? e, h3, h4⟩
/-! ### with_falls -/
section
variable [Has tab 0 d0] [Has tab 1 d1] [Has tab 9 d9] [Has tab 25 d25]
theorem with_falls_ok [H : Has tab 38 d38] {k n m : Nat} (h0 : 0 < n) (h1 : n ≤ 100) (hm : m < n) : callF tab (k + 4) 38 [.val (.int n), .val (.int m)] = .ok (.val (.int (ch (n - 1) m)), [.val (.int n), .val (.int m)]) := by
  refine Wp.eq ?_
  refine callW H rfl rfl ?_
  have e1 := check_size_ok (tab := tab) (k := k) (.int n) 1 100
  have f1 : fromB (.int n) 1 100 = true := by simp; omega
  rw [f1, if_pos rfl] at e1
  have e2 := is_from_ok (tab := tab) (k := k + 1) (.int m) 0 ((n : Int) - 1)
  have f2 : fromB (.int m) 0 ((n : Int) - 1) = true := by simp; omega
  rw [f2] at e2
  have e3 := choose_ok (tab := tab) (k := k + 2) (n - 1) m (by omega) (by omega)
  rw [show ((n - 1 : Nat) : Int) = (n : Int) - 1 by omega] at e3
  simp -implicitDefEqProofs [d38, e1, e2, e3]
theorem with_falls_no [H : Has tab 38 d38] {k : Nat} {n : Int} {v : D} (h0 : 1 ≤ n) (h1 : n ≤ 100) (hv : fromB v 0 (n - 1) = false) : callF tab (k + 4) 38 [.val (.int n), .val v] = .exc 6 .none [.val (.int n), .val v] := by
  refine Wp.ex ?_
  refine callW H rfl rfl ?_
  have e1 := check_size_ok (tab := tab) (k := k) (.int n) 1 100
  have f1 : fromB (.int n) 1 100 = true := by simp; omega
  rw [f1, if_pos rfl] at e1
  have e2 := is_from_ok (tab := tab) (k := k + 1) v 0 (n - 1)
  rw [hv] at e2
  simp -implicitDefEqProofs [d38, e1, e2]
theorem with_falls_size [H : Has tab 38 d38] {k : Nat} {u v : D} (hv : fromB u 1 100 = false) : callF tab (k + 4) 38 [.val u, .val v] = .exc 1 .none [.val u, .val v] := by
  refine Wp.ex ?_
  refine callW H rfl rfl ?_
  have e1 := check_size_ok (tab := tab) (k := k) u 1 100
  rw [hv, if_neg Bool.false_ne_true] at e1
  simp -implicitDefEqProofs [d38, e1]
theorem told40_no [Has tab 38 d38] [H : Has tab 40 d40] {k : Nat} {n : Int} {v : D} (h0 : 1 ≤ n) (h1 : n ≤ 100) (hv : fromB v 0 (n - 1) = false) : callF tab (k + 5) 40 [.val (.int n), .val v] = .ok (.val (.str ⟨#[110, 117, 109, 98, 101, 114]⟩), [.val (.int n), .val v]) := by
  refine Wp.eq ?_
  refine callW H rfl rfl ?_
  have e1 := with_falls_no (tab := tab) (k := k) h0 h1 hv
  simp -implicitDefEqProofs [d40, e1]
theorem told40_size [Has tab 38 d38] [H : Has tab 40 d40] {k : Nat} {u v : D} (hv : fromB u 1 100 = false) : callF tab (k + 5) 40 [.val u, .val v] = .ok (.val (.str ⟨#[115, 105, 122, 101]⟩), [.val u, .val v]) := by
  refine Wp.eq ?_
  refine callW H rfl rfl ?_
  have e1 := with_falls_size (tab := tab) (k := k) (v := v) hv
  simp -implicitDefEqProofs [d40, e1]
end
/-! ### the numbers for few cards -/
theorem few : ((List.range 8).all fun n => (List.range n).all fun m => ((rowsN n).map fun r => ((fallsL r).length : Int)).count (m : Int) == ch (n - 1) m) = true := by decide +kernel
theorem few_ok {n m : Nat} (h : n < 8) (hm : m < n) : ((rowsN n).map fun r => ((fallsL r).length : Int)).count (m : Int) = ch (n - 1) m := by
  have h1 := List.all_eq_true.mp few n (List.mem_range.mpr h)
  have h2 := List.all_eq_true.mp h1 m (List.mem_range.mpr hm)
  exact eq_of_beq h2
/-! ### the law -/
def uv (s : Slot) : Prop := s = .un ∨ ∃ d, s = .val d
def A04 (xs : List Int) (i : Int) (ρ : Env) : Prop := ∃ l x2 x3, Src l ∧ uv x3 ∧ ρ = [.ro (dI xs), .own (.lst (dI l)), x2, x3, .un, .un, .un, .un]
theorem k04_plain [Has tab 0 d0] [Has tab 1 d1] [Has tab 2 d2] [Has tab 4 d4] [Has tab 6 d6] [Has tab 7 d7] [Has tab 9 d9] [Has tab 11 d11] [Has tab 13 d13] [Has tab 14 d14] [Has tab 15 d15] [Has tab 16 d16] [Has tab 17 d17] [Has tab 19 d19] [Has tab 25 d25] [Has tab 38 d38] [Has tab 39 d39] [Has tab 40 d40] [H : Has tab 41 d41]
    {xs : List Int} (hx : xs.length ≤ 63) : ∃ s, callF tab 60 41 [.ro (dI xs)] = .ok (.val (.bool true), s) := by
  have key : Wp (callF tab (59 + 1) 41 [.ro (dI xs)]) (fun p => ∃ s, p = (.val (.bool true), s)) (fun _ _ _ => False) := by
    refine callW H rfl rfl ?_
    obtain ⟨l0, hs0, e0⟩ := random_ok (tab := tab) (k := 58) (m := 2404) hx (by decide)
    have r3 : rangeOk 3 = true := by decide
    simp -implicitDefEqProofs [d41, e0, r3]
    refine wp_loopR (A04 xs) ⟨l0, .un, .un, hs0, .inl rfl, rfl⟩ ?_ ?_
    · rintro i ρ _ _ ⟨l, x2, x3, hs, hu, rfl⟩
      obtain ⟨m, l1, hm, hs1, e1⟩ := pick_int (tab := tab) (k := 57) (ms := [6, 30, 100]) hs (by simp) (by simp)
      have hm2 : 0 < m ∧ m ≤ 100 := by simp at hm; omega
      obtain ⟨b, l2, b0, b1, hs2, e2⟩ := below_ok (tab := tab) (k := 58) (m := m) hs1 hm2.1 (by omega)
      obtain ⟨r, l3, hr, hs3, e3⟩ := row_ok (tab := tab) (k := 57) (n := 1 + b) hs2 (by omega) (by omega)
      have hl : rowL r = true := rowL_iff.mpr ⟨by have := hr.len; omega, by rw [hr.len]; exact hr⟩
      have e4 := falls_ok (tab := tab) (k := 53) hl
      have e5 := law_falls_ok (tab := tab) (k := 58) (l := r) (Part.ne hr) (by have := hr.len; omega)
      have e6 := equal_int (tab := tab) (k := 58) ((fallsL r).length : Int) ((fallsL r).length : Int)
      simp at e1
      simp -implicitDefEqProofs [e1, e2, e3, e4, e5, e6]
      exact ⟨l3, _, _, hs3, .inr ⟨_, rfl⟩, rfl⟩
    · rintro ρ ⟨l, x2, x3, hs, hu, rfl⟩
      obtain ⟨b, l1, b0, b1, hs1, e1⟩ := below_ok (tab := tab) (k := 58) (m := 7) hs (by decide) (by decide)
      obtain ⟨n, hn⟩ : ∃ n : Nat, (1 : Int) + b = n := ⟨(1 + b).toNat, by omega⟩
      have n0 : 0 < n := by omega
      have n1 : n < 8 := by omega
      have e2 := every_ok (tab := tab) (k := 58) (n := n) n0 (by omega)
      have rn : rangeOk (n : Int) = true := rangeOk_of (by omega) (by omega)
      have lc : ∀ y, loopC (lcT (callF tab 59) (.call 39 (.cons (.var 3) .nil)) (.nm 3) .no [3]) ((rowsN n).map tD) [] [.ro (dI xs), .own (.lst (dI l1)), x2, .un, .val (.int n), y, .un, .un] = .ok (dI ((rowsN n).map fun r => ((fallsL r).length : Int)), [.ro (dI xs), .own (.lst (dI l1)), x2, .un, .val (.int n), y, .un, .un]) := by
        intro y
        have := loopC_mp (turn := lcT (callF tab 59) (.call 39 (.cons (.var 3) .nil)) (.nm 3) .no [3]) (ρ := [.ro (dI xs), .own (.lst (dI l1)), x2, .un, .val (.int n), y, .un, .un]) tD (fun r => .int ((fallsL r).length : Int)) (xs := rowsN n) (fun r hr => ?_) ?_
        · rw [this]; simp only [dI, List.map_map]; rfl
        · have hr2 := (mem_rowsN n0).mp hr
          have e3 := law_falls_ok (tab := tab) (k := 58) (l := r) (Part.ne hr2) (by have := hr2.len; omega)
          simp -implicitDefEqProofs [e3]
        · have h1 := gen_len (n := n) (n - 1)
          have h2 : 2 ^ (n - 1) ≤ 2 ^ 10 := Nat.pow_le_pow_right (by decide) (by omega)
          have h3 : n * 2 ^ (n - 1) ≤ 10 * 2 ^ 10 := Nat.mul_le_mul (by omega) h2
          unfold rowsN
          rw [List.length_map]
          omega
      generalize hT : ((rowsN n).map fun r => ((fallsL r).length : Int)) = T at lc
      have step : ∀ {x2 x3 : Slot}, uv x3 → Wp (loopF (bodyF (callF tab 59) 1 (.nm 6) (.cons (.cond (.not (.call 16 (.cons (.call 38 (.cons (.var 4) (.cons (.var 6) .nil))) (.cons (.m1 .count (.var 5) (.var 6)) .nil)))) (.cons (.ret (.cst (.bool false))) .nil) .nil) .nil)) (rangeL 0 n) [.ro (dI xs), .own (.lst (dI l1)), x2, x3, .val (.int n), .own (.lst (dI T)), .un, .un])
          (fun p => p.2 = none ∧ ∃ x6, uv x6 ∧ p.1 = [.ro (dI xs), .own (.lst (dI l1)), x2, x3, .val (.int n), .own (.lst (dI T)), x6, .un]) (fun _ _ _ => False) := by
        intro x2 x3 hu
        refine wp_loopR (fun i ρ => ∃ x6, uv x6 ∧ ρ = [.ro (dI xs), .own (.lst (dI l1)), x2, x3, .val (.int n), .own (.lst (dI T)), x6, .un]) ⟨.un, .inl rfl, rfl⟩ ?_ ?_
        · rintro i ρ i0 i1 ⟨x6, _, rfl⟩
          obtain ⟨m, rfl⟩ : ∃ m : Nat, i = m := ⟨i.toNat, by omega⟩
          have e3 := with_falls_ok (tab := tab) (k := 55) (n := n) (m := m) n0 (by omega) (by omega)
          have hc : m1 .count (.list (dI T)) (.int m) = some (.val (.int (ch (n - 1) m))) := by
            show (intsD (dI T)).map _ = _
            rw [intsD_dI]
            show some (R.val (.int ((T.count (m : Int) : Nat) : Int))) = _
            rw [← hT, few_ok n1 (by omega)]
          have e4 := equal_int (tab := tab) (k := 58) (ch (n - 1) m : Int) (ch (n - 1) m : Int)
          simp -implicitDefEqProofs [e3, hc, e4, m1k]
          exact .inr ⟨_, rfl⟩
        · rintro ρ ⟨x6, h6, rfl⟩
          exact ⟨rfl, x6, h6, rfl⟩
      have fin : ∀ {x2 x3 x6 : Slot}, uv x6 → Wp (execs (callF tab 59) 1 (.cons (.asg 4 (.bin .add (.cst (.int 3)) (.call 14 (.cons (.var 1) (.cons (.cst (.int 98)) .nil)))))
          (.cons (.asg 6 (.bin .add (.cst (.int 1)) (.call 14 (.cons (.var 1) (.cons (.bin .sub (.var 4) (.cst (.int 2))) .nil)))))
          (.cons (.cond (.cmp .ne (.call 38 (.cons (.var 4) (.cons (.var 6) .nil))) (.bin .add (.call 38 (.cons (.bin .sub (.var 4) (.cst (.int 1))) (.cons (.var 6) .nil))) (.call 38 (.cons (.bin .sub (.var 4) (.cst (.int 1))) (.cons (.bin .sub (.var 6) (.cst (.int 1))) .nil)))))
            (.cons (.ret (.cst (.bool false))) .nil) .nil)
          (.cons (.loop (.nm 7) (.val (.lst (.cons (.cst .none) (.cons (.neg (.cst (.int 1))) (.cons (.var 4) (.cons (.cst (.str ⟨#[48]⟩)) (.cons (.cst (.bool true)) .nil)))))))
            (.cons (.cond (.cmp .ne (.call 40 (.cons (.var 4) (.cons (.var 7) .nil))) (.cst (.str ⟨#[110, 117, 109, 98, 101, 114]⟩))) (.cons (.ret (.cst (.bool false))) .nil) .nil) .nil))
          (.cons (.ret (.cmp .eq (.lc (.var 7) (.nm 7) (.val (.lst (.cons (.cst .none) (.cons (.cst (.int 0)) (.cons (.cst (.int 101)) (.cons (.cst (.str ⟨#[51]⟩)) (.cons (.cst (.bool true)) .nil))))))) (.so (.cmp .ne (.call 40 (.cons (.var 7) (.cons (.cst .none) .nil))) (.cst (.str ⟨#[115, 105, 122, 101]⟩)))) [7]) (.lst .nil))) .nil)))))
          [.ro (dI xs), .own (.lst (dI l1)), x2, x3, .val (.int n), .own (.lst (dI T)), x6, .un]) (fun p => p.2 = some (.val (.bool true))) (fun _ _ _ => False) := by
        intro x2 x3 x6 h6
        obtain ⟨b2, l2, c0, c1, hs2, e2⟩ := below_ok (tab := tab) (k := 58) (m := 98) hs1 (by decide) (by decide)
        obtain ⟨n2, hn2⟩ : ∃ n2 : Nat, (3 : Int) + b2 = n2 := ⟨(3 + b2).toNat, by omega⟩
        obtain ⟨b3, l3, c2, c3, hs3, e3⟩ := below_ok (tab := tab) (k := 58) (m := (n2 : Int) - 2) hs2 (by omega) (by omega)
        obtain ⟨m2, hm2⟩ : ∃ m2 : Nat, (1 : Int) + b3 = m2 := ⟨(1 + b3).toNat, by omega⟩
        have w1 := with_falls_ok (tab := tab) (k := 55) (n := n2) (m := m2) (by omega) (by omega) (by omega)
        have w2 := with_falls_ok (tab := tab) (k := 55) (n := n2 - 1) (m := m2) (by omega) (by omega) (by omega)
        have w3 := with_falls_ok (tab := tab) (k := 55) (n := n2 - 1) (m := m2 - 1) (by omega) (by omega) (by omega)
        rw [show ((n2 - 1 : Nat) : Int) = (n2 : Int) - 1 by omega] at w2 w3
        rw [show ((m2 - 1 : Nat) : Int) = (m2 : Int) - 1 by omega] at w3
        have pas : (ch (n2 - 1) m2 : Int) = (ch (n2 - 1 - 1) m2 : Int) + (ch (n2 - 1 - 1) (m2 - 1) : Int) := by
          have := ch_pascal (n2 - 1 - 1) (m2 - 1)
          rw [show n2 - 1 - 1 + 1 = n2 - 1 by omega, show m2 - 1 + 1 = m2 by omega] at this
          omega
        have t1 := told40_no (tab := tab) (k := 54) (n := n2) (v := .none) (by omega) (by omega) rfl
        have t2 := told40_no (tab := tab) (k := 54) (n := n2) (v := .int (-1)) (by omega) (by omega) (by simp)
        have t3 := told40_no (tab := tab) (k := 54) (n := n2) (v := .int n2) (by omega) (by omega) (by simp; omega)
        have t4 := told40_no (tab := tab) (k := 54) (n := n2) (v := .str ⟨#[48]⟩) (by omega) (by omega) rfl
        have t5 := told40_no (tab := tab) (k := 54) (n := n2) (v := .bool true) (by omega) (by omega) rfl
        have u1 := told40_size (tab := tab) (k := 54) (u := .none) (v := .none) rfl
        have u2 := told40_size (tab := tab) (k := 54) (u := .int 0) (v := .none) rfl
        have u3 := told40_size (tab := tab) (k := 54) (u := .int 101) (v := .none) rfl
        have u4 := told40_size (tab := tab) (k := 54) (u := .str ⟨#[51]⟩) (v := .none) rfl
        have u5 := told40_size (tab := tab) (k := 54) (u := .bool true) (v := .none) rfl
        have q1 : cmp .ne (.str ⟨#[110, 117, 109, 98, 101, 114]⟩) (.str ⟨#[110, 117, 109, 98, 101, 114]⟩) = some false := rfl
        have q2 : cmp .ne (.str ⟨#[115, 105, 122, 101]⟩) (.str ⟨#[115, 105, 122, 101]⟩) = some false := rfl
        have q3 : cmp .eq (.list []) (.list []) = some true := rfl
        simp -implicitDefEqProofs [e2, e3, hn2, hm2, w1, w2, w3, pas, t1, t2, t3, t4, t5, u1, u2, u3, u4, u5, q1, q2, q3]
      rcases hu with rfl | ⟨d3, rfl⟩
      · simp -implicitDefEqProofs [e1, hn, e2, rn, lc]
        refine Wp.mono (step (.inl rfl)) ?_ (fun _ _ _ z => z.elim)
        rintro ⟨ρ, o⟩ ⟨rfl, x6, h6, rfl⟩
        simp only [unlockE_none, of_some, rbind_ok, wp_ok, post_p, andThen_none]
        refine Wp.mono (fin h6) ?_ (fun _ _ _ z => z.elim)
        rintro ⟨ρ, o⟩ hp
        subst hp
        first | exact ⟨_, rfl⟩ | rfl
      · simp -implicitDefEqProofs [e1, hn, e2, rn, lc]
        refine Wp.mono (step (.inr ⟨_, rfl⟩)) ?_ (fun _ _ _ z => z.elim)
        rintro ⟨ρ, o⟩ ⟨rfl, x6, h6, rfl⟩
        simp only [unlockE_none, of_some, rbind_ok, wp_ok, post_p, andThen_none]
        refine Wp.mono (fin h6) ?_ (fun _ _ _ z => z.elim)
        rintro ⟨ρ, o⟩ hp
        subst hp
        first | exact ⟨_, rfl⟩ | rfl
  obtain ⟨p, e, s, rfl⟩ := key.okk
  exact ⟨s, e⟩
end Mlg
/-! Pl7: lots. -/
namespace Mlg
open PySem (PyData Str)
variable {tab : Nat → Option Def}
/-- the first of some that is so -/
def firstIx (p : Nat → Bool) (m : Nat) : Option Nat := (List.range m).find? p
theorem firstIx_congr {p q : Nat → Bool} {m : Nat} (h : ∀ i, i < m → p i = q i) : firstIx p m = firstIx q m := by
  unfold firstIx
  have : ∀ l : List Nat, (∀ i ∈ l, i < m) → l.find? p = l.find? q := by
    intro l
    induction l with
    | nil => intro _; rfl
    | cons a l ih =>
      intro hl
      rw [List.find?_cons, List.find?_cons, h a (hl a List.mem_cons_self), ih fun i hi => hl i (List.mem_cons_of_mem _ hi)]
  exact this _ fun i hi => List.mem_range.mp hi
theorem firstIx_none {p : Nat → Bool} {m : Nat} (h : ∀ i, i < m → p i = false) : firstIx p m = none := by
  unfold firstIx
  rw [List.find?_eq_none]
  intro i hi
  rw [h i (List.mem_range.mp hi)]
  exact Bool.false_ne_true
theorem firstIx_some {p : Nat → Bool} {m i : Nat} (h : i < m) (hp : p i = true) (hn : ∀ j, j < i → p j = false) : firstIx p m = some i := by
  unfold firstIx
  rw [List.find?_range_eq_some]
  refine ⟨hp, List.mem_range.mpr h, fun j hj => ?_⟩
  rw [hn j hj]
  rfl
def slc {α : Type} (l : List α) (k i : Nat) : List α := (l.drop (i * k)).take k
theorem cut_slc {α : Type} {l : List α} {k i : Nat} (h : i * k + k ≤ l.length) : cutL l (some ((i : Int) * k)) (some ((i : Int) * k + k)) = slc l k i := by
  have e1 : ((i : Int) * k) = ((i * k : Nat) : Int) := by simp
  have e2 : ((i : Int) * k + k) = ((i * k + k : Nat) : Int) := by simp
  unfold cutL slc
  have s1 : sIx l.length 0 (some ((i : Int) * k)) = i * k := by
    rw [e1]
    show (if ((i * k : Nat) : Int) < 0 then (((i * k : Nat) : Int) + (l.length : Int)).toNat else min ((i * k : Nat) : Int).toNat l.length) = _
    rw [if_neg (by omega)]
    omega
  have s2 : sIx l.length l.length (some ((i : Int) * k + k)) = i * k + k := by
    rw [e2]
    show (if ((i * k + k : Nat) : Int) < 0 then (((i * k + k : Nat) : Int) + (l.length : Int)).toNat else min ((i * k + k : Nat) : Int).toNat l.length) = _
    rw [if_neg (by omega)]
    omega
  rw [s1, s2]
  congr 1
  omega
theorem slc_dI (l : List Int) (k i : Nat) : slc (dI l) k i = dI (slc l k i) := by
  unfold slc dI
  rw [List.map_take, List.map_drop]
theorem slc_len {α : Type} {l : List α} {k i : Nat} (h : i * k + k ≤ l.length) : (slc l k i).length = k := by
  unfold slc
  rw [List.length_take, List.length_drop]
  omega
def alikeL (l : List Int) : Bool := decide ((dedupI l).length < l.length)
theorem dedup_le (l : List Int) : (dedupI l).length ≤ l.length := by
  have := (dedup_go l [] (by simp)).2.1
  simpa [dedupI] using this
theorem alikeL_iff {l : List Int} : alikeL l = false ↔ l.Nodup := by
  unfold alikeL
  rw [decide_eq_false_iff_not, ← dedup_len]
  have := dedup_le l
  omega
def badL (l : List Int) (k : Nat) : Option Nat := firstIx (fun i => alikeL (slc l k i)) (l.length / k)
theorem ls_list {l : List Int} (h : l.length ≤ 1000) : b1 .lenset (.list (dI l)) = some (.val (.int (dedupI l).length)) := by
  show (((some (dI l)).bind intsD).bind _).or _ = _
  simp only [Option.bind_some, intsD_dI]
  rw [if_pos (by omega), Option.some_or]
theorem ls_tup {l : List Int} (h : l.length ≤ 1000) : b1 .lenset (.tuple (dI l)) = some (.val (.int (dedupI l).length)) := by
  show (((some (dI l)).bind intsD).bind _).or _ = _
  simp only [Option.bind_some, intsD_dI]
  rw [if_pos (by omega), Option.some_or]
theorem is_alike_list [H : Has tab 42 d42] {k : Nat} {l : List Int} (h : l.length ≤ 1000) : callF tab (k + 1) 42 [.own (.lst (dI l))] = .ok (.val (.bool (alikeL l)), [.own (.lst (dI l))]) := by
  refine Wp.eq ?_
  refine callW H rfl rfl ?_
  have e := ls_list h
  simp -implicitDefEqProofs [d42, e, alikeL]
theorem mul_small (i k : Nat) (hk : k ≤ 1000) : ((i : Int).natAbs < 18446744073709551616 ∨ (k : Int).natAbs < 18446744073709551616) := .inr (by omega)
theorem lot_le {n k i : Nat} (h : i < n / k) : i * k + k ≤ n := by
  have h1 : (i + 1) * k ≤ n / k * k := Nat.mul_le_mul_right k h
  have h2 := Nat.div_mul_le_self n k
  rw [Nat.add_mul, Nat.one_mul] at h1
  omega
/-- bad_lot of a list -/
theorem bad_lot_list [Has tab 42 d42] [H : Has tab 43 d43] {j : Nat} {l : List Int} {k : Nat} (hk : 0 < k) (hk1 : k ≤ 1000) (hl : l.length ≤ 1000) : callF tab (j + 2) 43 [.own (.lst (dI l)), .val (.int k)] = .ok (.val (barD (badL l k)), [.own (.lst (dI l)), .val (.int k)]) := by
  refine Wp.eq ?_
  refine callW H rfl rfl ?_
  have c1 : (0 : Int) < k := by omega
  have c2 : (k : Int) < 1000000000 := by omega
  have hd : l.length / k ≤ l.length := Nat.div_le_self _ _
  have ed : (l.length : Int) / (k : Int) = ((l.length / k : Nat) : Int) := by simp
  obtain ⟨m, hm⟩ : ∃ m : Nat, l.length / k = m := ⟨_, rfl⟩
  rw [hm] at ed hd
  have rg : rangeOk (m : Int) = true := rangeOk_of (by omega) (by omega)
  simp -implicitDefEqProofs [d43, hk, c2, ed, rg]
  refine wp_loopR (fun i ρ => (∀ j : Nat, (j : Int) < i → alikeL (slc l k j) = false) ∧ ∃ x, ρ = [.own (.lst (dI l)), .val (.int k), x]) ⟨fun j hj => by omega, .un, rfl⟩ ?_ ?_
  · rintro i ρ i0 i1 ⟨hn, x, rfl⟩
    obtain ⟨i, rfl⟩ : ∃ m : Nat, i = m := ⟨i.toNat, by omega⟩
    have hle : i * k + k ≤ l.length := lot_le (by omega)
    have hc : cutL (dI l) (some ((i : Int) * k)) (some ((i : Int) * k + k)) = dI (slc l k i) := by
      rw [cut_slc (by rw [List.length_map]; exact hle), slc_dI]
    have e1 := is_alike_list (tab := tab) (k := j) (l := slc l k i) (by rw [slc_len hle]; omega)
    have ms : k < 18446744073709551616 := by omega
    cases ha : alikeL (slc l k i) with
    | true =>
      rw [ha] at e1
      have hb : badL l k = some i := firstIx_some (by omega) ha fun j hj => hn j (by omega)
      simp -implicitDefEqProofs [hc, e1, ms, hb, barD]
    | false =>
      rw [ha] at e1
      simp -implicitDefEqProofs [hc, e1, ms]
      intro j hj
      by_cases z : (j : Int) < i
      · exact hn j z
      · rw [show j = i by omega]; exact ha
  · rintro ρ ⟨hn, x, rfl⟩
    have hb : badL l k = none := firstIx_none fun j hj => hn j (by omega)
    simp -implicitDefEqProofs [hb, barD]
/-- .. by the law -/
theorem law_bad_list [H : Has tab 47 d47] {j : Nat} {l : List Int} {k : Nat} (hk : 0 < k) (hk1 : k ≤ 1000) (hl : l.length ≤ 1000) : callF tab (j + 1) 47 [.own (.lst (dI l)), .val (.int k)] = .ok (.val (barD (badL l k)), [.own (.lst (dI l)), .val (.int k)]) := by
  refine Wp.eq ?_
  refine callW H rfl rfl ?_
  have c1 : (0 : Int) < k := by omega
  have c2 : (k : Int) < 1000000000 := by omega
  have hd : l.length / k ≤ l.length := Nat.div_le_self _ _
  have ed : (l.length : Int) / (k : Int) = ((l.length / k : Nat) : Int) := by simp
  obtain ⟨m, hm⟩ : ∃ m : Nat, l.length / k = m := ⟨_, rfl⟩
  rw [hm] at ed hd
  have rg : rangeOk (m : Int) = true := rangeOk_of (by omega) (by omega)
  simp -implicitDefEqProofs [d47, hk, c2, ed, rg]
  refine wp_loopR (fun i ρ => (∀ j : Nat, (j : Int) < i → alikeL (slc l k j) = false) ∧ ∃ x, ρ = [.own (.lst (dI l)), .val (.int k), x]) ⟨fun j hj => by omega, .un, rfl⟩ ?_ ?_
  · rintro i ρ i0 i1 ⟨hn, x, rfl⟩
    obtain ⟨i, rfl⟩ : ∃ m : Nat, i = m := ⟨i.toNat, by omega⟩
    have hle : i * k + k ≤ l.length := lot_le (by omega)
    have hc : cutL (dI l) (some ((i : Int) * k)) (some ((i : Int) * k + k)) = dI (slc l k i) := by
      rw [cut_slc (by rw [List.length_map]; exact hle), slc_dI]
    have e1 := ls_list (l := slc l k i) (by rw [slc_len hle]; omega)
    have ms : k < 18446744073709551616 := by omega
    have sl := slc_len hle
    cases ha : alikeL (slc l k i) with
    | true =>
      have hlt : (dedupI (slc l k i)).length < k := by unfold alikeL at ha; rw [sl] at ha; exact of_decide_eq_true ha
      have hb : badL l k = some i := firstIx_some (by omega) ha fun j hj => hn j (by omega)
      simp -implicitDefEqProofs [hc, e1, ms, hlt, hb, barD]
    | false =>
      have hlt : ¬ (dedupI (slc l k i)).length < k := by unfold alikeL at ha; rw [sl] at ha; exact of_decide_eq_false ha
      simp -implicitDefEqProofs [hc, e1, ms, hlt]
      intro j hj
      by_cases z : (j : Int) < i
      · exact hn j z
      · rw [show j = i by omega]; exact ha
  · rintro ρ ⟨hn, x, rfl⟩
    have hb : badL l k = none := firstIx_none fun j hj => hn j (by omega)
    simp -implicitDefEqProofs [hb, barD]
end Mlg
namespace Mlg
open PySem (PyData Str)
variable {tab : Nat → Option Def}
/-! ### a drawn order -/
theorem orderL_perm {a b : List Int} (h : a.Perm b) : orderL a = orderL b := by
  rw [Bool.eq_iff_iff, orderL_iff, orderL_iff, h.length_eq, h.nodup_iff]
  have : (∀ x ∈ a, 0 ≤ x ∧ x ≤ (b.length : Int) - 1) ↔ (∀ x ∈ b, 0 ≤ x ∧ x ≤ (b.length : Int) - 1) := ⟨fun q x hx => q x (h.mem_iff.mpr hx), fun q x hx => q x (h.mem_iff.mp hx)⟩
  rw [this]
theorem swap_perm : ∀ {l : List Int} {i j : Nat} {x y : Int}, l[i]? = some x → l[j]? = some y → ((l.set i y).set j x).Perm l := by
  intro l i j x y hi hj
  obtain ⟨hi1, hi2⟩ := List.getElem?_eq_some_iff.mp hi
  obtain ⟨hj1, hj2⟩ := List.getElem?_eq_some_iff.mp hj
  have := List.set_set_perm (as := l) (i := i) (j := j) hi1 hj1
  rw [hi2, hj2] at this
  exact this
def OrdI (n : Int) (r : List Int) (ρ : Env) : Prop := ∃ l o x3 x4 x5, Src l ∧ o.Perm r ∧ ρ = [.own (.lst (dI l)), .val (.int n), .own (.lst (dI o)), x3, x4, x5]
theorem order_ok [Has tab 14 d14] [Has tab 15 d15] [Has tab 17 d17] [H : Has tab 18 d18] {k : Nat} {l : List Int} {n : Int} (hs : Src l) (h0 : 0 < n) (h1 : n ≤ 100) :
    ∃ (o l' : List Int), orderL o = true ∧ (o.length : Int) = n ∧ Src l' ∧ callF tab (k + 3) 18 [.own (.lst (dI l)), .val (.int n)] = .ok (.val (.tuple (dI o)), [.own (.lst (dI l')), .val (.int n)]) := by
  obtain ⟨r, l1, hr, hs1, e1⟩ := row_ok (tab := tab) (k := k) hs h0 (by omega)
  have hlen := hr.len
  have hro : orderL r = true := by
    have := rowL_iff.mpr ⟨(show r.length ≤ 100 by omega), (by rw [hlen]; exact hr : IsRow r.length r)⟩
    unfold rowL at this
    exact (Bool.and_eq_true _ _ ▸ this).1
  obtain ⟨m, l2, hm, hs2, e2⟩ := pick_int (tab := tab) (k := k) (ms := [0, 0, 1, 1, 2, 9]) hs1 (by simp) (by simp)
  have hm2 : 0 ≤ m ∧ m ≤ 9 := by simp at hm; omega
  have rg : rangeOk m = true := rangeOk_of (by omega) (by omega)
  have key : Wp (callF tab (k + 2 + 1) 18 [.own (.lst (dI l)), .val (.int n)]) (fun p => ∃ o l', o.Perm r ∧ Src l' ∧ p = (.val (.tuple (dI o)), [.own (.lst (dI l')), .val (.int n)])) (fun _ _ _ => False) := by
    refine callW H rfl rfl ?_
    simp at e2
    simp -implicitDefEqProofs [d18, e1, e2, rg]
    refine wp_loopR (fun _ => OrdI n r) ⟨l2, r, .un, .un, .un, hs2, List.Perm.refl _, rfl⟩ ?_ ?_
    · rintro i ρ _ _ ⟨l, o, x3, x4, x5, hs, ho, rfl⟩
      have hol := ho.length_eq
      obtain ⟨a, l3, a0, a1, hs3, e3⟩ := below_ok (tab := tab) (k := k + 1) hs h0 (by omega)
      obtain ⟨b, l4, b0, b1, hs4, e4⟩ := below_ok (tab := tab) (k := k + 1) hs3 h0 (by omega)
      obtain ⟨x, hx⟩ := get_at (l := o) (j := a.toNat) (by omega)
      obtain ⟨y, hy⟩ := get_at (l := o) (j := b.toNat) (by omega)
      have p1 : place o.length a = some a.toNat := place_nn a0 (by omega)
      have p2 : place o.length b = some b.toNat := place_nn b0 (by omega)
      simp -implicitDefEqProofs [e3, e4, p1, p2, hx, hy]
      refine ⟨l4, (o.set a.toNat y).set b.toNat x, .val (.int i), .val (.int a), .val (.int b), hs4, (swap_perm hx hy).trans ho, ?_⟩
      simp [List.map_set]
    · rintro ρ ⟨l, o, x3, x4, x5, hs, ho, rfl⟩
      simp -implicitDefEqProofs
      exact ⟨o, ho, l, hs, rfl, rfl⟩
  obtain ⟨p, e, o, l', h2, h3, rfl⟩ := key.okk
  refine ⟨o, l', by rw [orderL_perm h2]; exact hro, by rw [h2.length_eq]; exact hlen, h3, e⟩
end Mlg
/-! Rw4: texts of rows. Plain Lean. -/
namespace Mlg
open PySem (PyData Str)
theorem Part.next {lo hi : Int} {r : List Int} (h : Part lo hi r) {i : Nat} {c : Int} (h0 : 0 < i) (hc : r[i]? = some c) : ∃ a b, Part a b (r.take i) ∧ (c = a - 1 ∨ c = b + 1) := by
  obtain ⟨hlt, he⟩ := List.getElem?_eq_some_iff.mp hc
  obtain ⟨a, b, p, _, _⟩ := h.take (m := i + 1) (by omega) (by omega)
  have e : r.take (i + 1) = r.take i ++ [c] := by rw [List.take_succ, hc]; rfl
  rw [e] at p
  have hl : (r.take i).length = i := by rw [List.length_take]; omega
  generalize hg : r.take i ++ [c] = l at p
  cases p with
  | one z =>
    have := congrArg List.length hg
    rw [List.length_append, hl] at this
    simp at this
    omega
  | dn q =>
    have := List.append_inj' hg (by simp)
    obtain ⟨h1, h2⟩ := this
    rw [h1]
    exact ⟨_, _, q, .inl (by simpa using h2)⟩
  | up q =>
    have := List.append_inj' hg (by simp)
    obtain ⟨h1, h2⟩ := this
    rw [h1]
    exact ⟨_, _, q, .inr (by simpa using h2)⟩
/-! ### words -/
theorem splitL_ne (c : Nat) : ∀ l : List Nat, splitL c l ≠ []
  | [], h => by cases h
  | x :: r, h => by
    unfold splitL at h
    split at h
    · cases h
    · split at h <;> cases h
theorem splitL_word {c : Nat} : ∀ {w : List Nat}, c ∉ w → splitL c w = [w]
  | [], _ => rfl
  | x :: w, h => by
    have hx : x ≠ c := fun e => h (e ▸ List.mem_cons_self)
    have ih := splitL_word (w := w) fun z => h (List.mem_cons_of_mem _ z)
    show (if x = c then [] :: splitL c w else match splitL c w with | w :: ws => (x :: w) :: ws | [] => [[x]]) = _
    rw [if_neg hx, ih]
theorem splitL_more {c : Nat} {r : List Nat} : ∀ {w : List Nat}, c ∉ w → splitL c (w ++ c :: r) = w :: splitL c r
  | [], _ => by
    show (if c = c then [] :: splitL c r else _) = _
    rw [if_pos rfl]
  | x :: w, h => by
    have hx : x ≠ c := fun e => h (e ▸ List.mem_cons_self)
    have ih := splitL_more (r := r) (w := w) fun z => h (List.mem_cons_of_mem _ z)
    show (if x = c then [] :: splitL c (w ++ c :: r) else match splitL c (w ++ c :: r) with | w :: ws => (x :: w) :: ws | [] => [[x]]) = _
    rw [if_neg hx, ih]
theorem split_join {c : Nat} : ∀ {ws : List Str}, ws ≠ [] → (∀ w ∈ ws, c ∉ w.cps.toList) → splitL c (joinL [c] ws) = ws.map fun w => w.cps.toList
  | [], h, _ => absurd rfl h
  | [w], _, h => splitL_word (h w List.mem_cons_self)
  | w :: v :: ws, _, h => by
    show splitL c (w.cps.toList ++ [c] ++ joinL [c] (v :: ws)) = _
    rw [List.append_assoc, List.singleton_append, splitL_more (h w List.mem_cons_self), split_join (by simp) fun z hz => h z (List.mem_cons_of_mem _ hz)]
    rfl
theorem strOf_one {c : Nat} (h : c < 10) : strOf c = ⟨#[48 + c]⟩ := by
  unfold strOf digits
  rw [if_pos h]
theorem strOf_two {c : Nat} (h : 10 ≤ c) (h2 : c < 100) : strOf c = ⟨#[48 + c / 10, 48 + c % 10]⟩ := by
  unfold strOf digits
  rw [if_neg (by omega)]
  unfold digits
  rw [if_pos (by omega)]
  rfl
theorem strOf_sign {c : Nat} (h : c < 100) : (∀ x ∈ (strOf c).cps.toList, 48 ≤ x ∧ x ≤ 57) ∧ (strOf c).cps.size ≤ 2 := by
  by_cases h1 : c < 10
  · rw [strOf_one h1]
    exact ⟨fun x hx => by simp at hx; omega, by simp⟩
  · rw [strOf_two (by omega) h]
    exact ⟨fun x hx => by simp at hx; omega, by simp⟩
theorem strOf_inj {c d : Nat} (h : c < 100) (h2 : d < 100) (e : strOf c = strOf d) : c = d := by
  have e := congrArg (fun s : Str => s.cps.toList) e
  by_cases h1 : c < 10 <;> by_cases h3 : d < 10
  · rw [strOf_one h1, strOf_one h3] at e; simp at e; omega
  · rw [strOf_one h1, strOf_two (by omega) h2] at e; simp at e
  · rw [strOf_two (by omega) h, strOf_one h3] at e; simp at e
  · rw [strOf_two (by omega) h, strOf_two (by omega) h2] at e; simp at e; omega
/-! ### the text of a row -/
def wordsOf (r : List Int) : List Str := r.map fun c => strOf c.toNat
def textOf (r : List Int) : Str := ⟨(joinL [32] (wordsOf r)).toArray⟩
def Cards (r : List Int) : Prop := ∀ c ∈ r, 0 ≤ c ∧ c < 100
theorem words_split {r : List Int} (h0 : r ≠ []) (h : Cards r) : splitL 32 (textOf r).cps.toList = (wordsOf r).map fun w => w.cps.toList := by
  show splitL 32 (joinL [32] (wordsOf r)) = _
  refine split_join (by unfold wordsOf; simpa using h0) fun w hw => ?_
  obtain ⟨c, hc, rfl⟩ := List.mem_map.mp hw
  have := h c hc
  intro z
  have := (strOf_sign (c := c.toNat) (by omega)).1 32 z
  omega
theorem joinL_mem {s : List Nat} : ∀ {ws : List Str} {x : Nat}, x ∈ joinL s ws → x ∈ s ∨ ∃ w ∈ ws, x ∈ w.cps.toList
  | [], x, h => by cases h
  | [w], x, h => .inr ⟨w, List.mem_cons_self, h⟩
  | w :: v :: ws, x, h => by
    have h : x ∈ w.cps.toList ++ s ++ joinL s (v :: ws) := h
    rcases List.mem_append.mp h with h | h
    · rcases List.mem_append.mp h with h | h
      · exact .inr ⟨w, List.mem_cons_self, h⟩
      · exact .inl h
    · rcases joinL_mem h with h | ⟨u, hu, h⟩
      · exact .inl h
      · exact .inr ⟨u, List.mem_cons_of_mem _ hu, h⟩
theorem text_sign {r : List Int} (h : Cards r) : ∀ x ∈ (textOf r).cps.toList, x < 1114112 := by
  intro x hx
  rcases joinL_mem (show x ∈ joinL [32] (wordsOf r) from hx) with h1 | ⟨w, hw, h1⟩
  · simp at h1; omega
  · obtain ⟨c, hc, rfl⟩ := List.mem_map.mp hw
    have := h c hc
    have := (strOf_sign (c := c.toNat) (by omega)).1 x h1
    omega
theorem text_inj {a b : List Int} (ha0 : a ≠ []) (hb0 : b ≠ []) (ha : Cards a) (hb : Cards b) (e : textOf a = textOf b) : a = b := by
  have h1 := words_split ha0 ha
  rw [e, words_split hb0 hb] at h1
  have key : ∀ {a b : List Int}, Cards a → Cards b → (wordsOf b).map (fun w => w.cps.toList) = (wordsOf a).map (fun w => w.cps.toList) → a = b := by
    intro a
    induction a with
    | nil =>
      intro b _ _ h
      cases b with
      | nil => rfl
      | cons y b => simp [wordsOf] at h
    | cons x a ih =>
      intro b ha hb h
      cases b with
      | nil => simp [wordsOf] at h
      | cons y b =>
        simp only [wordsOf, List.map_cons, List.cons.injEq] at h
        have hx := ha x List.mem_cons_self
        have hy := hb y List.mem_cons_self
        have e1 : strOf y.toNat = strOf x.toNat := by
          have hh := h.1
          generalize strOf y.toNat = u at hh ⊢
          generalize strOf x.toNat = v at hh ⊢
          obtain ⟨p⟩ := u
          obtain ⟨q⟩ := v
          have : p = q := by rw [← Array.toList_inj]; exact hh
          rw [this]
        have := strOf_inj (by omega) (by omega) e1
        rw [ih (fun c hc => ha c (List.mem_cons_of_mem _ hc)) (fun c hc => hb c (List.mem_cons_of_mem _ hc)) h.2]
        congr 1
        omega
  exact key ha hb h1
theorem sum_le : ∀ {l : List Nat} {m : Nat}, (∀ x ∈ l, x ≤ m) → l.sum ≤ l.length * m
  | [], m, _ => by simp
  | x :: l, m, h => by
    have h1 := h x List.mem_cons_self
    have h2 := sum_le (l := l) (m := m) fun y hy => h y (List.mem_cons_of_mem _ hy)
    rw [List.sum_cons, List.length_cons, Nat.add_mul, Nat.one_mul]
    omega
end Mlg
/-! Pl12: texts; the plain law of k12. -/
namespace Mlg
open PySem (PyData Str)
variable {tab : Nat → Option Def}
/-! ### card_in -/
abbrev figs : Str := ⟨#[48, 49, 50, 51, 52, 53, 54, 55, 56, 57]⟩
theorem inn_fig {a : Nat} (h : 48 ≤ a ∧ a ≤ 57) : cmp .inn (.str ⟨#[a]⟩) (.str figs) = some true := by
  show some (decide (a ∈ [48, 49, 50, 51, 52, 53, 54, 55, 56, 57])) = _
  rw [decide_eq_true (by simp; omega)]
theorem eq_str {x y : Str} (hx : ∀ c ∈ x.cps.toList, c < 1114112) (hy : ∀ c ∈ y.cps.toList, c < 1114112) : cmp .eq (.str x) (.str y) = some (decide (x = y)) := by
  rw [cmp_eq]
  have h1 : shp 8 (.str x) = true := by show x.cps.toList.all _ = true; rw [List.all_eq_true]; intro c hc; exact decide_eq_true (hx c hc)
  have h2 : shp 8 (.str y) = true := by show y.cps.toList.all _ = true; rw [List.all_eq_true]; intro c hc; exact decide_eq_true (hy c hc)
  rw [h1, h2]
  show some (x == y) = _
  congr 1
theorem ne_str {x y : Str} (hx : ∀ c ∈ x.cps.toList, c < 1114112) (hy : ∀ c ∈ y.cps.toList, c < 1114112) : cmp .ne (.str x) (.str y) = some (!decide (x = y)) := by
  rw [cmp_ne]
  have h1 : shp 8 (.str x) = true := by show x.cps.toList.all _ = true; rw [List.all_eq_true]; intro c hc; exact decide_eq_true (hx c hc)
  have h2 : shp 8 (.str y) = true := by show y.cps.toList.all _ = true; rw [List.all_eq_true]; intro c hc; exact decide_eq_true (hy c hc)
  rw [h1, h2]
  show some (!(x == y)) = _
  congr 2
theorem card_in_ok [H : Has tab 94 d94] {k c : Nat} (hc : c < 100) : callF tab (k + 1) 94 [.val (.str (strOf c))] = .ok (.val (.int c), [.val (.str (strOf c))]) := by
  refine Wp.eq ?_
  refine callW H rfl rfl ?_
  by_cases h1 : c < 10
  · rw [strOf_one h1]
    obtain ⟨a, ha⟩ : ∃ a, 48 + c = a := ⟨_, rfl⟩
    rw [ha]
    have l1 : b1 .len (.str ⟨#[a]⟩) = some (.val (.int 1)) := rfl
    have ch : chars ⟨#[a]⟩ = [.str ⟨#[a]⟩] := rfl
    have f1 := inn_fig (a := a) (by omega)
    have ix : ixD (.str ⟨#[a]⟩) (.int 0) = some (.val (.str ⟨#[a]⟩)) := rfl
    have q1 := eq_str (x := ⟨#[a]⟩) (y := ⟨#[48]⟩) (by simp; omega) (by simp)
    have q2 := ne_str (x := ⟨#[a]⟩) (y := ⟨#[48]⟩) (by simp; omega) (by simp)
    have ba : b1 .all (.list [.bool true]) = some (.val (.bool true)) := rfl
    have bi : b1 .int (.str ⟨#[a]⟩) = some (.val (.int (a - 48 : Nat))) := by
      show (if 48 ≤ a ∧ a ≤ 57 then some (R.val (.int (a - 48 : Nat))) else none) = _
      rw [if_pos (by omega)]
    rw [show a - 48 = c by omega] at bi
    have lt : (c : Int) < 100 := by omega
    by_cases e : a = 48
    · subst e
      simp -implicitDefEqProofs [d94, l1, ch, f1, ix, q1, q2, ba, bi, lt]
    · simp -implicitDefEqProofs [d94, l1, ch, f1, ix, q1, q2, ba, bi, lt, e]
  · rw [strOf_two (by omega) hc]
    obtain ⟨a, ha⟩ : ∃ a, 48 + c / 10 = a := ⟨_, rfl⟩
    obtain ⟨b, hb⟩ : ∃ b, 48 + c % 10 = b := ⟨_, rfl⟩
    rw [ha, hb]
    have l1 : b1 .len (.str ⟨#[a, b]⟩) = some (.val (.int 2)) := rfl
    have ch : chars ⟨#[a, b]⟩ = [.str ⟨#[a]⟩, .str ⟨#[b]⟩] := rfl
    have f1 := inn_fig (a := a) (by omega)
    have f2 := inn_fig (a := b) (by omega)
    have ix : ixD (.str ⟨#[a, b]⟩) (.int 0) = some (.val (.str ⟨#[a]⟩)) := rfl
    have q1 := eq_str (x := ⟨#[a]⟩) (y := ⟨#[48]⟩) (by simp; omega) (by simp)
    have ba : b1 .all (.list [.bool true, .bool true]) = some (.val (.bool true)) := rfl
    have bi : b1 .int (.str ⟨#[a, b]⟩) = some (.val (.int (10 * (a - 48) + (b - 48) : Nat))) := by
      show (if 48 ≤ a ∧ a ≤ 57 ∧ 48 ≤ b ∧ b ≤ 57 then some (R.val (.int (10 * (a - 48) + (b - 48) : Nat))) else none) = _
      rw [if_pos (by omega)]
    rw [show 10 * (a - 48) + (b - 48) = c by omega] at bi
    have lt : (c : Int) < 100 := by omega
    have e : ¬ a = 48 := by omega
    simp -implicitDefEqProofs [d94, l1, ch, f1, f2, ix, q1, ba, bi, lt, e]
/-! ### write -/
def wD (r : List Int) : List D := r.map fun c => .str (strOf c.toNat)
theorem str_lc {call : CallT} {r : List Int} {ρ : Env} {v : Nat} (hr : Cards r) (hl : r.length ≤ 1000) (h1 : ρ[v]? = some .un) (hv : v < ρ.length) :
    loopC (lcT call (.b1 .str (.var v)) (.nm v) .no [v]) (dI r) [] ρ = .ok (wD r, ρ) := by
  refine loopC_mp _ _ (fun x hx => ?_) (by omega)
  have hc := hr x hx
  have s1 : (ρ.set v (.val (.int x)))[v]? = some (.val (.int x)) := List.getElem?_set_self hv
  have s3 : (ρ.set v (.val (.int x))).set v .un = ρ := by
    rw [List.set_set]
    apply List.ext_getElem?
    intro q
    by_cases hq : q = v
    · subst hq; rw [List.getElem?_set_self hv, h1]
    · rw [List.getElem?_set_ne (Ne.symm hq)]
  have bs : b1 .str (.int x) = some (.val (.str (strOf x.toNat))) := by
    show (if 0 ≤ x ∧ x < 1000 then some (R.val (.str (strOf x.toNat))) else none) = _
    rw [if_pos (by omega)]
  simp -implicitDefEqProofs [hv, s1, s3, bs]
theorem texts_wD : ∀ r : List Int, texts (wD r) = some (wordsOf r)
  | [] => rfl
  | c :: r => by
    show (texts (wD r)).map (strOf c.toNat :: ·) = _
    rw [texts_wD r]
    rfl
theorem text_size {r : List Int} (h : Cards r) (hl : r.length ≤ 1000) : ((wordsOf r).map (·.cps.size)).sum + (wordsOf r).length * 1 < 1000000 := by
  have h1 : ((wordsOf r).map (·.cps.size)).sum ≤ ((wordsOf r).map (·.cps.size)).length * 2 := by
    refine sum_le fun x hx => ?_
    obtain ⟨w, hw, rfl⟩ := List.mem_map.mp hx
    obtain ⟨c, hc, rfl⟩ := List.mem_map.mp hw
    have := h c hc
    exact (strOf_sign (by omega)).2
  have e : (wordsOf r).length = r.length := by unfold wordsOf; rw [List.length_map]
  rw [List.length_map, e] at h1
  rw [e]
  omega
theorem join_ok {r : List Int} (h : Cards r) (hl : r.length ≤ 1000) : m1 .join (.str ⟨#[32]⟩) (.list (wD r)) = some (.val (.str (textOf r))) := by
  show (texts (wD r)).bind _ = _
  rw [texts_wD]
  show (if ((wordsOf r).map (·.cps.size)).sum + (wordsOf r).length * 1 < lim then some (R.val (.str (textOf r))) else none) = _
  exact if_pos (text_size h hl)
theorem row_cards {r : List Int} (h : rowL r = true) : Cards r := by
  obtain ⟨h1, h2⟩ := rowL_iff.mp h
  intro c hc
  have := (Part.mem h2 c).mp hc
  omega
theorem write_ok [Has tab 0 d0] [Has tab 1 d1] [Has tab 2 d2] [Has tab 4 d4] [Has tab 6 d6] [Has tab 7 d7] [H : Has tab 12 d12] {k : Nat} {r : List Int} (h : rowL r = true) : callF tab (k + 6) 12 [.val (.tuple (dI r))] = .ok (.val (.str (textOf r)), [.val (.tuple (dI r))]) := by
  refine Wp.eq ?_
  refine callW H rfl rfl ?_
  have e1 := check_row_ok (tab := tab) (k := k) (v := .tuple (dI r)) (by rw [rowB_dI]; exact h)
  have hl := (rowL_iff.mp h).1
  have lc := str_lc (call := callF tab (k + 5)) (r := r) (ρ := [.val (.tuple (dI r)), .un]) (v := 1) (row_cards h) (by omega) rfl (by simp)
  have j1 := join_ok (row_cards h) (by omega)
  simp -implicitDefEqProofs [d12, e1, lc, j1, m1k]
/-! ### read -/
theorem b1_minL {lo hi : Int} {r : List Int} (h : Part lo hi r) : b1 .min (.list (dI r)) = some (.val (.int lo)) := b1_min h
theorem b1_maxL {lo hi : Int} {r : List Int} (h : Part lo hi r) : b1 .max (.list (dI r)) = some (.val (.int hi)) := b1_max h
theorem split_ok {r : List Int} (h0 : r ≠ []) (h : Cards r) (hl : r.length ≤ 1000) : m1 .split (.str (textOf r)) (.str ⟨#[32]⟩) = some (.tmp (.lst (wD r))) := by
  have hs : (textOf r).cps.size < lim := by
    show (joinL [32] (wordsOf r)).toArray.size < lim
    rw [List.size_toArray]
    have : ∀ ws : List Str, (joinL [32] ws).length ≤ (ws.map (·.cps.size)).sum + ws.length * 1 := by
      intro ws
      induction ws with
      | nil => exact Nat.zero_le _
      | cons w ws ih =>
        cases ws with
        | nil => show w.cps.toList.length ≤ _; rw [Array.length_toList]; simp
        | cons v ws =>
          show (w.cps.toList ++ [32] ++ joinL [32] (v :: ws)).length ≤ _
          rw [List.length_append, List.length_append, Array.length_toList, List.map_cons, List.sum_cons, List.length_cons]
          simp at ih ⊢
          omega
    exact Nat.lt_of_le_of_lt (this _) (text_size h hl)
  show (if 32 < 256 ∧ (textOf r).cps.size < lim then some (R.tmp (.lst ((splitL 32 (textOf r).cps.toList).map fun w => .str ⟨w.toArray⟩))) else none) = _
  rw [if_pos ⟨by decide, hs⟩, words_split h0 h, List.map_map]
  unfold wordsOf wD
  rw [List.map_map]
  rfl
def RdI (r : List Int) (i : Nat) (ρ : Env) : Prop := ∃ x3 x4 x5, ρ = [.val (.str (textOf r)), .lck (.lst (wD r)), .own (.lst (dI (r.take i))), x3, x4, x5]
theorem read_ok [Has tab 94 d94] [H : Has tab 95 d95] {k : Nat} {r : List Int} (h : rowL r = true) : callF tab (k + 2) 95 [.val (.str (textOf r))] = .ok (.val (.tuple (dI r)), [.val (.str (textOf r))]) := by
  refine Wp.eq ?_
  refine callW H rfl rfl ?_
  obtain ⟨hl, hr⟩ := rowL_iff.mp h
  have hc := row_cards h
  have e1 := split_ok (Part.ne hr) hc (by omega)
  simp -implicitDefEqProofs [d95, isTy, e1, m1k]
  refine wp_loopF (RdI r) ⟨.un, .un, .un, by simp⟩ ?_ ?_
  · rintro i d ρ hd ⟨x3, x4, x5, rfl⟩
    obtain ⟨e, h1, rfl⟩ := enum_get hd
    have h1 : (r.map fun c => PyData.str (strOf c.toNat))[i]? = some e := h1
    rw [List.getElem?_map] at h1
    cases hci : r[i]? with
    | none => rw [hci] at h1; cases h1
    | some c =>
    rw [hci] at h1
    have he : e = .str (strOf c.toNat) := (Option.some.inj h1).symm
    subst he
    have hcc := hc c (List.mem_of_getElem? hci)
    have e2 := card_in_ok (tab := tab) (k := k) (c := c.toNat) (by omega)
    rw [show ((c.toNat : Nat) : Int) = c by omega] at e2
    have et : r.take (i + 1) = r.take i ++ [c] := by rw [List.take_succ, hci]; rfl
    have fin : ∀ {x3 x4 x5 : Slot}, RdI r (i + 1) [.val (.str (textOf r)), .lck (.lst (wD r)), .own (.lst (dI (r.take i) ++ [.int c])), x3, x4, x5] := fun {x3 x4 x5} => ⟨x3, x4, x5, by rw [et]; simp⟩
    have sm : small (dI (r.take i)) = true := small_of (by rw [List.length_map, List.length_take]; omega)
    have ei : ((0 + i : Nat) : Int) = i := by omega
    rw [ei]
    have nx := fun a1 => Part.next hr (i := i) a1 hci
    generalize r.take i = f at *
    by_cases a1 : 0 < i
    · obtain ⟨lo, hi, p, q⟩ := nx a1
      have m1 := b1_minL p
      have m2 := b1_maxL p
      rcases q with q | q
      · have b2 := eq_true q
        simp -implicitDefEqProofs [e2, a1, m1, m2, b2, sm]
        exact fin
      · have b3 := eq_true q
        have b2 : ¬ c = lo - 1 := by have := p.le; omega
        simp -implicitDefEqProofs [e2, a1, m1, m2, b2, b3, sm]
        exact fin
    · simp -implicitDefEqProofs [e2, a1, sm]
      exact fin
  · rintro ρ ⟨x3, x4, x5, rfl⟩
    have hw : (enumL 0 (wD r)).length = r.length := by rw [enum_len]; unfold wD; rw [List.length_map]
    rw [hw, List.take_length]
    have m1 := b1_minL hr
    simp -implicitDefEqProofs [m1]
/-! ### equal -/
theorem cmp_neB' (a b : Bool) : cmp .ne (.bool a) (.bool b) = some (!(a == b)) := by
  rw [cmp_ne]; simp [eqv]
theorem equal_tup [H : Has tab 16 d16] {k : Nat} {a : List Int} (ha : a.length ≤ 1000) : callF tab (k + 2) 16 [.val (.tuple (dI a)), .val (.tuple (dI a))] = .ok (.val (.bool true), [.val (.tuple (dI a)), .val (.tuple (dI a))]) := by
  refine Wp.eq ?_
  refine callW H rfl rfl ?_
  have rg : rangeOk (a.length : Int) = true := rangeOk_of (by omega) (by omega)
  have lc : loopC (lcT (callF tab (k + 1)) (.call 16 (.cons (.ix (.var 0) (.var 3)) (.cons (.ix (.var 1) (.var 3)) .nil))) (.nm 3) .no [3]) (rangeL 0 a.length) [] [.val (.tuple (dI a)), .val (.tuple (dI a)), .un, .un] = .ok ((List.range a.length).map fun _ => .bool true, [.val (.tuple (dI a)), .val (.tuple (dI a)), .un, .un]) := by
    rw [rangeL_0]
    refine loopC_mp _ _ (fun j hj => ?_) (by simp; omega)
    have hj := List.mem_range.mp hj
    obtain ⟨x, hx⟩ := get_at hj
    have p : place a.length (j : Int) = some j := by rw [place_nn (by omega) (by omega)]; congr 1
    have e := equal_int (tab := tab) (k := k) x x
    simp -implicitDefEqProofs [p, hx, e]
  have hb : b1 .all (.list ((List.range a.length).map fun _ => .bool true)) = some (.val (.bool true)) := by
    show (bools _).map _ = _
    rw [bools_map (fun _ => true)]
    simp
  simp -implicitDefEqProofs [d16, isTy, cmp_neB', rg, lc, hb]
theorem equal_str [H : Has tab 16 d16] {k : Nat} {x : Str} (hx : ∀ c ∈ x.cps.toList, c < 1114112) : callF tab (k + 1) 16 [.val (.str x), .val (.str x)] = .ok (.val (.bool true), [.val (.str x), .val (.str x)]) := by
  refine Wp.eq ?_
  refine callW H rfl rfl ?_
  have q := eq_str hx hx
  simp -implicitDefEqProofs [d16, isTy, q]
theorem eqvAll_dI : ∀ a b : List Int, eqvAll (dI a) (dI b) = decide (a = b)
  | [], [] => rfl
  | [], _ :: _ => by simp [eqvAll]
  | _ :: _, [] => by simp [eqvAll]
  | x :: a, y :: b => by
    show (eqv (.int x) (.int y) && eqvAll (dI a) (dI b)) = _
    rw [eqvAll_dI a b]
    show ((x == y) && decide (a = b)) = _
    by_cases h1 : x = y <;> by_cases h2 : a = b <;> simp [h1, h2]
theorem eq_tup (a b : List Int) : cmp .eq (.tuple (dI a)) (.tuple (dI b)) = some (decide (a = b)) := by
  rw [cmp_eq]
  have h1 : ∀ l : List Int, shp 8 (.tuple (dI l)) = true := fun l => shpAll_ints 7 l
  rw [h1, h1]
  exact congrArg some (eqvAll_dI a b)
/-! ### the law -/
def pD (r : List Int) : D := .tuple [.tuple (dI r), .str (textOf r)]
def A12 (xs : List Int) (i : Int) (ρ : Env) : Prop := ∃ (l : List Int) (ts : List (List Int)) (x3 x4 x5 x6 x7 : Slot), Src l ∧ (∀ t ∈ ts, rowL t = true) ∧ (ts.length : Int) = i ∧ ρ = [.ro (dI xs), .own (.lst (dI l)), .own (.lst (ts.map pD)), x3, x4, x5, x6, x7, .un]
def in12 : Ss := .cons (.cond (.cmp .ne (.cmp .eq (.var 6) (.var 4)) (.cmp .eq (.var 7) (.var 5))) (.cons (.ret (.cst (.bool false))) .nil) .nil) .nil
theorem in12_ok {call : CallT} {xs l r : List Int} {ts : List (List Int)} {x3 x6 x7 : Slot} {Q : Env × Option R → Prop} {E : Nat → D → Env → Prop} (hr : rowL r = true) (hts : ∀ t ∈ ts, rowL t = true)
    (hq : ∀ x6 x7, Q ([.ro (dI xs), .own (.lst (dI l)), .lck (.lst (ts.map pD)), x3, .val (.tuple (dI r)), .val (.str (textOf r)), x6, x7, .un], none)) :
    Wp (loopF (bodyF call 1 (.tup [6, 7]) in12) (ts.map pD) [.ro (dI xs), .own (.lst (dI l)), .lck (.lst (ts.map pD)), x3, .val (.tuple (dI r)), .val (.str (textOf r)), x6, x7, .un]) Q E := by
  refine wp_loopF (fun _ ρ => ∃ x6 x7, ρ = [.ro (dI xs), .own (.lst (dI l)), .lck (.lst (ts.map pD)), x3, .val (.tuple (dI r)), .val (.str (textOf r)), x6, x7, .un]) ⟨x6, x7, rfl⟩ ?_ ?_
  · rintro i d ρ hd ⟨x6, x7, rfl⟩
    rw [List.getElem?_map] at hd
    cases ht : ts[i]? with
    | none => rw [ht] at hd; cases hd
    | some t =>
    rw [ht] at hd
    have ed : d = pD t := (Option.some.inj hd).symm
    have hrt := hts t (List.mem_of_getElem? ht)
    rw [ed]
    have q1 := eq_tup t r
    have q2 := eq_str (text_sign (row_cards hrt)) (text_sign (row_cards hr))
    have qe : decide (textOf t = textOf r) = decide (t = r) := by
      rw [Bool.eq_iff_iff, decide_eq_true_iff, decide_eq_true_iff]
      exact ⟨fun e => text_inj (Part.ne (rowL_iff.mp hrt).2) (Part.ne (rowL_iff.mp hr).2) (row_cards hrt) (row_cards hr) e, fun e => by rw [e]⟩
    rw [qe] at q2
    unfold in12 pD
    generalize decide (t = r) = b at *
    generalize ts.map pD = L at *
    have q3 := cmp_neB' b b
    simp -implicitDefEqProofs [q1, q2, q3]
  · rintro ρ ⟨x6, x7, rfl⟩
    exact hq x6 x7
theorem k12_plain [Has tab 0 d0] [Has tab 1 d1] [Has tab 2 d2] [Has tab 4 d4] [Has tab 6 d6] [Has tab 7 d7] [Has tab 12 d12] [Has tab 13 d13] [Has tab 14 d14] [Has tab 15 d15] [Has tab 16 d16] [Has tab 17 d17] [Has tab 94 d94] [Has tab 95 d95] [H : Has tab 96 d96]
    {xs : List Int} (hx : xs.length ≤ 63) : ∃ s, callF tab 60 96 [.ro (dI xs)] = .ok (.val (.bool true), s) := by
  have key : Wp (callF tab (59 + 1) 96 [.ro (dI xs)]) (fun p => ∃ s, p = (.val (.bool true), s)) (fun _ _ _ => False) := by
    refine callW H rfl rfl ?_
    obtain ⟨l0, hs0, e0⟩ := random_ok (tab := tab) (k := 58) (m := 2412) hx (by decide)
    have r5 : rangeOk 5 = true := by decide
    simp -implicitDefEqProofs [d96, e0, r5]
    refine wp_loopR (A12 xs) ⟨l0, [], .un, .un, .un, .un, .un, hs0, (fun t h => by cases h), rfl, rfl⟩ ?_ ?_
    · rintro i ρ _ _ ⟨l, ts, x3, x4, x5, x6, x7, hs, hts, hlen, rfl⟩
      obtain ⟨m, l1, hm, hs1, e1⟩ := pick_int (tab := tab) (k := 57) (ms := [4, 12, 100]) hs (by simp) (by simp)
      have hm2 : 0 < m ∧ m ≤ 100 := by simp at hm; omega
      obtain ⟨b, l2, b0, b1, hs2, e2⟩ := below_ok (tab := tab) (k := 58) (m := m) hs1 hm2.1 (by omega)
      obtain ⟨r, l3, hr, hs3, e3⟩ := row_ok (tab := tab) (k := 57) (n := 1 + b) hs2 (by omega) (by omega)
      have hl : rowL r = true := rowL_iff.mpr ⟨by have := hr.len; omega, by rw [hr.len]; exact hr⟩
      have h100 := (rowL_iff.mp hl).1
      have lc := fun (L : List D) (x4 x5 x6 x7 : Slot) => str_lc (call := callF tab 59) (r := r) (ρ := [.ro (dI xs), .own (.lst (dI l3)), .own (.lst L), .val (.int i), x4, x5, x6, x7, .un]) (v := 8) (row_cards hl) (by omega) rfl (by simp)
      have j1 := join_ok (row_cards hl) (by omega)
      have w1 := write_ok (tab := tab) (k := 53) hl
      have w2 := read_ok (tab := tab) (k := 57) hl
      have w3 := equal_str (tab := tab) (k := 58) (text_sign (row_cards hl))
      have w4 := equal_tup (tab := tab) (k := 57) (a := r) (by omega)
      have sm : small (ts.map pD) = true := small_of (by rw [List.length_map]; omega)
      simp at e1
      simp -implicitDefEqProofs [e1, e2, e3, lc, j1, m1k, w1, w2, w3, w4]
      refine in12_ok hl hts fun x6 x7 => ?_
      generalize hL : ts.map pD = L at *
      simp -implicitDefEqProofs [sm]
      refine ⟨l3, ts ++ [r], .val (.int i), .val (.tuple (dI r)), .val (.str (textOf r)), x6, x7, hs3, ?_, by simp; omega, ?_⟩
      · intro t ht
        rcases List.mem_append.mp ht with z | z
        · exact hts t z
        · simp at z; subst z; exact hl
      · rw [List.map_append, hL]; rfl
    · rintro ρ ⟨l, ts, x3, x4, x5, x6, x7, hs, hts, hlen, rfl⟩
      simp -implicitDefEqProofs
  obtain ⟨p, e, s, rfl⟩ := key.okk
  exact ⟨s, e⟩
end Mlg
/-! PlEq: _law_equal, of any values without dicts. -/
namespace Mlg
open PySem (PyData Str)
variable {tab : Nat → Option Def}
mutual
/-- equal and of the same kind at every level -/
def sameD : D → D → Bool
  | .none, .none => true
  | .bool a, .bool b => a == b
  | .int i, .int j => decide (i = j)
  | .str x, .str y => x == y
  | .list xs, .list ys => sameAll xs ys
  | .tuple xs, .tuple ys => sameAll xs ys
  | _, _ => false
def sameAll : List D → List D → Bool
  | [], [] => true
  | x :: xs, y :: ys => sameD x y && sameAll xs ys
  | _, _ => false
end
mutual
/-- what is compared: no dict, not too deep, not too long -/
def eqOk : Nat → D → Bool
  | _, .none => true
  | _, .bool _ => true
  | _, .int _ => true
  | n, .str x => shp n (.str x)
  | n + 1, .list xs => decide (xs.length < 1000000) && eqOkAll n xs
  | n + 1, .tuple xs => decide (xs.length < 1000000) && eqOkAll n xs
  | _, _ => false
def eqOkAll : Nat → List D → Bool
  | _, [] => true
  | n, x :: xs => eqOk n x && eqOkAll n xs
end
theorem eqOkAll_mem {n : Nat} : ∀ {xs : List D} {x : D}, eqOkAll n xs = true → x ∈ xs → eqOk n x = true
  | y :: xs, x, h, hx => by
    rw [eqOkAll, Bool.and_eq_true] at h
    rcases List.mem_cons.mp hx with rfl | hx
    · exact h.1
    · exact eqOkAll_mem h.2 hx
theorem eqOkAll_of {n : Nat} : ∀ {xs : List D}, (∀ x ∈ xs, eqOk n x = true) → eqOkAll n xs = true
  | [], _ => by rw [eqOkAll]
  | y :: xs, h => by rw [eqOkAll, h y List.mem_cons_self, eqOkAll_of fun x hx => h x (List.mem_cons_of_mem _ hx)]; rfl
theorem sameAll_len : ∀ {xs ys : List D}, xs.length ≠ ys.length → sameAll xs ys = false
  | [], [], h => absurd rfl h
  | [], _ :: _, _ => by rw [sameAll] <;> simp
  | _ :: _, [], _ => by rw [sameAll] <;> simp
  | x :: xs, y :: ys, h => by
    rw [sameAll, sameAll_len (xs := xs) (ys := ys) (by simpa using h)]
    simp
theorem sameAll_all : ∀ {xs ys : List D}, xs.length = ys.length → sameAll xs ys = ((List.range ys.length).map fun j => match xs[j]?, ys[j]? with | some a, some b => sameD a b | _, _ => false).all id
  | [], [], _ => by rw [sameAll]; rfl
  | x :: xs, y :: ys, h => by
    rw [sameAll, sameAll_all (xs := xs) (ys := ys) (by simpa using h), List.length_cons, List.range_succ_eq_map, List.map_cons, List.all_cons, List.map_map]
    rfl
mutual
theorem sameD_refl : ∀ {n : Nat} {d : D}, eqOk n d = true → sameD d d = true
  | _, .none, _ => rfl
  | _, .bool b, _ => by rw [sameD]; simp
  | _, .int i, _ => by rw [sameD]; simp
  | _, .str x, _ => by rw [sameD]; simp
  | 0, .list xs, h => by cases h
  | 0, .tuple xs, h => by cases h
  | n + 1, .list xs, h => by rw [eqOk, Bool.and_eq_true] at h; rw [sameD]; exact sameAll_refl h.2
  | n + 1, .tuple xs, h => by rw [eqOk, Bool.and_eq_true] at h; rw [sameD]; exact sameAll_refl h.2
  | 0, .dict _, h => by cases h
  | n + 1, .dict _, h => by cases h
theorem sameAll_refl : ∀ {n : Nat} {ds : List D}, eqOkAll n ds = true → sameAll ds ds = true
  | _, [], _ => by rw [sameAll]
  | n, d :: ds, h => by
    rw [eqOkAll, Bool.and_eq_true] at h
    rw [sameAll, sameD_refl h.1, sameAll_refl h.2]
    rfl
end
/-- an argument: a value, or a list of its own -/
inductive ArgD : Slot → D → Prop
  | val (d : D) : ArgD (.val d) d
  | own (xs : List D) : ArgD (.own (.lst xs)) (.list xs)
theorem cmp_eqB (a b : Bool) : cmp .eq (.bool a) (.bool b) = some (a == b) := by
  rw [cmp_eq]; simp [eqv]
theorem cmp_eqS {x y : Str} (hx : shp 8 (.str x) = true) (hy : shp 8 (.str y) = true) : cmp .eq (.str x) (.str y) = some (x == y) := by
  rw [cmp_eq, hx, hy]; rfl
theorem shp_str {n m : Nat} {x : Str} (h : shp n (.str x) = true) : shp m (.str x) = true := by
  cases n <;> cases m <;> exact h
theorem equal_ok [H : Has tab 16 d16] : ∀ (n : Nat) {k : Nat} {a b : D} {sa sb : Slot}, ArgD sa a → ArgD sb b → eqOk n a = true → eqOk n b = true → callF tab (k + n + 1) 16 [sa, sb] = .ok (.val (.bool (sameD a b)), [sa, sb]) := by
  intro n
  induction n with
  | zero =>
    intro k a b sa sb ha hb oa ob
    refine Wp.eq ?_
    refine callW H (by rfl) (by cases ha <;> cases hb <;> rfl) ?_
    cases hb with
    | own ys => cases ob
    | val b =>
      cases ha with
      | own xs => cases oa
      | val a =>
        cases b <;> first | (cases ob; done) | skip
        all_goals (cases a <;> first | (cases oa; done) | skip)
        all_goals first | (simp -implicitDefEqProofs [d16, isTy, sameD]; done) | skip
        · simp -implicitDefEqProofs [d16, isTy, sameD, cmp_eqB]
        · have := cmp_eqS (shp_str (n := 0) (m := 8) oa) (shp_str (n := 0) (m := 8) ob)
          simp -implicitDefEqProofs [d16, isTy, sameD, this]
  | succ n ih =>
    intro k a b sa sb ha hb oa ob
    refine Wp.eq ?_
    refine callW H (by rfl) (by cases ha <;> cases hb <;> rfl) ?_
    have seq : ∀ {xs ys : List D} {sa sb : Slot}, xs.length = ys.length → ys.length < 1000000 → eqOkAll n xs = true → eqOkAll n ys = true → (sa = .val (.list xs) ∧ sb = .val (.list ys) ∨ sa = .val (.tuple xs) ∧ sb = .val (.tuple ys) ∨ sa = .own (.lst xs) ∧ sb = .own (.lst ys) ∨ sa = .own (.lst xs) ∧ sb = .val (.list ys) ∨ sa = .val (.list xs) ∧ sb = .own (.lst ys)) →
        loopC (lcT (callF tab (k + n + 1)) (.call 16 (.cons (.ix (.var 0) (.var 3)) (.cons (.ix (.var 1) (.var 3)) .nil))) (.nm 3) .no [3]) (rangeL 0 ys.length) [] [sa, sb, .un, .un] = .ok ((List.range ys.length).map fun j => .bool (match xs[j]?, ys[j]? with | some a, some b => sameD a b | _, _ => false), [sa, sb, .un, .un]) := by
      intro xs ys sa sb hl hl2 o1 o2 hs
      rw [rangeL_0]
      refine loopC_mp _ _ (fun j hj => ?_) (by simp; omega)
      have hj := List.mem_range.mp hj
      obtain ⟨x, hx⟩ := get_at (show j < xs.length by omega)
      obtain ⟨y, hy⟩ := get_at hj
      have p : place xs.length (j : Int) = some j := by rw [place_nn (by omega) (by omega)]; congr 1
      have p2 : place ys.length (j : Int) = some j := by rw [place_nn (by omega) (by omega)]; congr 1
      have e := ih (k := k) (.val x) (.val y) (eqOkAll_mem o1 (List.mem_of_getElem? hx)) (eqOkAll_mem o2 (List.mem_of_getElem? hy))
      rcases hs with ⟨rfl, rfl⟩ | ⟨rfl, rfl⟩ | ⟨rfl, rfl⟩ | ⟨rfl, rfl⟩ | ⟨rfl, rfl⟩ <;> simp -implicitDefEqProofs [p, p2, hx, hy, e]
    have fin : ∀ {xs ys : List D}, xs.length = ys.length → b1 .all (.list ((List.range ys.length).map fun j => .bool (match xs[j]?, ys[j]? with | some a, some b => sameD a b | _, _ => false))) = some (.val (.bool (sameAll xs ys))) := by
      intro xs ys hl
      show (bools _).map _ = _
      rw [bools_map, sameAll_all hl]
      rfl
    have go : ∀ {xs ys : List D} {sa sb : Slot}, (sa = .val (.list xs) ∧ sb = .val (.list ys) ∨ sa = .val (.tuple xs) ∧ sb = .val (.tuple ys) ∨ sa = .own (.lst xs) ∧ sb = .own (.lst ys) ∨ sa = .own (.lst xs) ∧ sb = .val (.list ys) ∨ sa = .val (.list xs) ∧ sb = .own (.lst ys)) →
        xs.length < 1000000 → ys.length < 1000000 → eqOkAll n xs = true → eqOkAll n ys = true → Wp (execs (callF tab (k + n + 1)) d16.np d16.body ([sa, sb] ++ List.replicate d16.ns .un)) (fun p => (p.2.getD (.val .none), mask d16.reb 0 (p.1.take d16.np)) = (.val (.bool (sameAll xs ys)), [sa, sb])) (fun c f ρ => False) := by
      intro xs ys sa sb hs l1 l2 o1 o2
      by_cases hl : xs.length = ys.length
      · have lc := seq hl l2 o1 o2 hs
        have hb := fin hl
        have rg : rangeOk (ys.length : Int) = true := rangeOk_of (by omega) (by omega)
        generalize hB : ((List.range ys.length).map fun j => PyData.bool (match xs[j]?, ys[j]? with | some a, some b => sameD a b | _, _ => false)) = B at lc hb
        rcases hs with ⟨rfl, rfl⟩ | ⟨rfl, rfl⟩ | ⟨rfl, rfl⟩ | ⟨rfl, rfl⟩ | ⟨rfl, rfl⟩ <;> simp -implicitDefEqProofs [d16, isTy, cmp_neB', hl, rg, lc, hb]
      · have hl' : ¬ ((xs.length : Int) = (ys.length : Int)) := by omega
        have hb := sameAll_len hl
        rcases hs with ⟨rfl, rfl⟩ | ⟨rfl, rfl⟩ | ⟨rfl, rfl⟩ | ⟨rfl, rfl⟩ | ⟨rfl, rfl⟩ <;> simp -implicitDefEqProofs [d16, isTy, cmp_neB', hl', hl, hb]
    have l0 : ∀ {xs : List D}, eqOk (n + 1) (.list xs) = true → xs.length < 1000000 ∧ eqOkAll n xs = true := fun {xs} h => by
      rw [eqOk, Bool.and_eq_true] at h; exact ⟨of_decide_eq_true h.1, h.2⟩
    have t0 : ∀ {xs : List D}, eqOk (n + 1) (.tuple xs) = true → xs.length < 1000000 ∧ eqOkAll n xs = true := fun {xs} h => by
      rw [eqOk, Bool.and_eq_true] at h; exact ⟨of_decide_eq_true h.1, h.2⟩
    cases hb with
    | own ys =>
      cases ha with
      | own xs => exact go (.inr (.inr (.inl ⟨rfl, rfl⟩))) (l0 oa).1 (l0 ob).1 (l0 oa).2 (l0 ob).2
      | val a =>
        cases a <;> first | (cases oa; done) | skip
        case list xs => exact go (.inr (.inr (.inr (.inr ⟨rfl, rfl⟩)))) (l0 oa).1 (l0 ob).1 (l0 oa).2 (l0 ob).2
        all_goals (simp -implicitDefEqProofs [d16, isTy, sameD, cmp_neB']; done)
    | val b =>
      cases ha with
      | own xs =>
        cases b <;> first | (cases ob; done) | skip
        case list ys => exact go (.inr (.inr (.inr (.inl ⟨rfl, rfl⟩)))) (l0 oa).1 (l0 ob).1 (l0 oa).2 (l0 ob).2
        all_goals (simp -implicitDefEqProofs [d16, isTy, sameD, cmp_neB']; done)
      | val a =>
        cases b <;> first | (cases ob; done) | skip
        all_goals (cases a <;> first | (cases oa; done) | skip)
        case str.str y x =>
          have := cmp_eqS (shp_str (n := n + 1) (m := 8) oa) (shp_str (n := n + 1) (m := 8) ob)
          simp -implicitDefEqProofs [d16, isTy, sameD, this]
        case list.list ys xs => exact go (.inl ⟨rfl, rfl⟩) (l0 oa).1 (l0 ob).1 (l0 oa).2 (l0 ob).2
        case tuple.tuple ys xs => exact go (.inr (.inl ⟨rfl, rfl⟩)) (t0 oa).1 (t0 ob).1 (t0 oa).2 (t0 ob).2
        all_goals (simp -implicitDefEqProofs [d16, isTy, sameD, cmp_neB', cmp_eqB]; done)
end Mlg
/-! Pl05: the plain law of k05. -/
namespace Mlg
open PySem (PyData Str)
variable {tab : Nat → Option Def}
theorem cmp_neB (a b : Bool) : cmp .ne (.bool a) (.bool b) = some (!(a == b)) := by
  rw [cmp_ne]; simp [eqv]
/-! ### equal of one list -/
theorem equal_list [H : Has tab 16 d16] {k : Nat} {a : List Int} (ha : a.length ≤ 1000) : callF tab (k + 2) 16 [.own (.lst (dI a)), .own (.lst (dI a))] = .ok (.val (.bool true), [.own (.lst (dI a)), .own (.lst (dI a))]) := by
  refine Wp.eq ?_
  refine callW H rfl rfl ?_
  have rg : rangeOk (a.length : Int) = true := rangeOk_of (by omega) (by omega)
  have lc : loopC (lcT (callF tab (k + 1)) (.call 16 (.cons (.ix (.var 0) (.var 3)) (.cons (.ix (.var 1) (.var 3)) .nil))) (.nm 3) .no [3]) (rangeL 0 a.length) [] [.own (.lst (dI a)), .own (.lst (dI a)), .un, .un] = .ok ((List.range a.length).map fun _ => .bool true, [.own (.lst (dI a)), .own (.lst (dI a)), .un, .un]) := by
    rw [rangeL_0]
    refine loopC_mp _ _ (fun j hj => ?_) (by simp; omega)
    have hj := List.mem_range.mp hj
    obtain ⟨x, hx⟩ := get_at hj
    have p : place a.length (j : Int) = some j := by rw [place_nn (by omega) (by omega)]; congr 1
    have e := equal_int (tab := tab) (k := k) x x
    simp -implicitDefEqProofs [p, hx, e]
  have hb : b1 .all (.list ((List.range a.length).map fun _ => .bool true)) = some (.val (.bool true)) := by
    show (bools _).map _ = _
    rw [bools_map (fun _ => true)]
    simp
  simp -implicitDefEqProofs [d16, isTy, cmp_neB, rg, lc, hb]
theorem equal_none [H : Has tab 16 d16] {k : Nat} : callF tab (k + 1) 16 [.val .none, .val .none] = .ok (.val (.bool true), [.val .none, .val .none]) := by
  refine Wp.eq ?_
  refine callW H rfl rfl ?_
  simp -implicitDefEqProofs [d16, isTy]
theorem equal_barD [Has tab 16 d16] {k : Nat} (o : Option Nat) : callF tab (k + 1) 16 [.val (barD o), .val (barD o)] = .ok (.val (.bool true), [.val (barD o), .val (barD o)]) := by
  cases o with
  | none => exact equal_none
  | some n =>
    have := equal_int (tab := tab) (k := k) (n : Int) (n : Int)
    simpa [barD] using this
/-! ### first_bad, bad_sizes -/
section
variable [Has tab 0 d0] [Has tab 1 d1] [Has tab 2 d2]
theorem check_order_ok [H : Has tab 3 d3] {k : Nat} {v : D} (h : orderB v = true) : callF tab (k + 4) 3 [.val v] = .ok (.val .none, [.val v]) := by
  refine Wp.eq ?_
  refine callW H rfl rfl ?_
  have e1 := is_order_ok (tab := tab) (k := k) v
  simp -implicitDefEqProofs [d3, e1, h]
theorem check_order_no [H : Has tab 3 d3] {k : Nat} {v : D} (h : orderB v = false) : callF tab (k + 4) 3 [.val v] = .exc 2 .none [.val v] := by
  refine Wp.ex ?_
  refine callW H rfl rfl ?_
  have e1 := is_order_ok (tab := tab) (k := k) v
  simp -implicitDefEqProofs [d3, e1, h]
def modL (o : List Int) (k : Nat) : List Int := o.map (· % (k : Int))
theorem mod_lc {call : CallT} {o : List Int} {k : Nat} {ρ : Env} {i j v : Nat} (hk : 0 < k) (ho : o.length ≤ 1000) (h1 : ρ[v]? = some .un) (h2 : ρ[j]? = some (.val (.int k))) (hjv : j ≠ v) (hv : v < ρ.length) :
    loopC (lcT call (.bin .mod (.var v) (.var j)) (.nm v) .no [v]) (dI o) [] ρ = .ok (dI (modL o k), ρ) := by
  have e : dI (modL o k) = o.map fun x => .int (x % (k : Int)) := by unfold modL dI; rw [List.map_map]; rfl
  rw [e]
  refine loopC_mp _ _ (fun x _ => ?_) (by omega)
  have hk' : (0 : Int) < k := by omega
  have s1 : (ρ.set v (.val (.int x)))[v]? = some (.val (.int x)) := List.getElem?_set_self hv
  have s2 : (ρ.set v (.val (.int x)))[j]? = some (.val (.int k)) := by rw [List.getElem?_set_ne (Ne.symm hjv)]; exact h2
  have s3 : (ρ.set v (.val (.int x))).set v .un = ρ := by
    rw [List.set_set]
    apply List.ext_getElem?
    intro q
    by_cases hq : q = v
    · subst hq; rw [List.getElem?_set_self hv, h1]
    · rw [List.getElem?_set_ne (Ne.symm hq)]
  simp -implicitDefEqProofs [hv, s1, s2, hk, s3]
theorem first_bad_ok [Has tab 3 d3] [Has tab 25 d25] [Has tab 42 d42] [Has tab 43 d43] [H : Has tab 44 d44] {j k : Nat} {o : List Int} (ho : orderL o = true) (hk : 0 < k) (hk1 : k ≤ o.length) : callF tab (j + 5) 44 [.val (.tuple (dI o)), .val (.int k)] = .ok (.val (barD (badL (modL o k) k)), [.val (.tuple (dI o)), .val (.int k)]) := by
  refine Wp.eq ?_
  refine callW H rfl rfl ?_
  have h100 := (orderL_iff.mp ho).2.1
  have e1 := check_order_ok (tab := tab) (k := j) (v := .tuple (dI o)) (by rw [orderB_dI]; exact ho)
  have e2 := check_size_ok (tab := tab) (k := j + 1) (.int k) 1 o.length
  have f2 : fromB (.int k) 1 o.length = true := by simp; omega
  rw [f2, if_pos rfl] at e2
  have e3 := bad_lot_list (tab := tab) (j := j + 2) (l := modL o k) (k := k) hk (by omega) (by unfold modL; rw [List.length_map]; omega)
  have lc := mod_lc (call := callF tab (j + 4)) (o := o) (k := k) (ρ := [.val (.tuple (dI o)), .val (.int k), .un]) (i := 0) (j := 1) (v := 2) hk (by omega) rfl rfl (by decide) (by simp)
  simp -implicitDefEqProofs [d44, e1, e2, lc, e3]
def szB (o : List Int) (j : Nat) : Bool := (badL (modL o (1 + j)) (1 + j)).isSome
def sizesL (o : List Int) (m : Nat) : List Int := ((List.range m).filter (szB o)).map fun (j : Nat) => 1 + (j : Int)
theorem bad_sizes_ok [Has tab 3 d3] [Has tab 42 d42] [Has tab 43 d43] [H : Has tab 45 d45] {j : Nat} {o : List Int} (ho : orderL o = true) : callF tab (j + 5) 45 [.val (.tuple (dI o))] = .ok (.tmp (.lst (dI (sizesL o o.length))), [.val (.tuple (dI o))]) := by
  refine Wp.eq ?_
  refine callW H rfl rfl ?_
  have h100 := (orderL_iff.mp ho).2.1
  have e1 := check_order_ok (tab := tab) (k := j) (v := .tuple (dI o)) (by rw [orderB_dI]; exact ho)
  have rg : rangeOk ((o.length : Int) + 1) = true := rangeOk_of (by omega) (by omega)
  have rg1 : rangeOk 1 = true := by decide
  have er : rangeL 1 ((o.length : Int) + 1) = (List.range o.length).map fun (j : Nat) => .int (1 + j) := by
    rw [Int.add_comm]; exact rangeL_nat 1 o.length
  have lc : loopC (lcT (callF tab (j + 4)) (.var 1) (.nm 1) (.so (.ntN (.call 43 (.cons (.lc (.bin .mod (.var 2) (.var 1)) (.nm 2) (.var 0) .no [2]) (.cons (.var 1) .nil))))) [1]) (rangeL 1 ((o.length : Int) + 1)) [] [.val (.tuple (dI o)), .un, .un] = .ok (dI (sizesL o o.length), [.val (.tuple (dI o)), .un, .un]) := by
    rw [er]
    have ee : dI (sizesL o o.length) = ((List.range o.length).filter (szB o)).map fun (j : Nat) => .int (1 + j) := by unfold sizesL dI; rw [List.map_map]; rfl
    rw [ee]
    refine loopC_fm _ _ _ (fun i hi => ?_) (by simp; omega)
    have hi := List.mem_range.mp hi
    have ei : (1 : Int) + (i : Int) = ((1 + i : Nat) : Int) := by omega
    rw [ei]
    have e3 := bad_lot_list (tab := tab) (j := j + 2) (l := modL o (1 + i)) (k := 1 + i) (by omega) (by omega) (by unfold modL; rw [List.length_map]; omega)
    have lc := mod_lc (call := callF tab (j + 4)) (o := o) (k := 1 + i) (ρ := [.val (.tuple (dI o)), .val (.int (1 + i : Nat)), .un]) (i := 0) (j := 1) (v := 2) (by omega) (by omega) rfl rfl (by decide) (by simp)
    have hs : szB o i = (badL (modL o (1 + i)) (1 + i)).isSome := rfl
    generalize 1 + i = q at *
    cases hb : badL (modL o q) q with
    | none => simp -implicitDefEqProofs [lc, e3, hb, barD, hs]
    | some n => simp -implicitDefEqProofs [lc, e3, hb, barD, hs]
  simp -implicitDefEqProofs [d45, e1, rg, rg1, lc]
theorem first_bad_size [Has tab 3 d3] [Has tab 25 d25] [H : Has tab 44 d44] {j : Nat} {o : List Int} {v : D} (ho : orderL o = true) (hv : fromB v 1 o.length = false) : callF tab (j + 5) 44 [.val (.tuple (dI o)), .val v] = .exc 1 .none [.val (.tuple (dI o)), .val v] := by
  refine Wp.ex ?_
  refine callW H rfl rfl ?_
  have e1 := check_order_ok (tab := tab) (k := j) (v := .tuple (dI o)) (by rw [orderB_dI]; exact ho)
  have e2 := check_size_ok (tab := tab) (k := j + 1) v 1 o.length
  rw [hv, if_neg Bool.false_ne_true] at e2
  simp -implicitDefEqProofs [d44, e1, e2]
theorem first_bad_order [Has tab 3 d3] [H : Has tab 44 d44] {j : Nat} {u v : D} (ho : orderB u = false) : callF tab (j + 5) 44 [.val u, .val v] = .exc 2 .none [.val u, .val v] := by
  refine Wp.ex ?_
  refine callW H rfl rfl ?_
  have e1 := check_order_no (tab := tab) (k := j) ho
  simp -implicitDefEqProofs [d44, e1]
theorem bad_sizes_no [Has tab 3 d3] [H : Has tab 45 d45] {j : Nat} {u : D} (ho : orderB u = false) : callF tab (j + 5) 45 [.val u] = .exc 2 .none [.val u] := by
  refine Wp.ex ?_
  refine callW H rfl rfl ?_
  have e1 := check_order_no (tab := tab) (k := j) ho
  simp -implicitDefEqProofs [d45, e1]
abbrev sSize : D := .str ⟨#[115, 105, 122, 101]⟩
abbrev sOrder : D := .str ⟨#[111, 114, 100, 101, 114]⟩
theorem told48_size [Has tab 3 d3] [Has tab 25 d25] [Has tab 42 d42] [Has tab 43 d43] [Has tab 44 d44] [Has tab 45 d45] [H : Has tab 48 d48] {j : Nat} {o : List Int} {v : D} (ho : orderL o = true) (hv : fromB v 1 o.length = false) : callF tab (j + 6) 48 [.val (.tuple (dI o)), .val v] = .ok (.tmp (.lst [sSize]), [.val (.tuple (dI o)), .val v]) := by
  refine Wp.eq ?_
  refine callW H rfl rfl ?_
  have e1 := first_bad_size (tab := tab) (j := j) ho hv
  have e2 := bad_sizes_ok (tab := tab) (j := j) ho
  simp -implicitDefEqProofs [d48, e1, e2]
theorem told48_order [Has tab 3 d3] [Has tab 44 d44] [Has tab 45 d45] [H : Has tab 48 d48] {j : Nat} {u v : D} (ho : orderB u = false) : callF tab (j + 6) 48 [.val u, .val v] = .ok (.tmp (.lst [sOrder, sOrder]), [.val u, .val v]) := by
  refine Wp.eq ?_
  refine callW H rfl rfl ?_
  have e1 := first_bad_order (tab := tab) (j := j) (v := v) ho
  have e2 := bad_sizes_no (tab := tab) (j := j) ho
  simp -implicitDefEqProofs [d48, e1, e2]
end
/-! ### rows have no bad sizes -/
theorem slc_mod (o : List Int) (k i : Nat) : slc (modL o k) k i = (slc o k i).map (· % (k : Int)) := by
  unfold slc modL
  rw [List.map_take, List.map_drop]
theorem row_sizes {n : Int} {r : List Int} (h : IsRow n r) (m : Nat) : sizesL r m = [] := by
  unfold sizesL
  have : (List.range m).filter (szB r) = [] := by
    rw [List.filter_eq_nil_iff]
    intro j _
    have hn : badL (modL r (1 + j)) (1 + j) = none := by
      refine firstIx_none fun i hi => ?_
      rw [alikeL_iff, slc_mod]
      have hl := lot_le hi
      unfold modL at hl
      rw [List.length_map] at hl
      exact lot_unlike h (by omega) hl
    unfold szB
    rw [hn]
    exact Bool.false_ne_true
  rw [this]
  rfl
theorem sizes_succ (o : List Int) (m : Nat) : sizesL o (m + 1) = sizesL o m ++ (if szB o m = true then [1 + (m : Int)] else []) := by
  unfold sizesL
  rw [List.range_succ, List.filter_append, List.map_append]
  congr 1
  by_cases h : szB o m = true
  · rw [if_pos h, List.filter_cons_of_pos h]; rfl
  · rw [if_neg h, List.filter_cons_of_neg h]; rfl
theorem sizes_len (o : List Int) (m : Nat) : (sizesL o m).length ≤ m := by
  unfold sizesL
  rw [List.length_map]
  have := List.length_filter_le (szB o) (List.range m)
  rw [List.length_range] at this
  exact this
def A05 (xs : List Int) (i : Int) (ρ : Env) : Prop := ∃ l x2 x3 x4 x5 x6 x7 x8, Src l ∧ ρ = [.ro (dI xs), .own (.lst (dI l)), x2, x3, x4, x5, x6, x7, x8, .un, .un, .un, .un]
def B05 (xs : List Int) (l o : List Int) (n : Int) (x2 x5 : Slot) (i : Int) (ρ : Env) : Prop := ∃ x4 x8, ρ = [.ro (dI xs), .own (.lst (dI l)), x2, .val (.int n), x4, x5, .val (.tuple (dI o)), .own (.lst (dI (sizesL o (i - 1).toNat))), x8, .un, .un, .un, .un]
def in05 : Ss := .cons (.asg 8 (.call 47 (.cons (.lc (.bin .mod (.var 9) (.var 4)) (.nm 9) (.var 6) .no [9]) (.cons (.var 4) .nil))))
  (.cons (.asg 7 (.bin .add (.var 7) (.ite (.isN (.var 8)) (.lst .nil) (.lst (.cons (.var 4) .nil)))))
  (.cons (.cond (.not (.call 16 (.cons (.call 44 (.cons (.var 6) (.cons (.var 4) .nil))) (.cons (.var 8) .nil)))) (.cons (.ret (.cst (.bool false))) .nil) .nil) .nil))
section
variable [Has tab 0 d0] [Has tab 1 d1] [Has tab 2 d2] [Has tab 3 d3] [Has tab 16 d16] [Has tab 25 d25] [Has tab 42 d42] [Has tab 43 d43] [Has tab 44 d44] [Has tab 47 d47]
theorem in05_ok {xs l o : List Int} {n : Int} {x2 x4 x5 x8 : Slot} {Q : Env × Option R → Prop} {E : Nat → D → Env → Prop} (ho : orderL o = true) (hn : (o.length : Int) = n)
    (hq : ∀ x4 x8, Q ([.ro (dI xs), .own (.lst (dI l)), x2, .val (.int n), x4, x5, .val (.tuple (dI o)), .own (.lst (dI (sizesL o o.length))), x8, .un, .un, .un, .un], none)) :
    Wp (loopF (bodyF (callF tab 59) 1 (.nm 4) in05) (rangeL 1 (n + 1)) [.ro (dI xs), .own (.lst (dI l)), x2, .val (.int n), x4, x5, .val (.tuple (dI o)), .own (.lst []), x8, .un, .un, .un, .un]) Q E := by
  have h100 := orderL_iff.mp ho
  refine wp_loopR (B05 xs l o n x2 x5) ⟨x4, x8, rfl⟩ ?_ ?_
  · rintro i ρ i0 i1 ⟨x4, x8, rfl⟩
    obtain ⟨m, hm⟩ : ∃ m : Nat, i = ((1 + m : Nat) : Int) := ⟨(i - 1).toNat, by omega⟩
    have em : (i - 1).toNat = m := by omega
    have e1 := law_bad_list (tab := tab) (j := 58) (l := modL o (1 + m)) (k := 1 + m) (by omega) (by omega) (by unfold modL; rw [List.length_map]; omega)
    have e2 := first_bad_ok (tab := tab) (j := 54) (o := o) (k := 1 + m) ho (by omega) (by omega)
    have e3 := equal_barD (tab := tab) (k := 58) (badL (modL o (1 + m)) (1 + m))
    have lc := fun (y : Slot) => mod_lc (call := callF tab 59) (o := o) (k := 1 + m) (ρ := [.ro (dI xs), .own (.lst (dI l)), x2, .val (.int n), .val (.int (1 + m : Nat)), x5, .val (.tuple (dI o)), .own (.lst (dI (sizesL o m))), y, .un, .un, .un, .un]) (i := 0) (j := 4) (v := 9) (by omega) (by omega) rfl rfl (by decide) (by simp)
    have hs : szB o m = (badL (modL o (1 + m)) (1 + m)).isSome := rfl
    have sl := sizes_len o m
    have ss := sizes_succ o m
    have fin : ∀ {L : List D} {x4 x8 : Slot}, L = dI (sizesL o (m + 1)) → B05 xs l o n x2 x5 (i + 1) [.ro (dI xs), .own (.lst (dI l)), x2, .val (.int n), x4, x5, .val (.tuple (dI o)), .own (.lst L), x8, .un, .un, .un, .un] := fun {L x4 x8} e => ⟨x4, x8, by rw [e, show (i + 1 - 1).toNat = m + 1 by omega]⟩
    have em1 : (1 : Int) + (m : Int) = ((1 + m : Nat) : Int) := by omega
    rw [em1] at ss
    rw [em, hm]
    rw [hm] at fin
    have sm1 : small (dI (sizesL o m)) = true := small_of (by rw [List.length_map]; omega)
    have sm2 : small (dI (sizesL o m) ++ [.int (1 + m : Nat)]) = true := small_of (by rw [List.length_append, List.length_map]; simp; omega)
    generalize 1 + m = q at *
    unfold in05
    cases hb : badL (modL o q) q with
    | none =>
      rw [hb] at hs e1 e2 e3
      rw [hs] at ss
      simp only [barD] at e1 e2 e3
      simp -implicitDefEqProofs [lc, e1, e2, e3, sm1]
      exact fin (by rw [ss]; simp)
    | some z =>
      rw [hb] at hs e1 e2 e3
      rw [hs] at ss
      simp only [barD] at e1 e2 e3
      simp -implicitDefEqProofs [lc, e1, e2, e3, sm2]
      exact fin (by rw [ss]; simp)
  · rintro ρ ⟨x4, x8, rfl⟩
    rw [show (max (1 : Int) (n + 1) - 1).toNat = o.length by omega]
    exact hq x4 x8
end
set_option maxHeartbeats 4000000 in
theorem k05_plain [Has tab 0 d0] [Has tab 1 d1] [Has tab 2 d2] [Has tab 3 d3] [Has tab 13 d13] [Has tab 14 d14] [Has tab 15 d15] [Has tab 16 d16] [Has tab 17 d17] [Has tab 18 d18] [Has tab 25 d25] [Has tab 42 d42] [Has tab 43 d43] [Has tab 44 d44] [Has tab 45 d45] [Has tab 47 d47] [Has tab 48 d48] [H : Has tab 49 d49]
    {xs : List Int} (hx : xs.length ≤ 63) : ∃ s, callF tab 60 49 [.ro (dI xs)] = .ok (.val (.bool true), s) := by
  have key : Wp (callF tab (59 + 1) 49 [.ro (dI xs)]) (fun p => ∃ s, p = (.val (.bool true), s)) (fun _ _ _ => False) := by
    refine callW H rfl rfl ?_
    obtain ⟨l0, hs0, e0⟩ := random_ok (tab := tab) (k := 58) (m := 2405) hx (by decide)
    have r3 : rangeOk 3 = true := by decide
    have q1 : cmp .ne (.list [sSize]) (.list [sSize]) = some false := rfl
    simp -implicitDefEqProofs [d49, e0, r3]
    refine wp_loopR (A05 xs) ⟨l0, .un, .un, .un, .un, .un, .un, .un, hs0, rfl⟩ ?_ ?_
    · rintro i ρ _ _ ⟨l, x2, x3, x4, x5, x6, x7, x8, hs, rfl⟩
      obtain ⟨m, l1, hm, hs1, e1⟩ := pick_int (tab := tab) (k := 57) (ms := [6, 12, 30, 100]) hs (by simp) (by simp)
      have hm2 : 0 < m ∧ m ≤ 100 := by simp at hm; omega
      obtain ⟨b, l2, b0, b1, hs2, e2⟩ := below_ok (tab := tab) (k := 58) (m := m) hs1 hm2.1 (by omega)
      obtain ⟨n, hn⟩ : ∃ n : Int, 1 + b = n := ⟨_, rfl⟩
      obtain ⟨o, l3, ho, hol, hs3, e3⟩ := order_ok (tab := tab) (k := 56) (n := n) hs2 (by omega) (by omega)
      have rg1 : rangeOk 1 = true := by decide
      have rgn : rangeOk (n + 1) = true := rangeOk_of (by omega) (by omega)
      simp at e1
      simp -implicitDefEqProofs [e1, e2, hn, e3, rg1, rgn]
      refine in05_ok ho hol fun x4 x8 => ?_
      have e4 := bad_sizes_ok (tab := tab) (j := 54) ho
      have e5 := equal_list (tab := tab) (k := 57) (a := sizesL o o.length) (by have := sizes_len o o.length; omega)
      obtain ⟨r, l4, hr, hs4, e6⟩ := row_ok (tab := tab) (k := 57) (n := n) hs3 (by omega) (by omega)
      have hro : orderL r = true := by
        have hlen := hr.len
        have := rowL_iff.mpr ⟨(show r.length ≤ 100 by omega), (by rw [hlen]; exact hr : IsRow r.length r)⟩
        unfold rowL at this
        exact (Bool.and_eq_true _ _ ▸ this).1
      have e7 := bad_sizes_ok (tab := tab) (j := 54) hro
      rw [row_sizes hr] at e7
      have e8 := equal_list (tab := tab) (k := 57) (a := []) (by simp)
      have t1 := told48_size (tab := tab) (j := 53) (v := .none) ho rfl
      have t2 := told48_size (tab := tab) (j := 53) (v := .int 0) ho (by simp)
      have t3 := told48_size (tab := tab) (j := 53) (v := .int (n + 1)) ho (by simp; omega)
      have t4 := told48_size (tab := tab) (j := 53) (v := .str ⟨#[49]⟩) ho rfl
      have t5 := told48_size (tab := tab) (j := 53) (v := .bool true) ho rfl
      simp only [dI, List.map_nil] at e7 e8
      simp -implicitDefEqProofs [e4, e5, e6, e7, e8, t1, t2, t3, t4, t5, q1]
      exact ⟨l4, _, _, _, _, _, _, _, hs4, rfl⟩
    · rintro ρ ⟨l, x2, x3, x4, x5, x6, x7, x8, hs, rfl⟩
      have e1 := bad_sizes_ok (tab := tab) (j := 54) (o := [0, 2, 1]) (by decide +kernel)
      have es : sizesL [0, 2, 1] ([0, 2, 1] : List Int).length = [2] := by decide +kernel
      rw [es] at e1
      have rg : rangeOk 101 = true := by decide
      have o1 := told48_order (tab := tab) (j := 53) (u := .none) (v := .none) rfl
      have o2 := told48_order (tab := tab) (j := 53) (u := .int 3) (v := .none) rfl
      have o3 := told48_order (tab := tab) (j := 53) (u := .str ⟨#[48]⟩) (v := .none) rfl
      have o4 := told48_order (tab := tab) (j := 53) (u := .list [.int 0]) (v := .none) rfl
      have o5 := told48_order (tab := tab) (j := 53) (u := .tuple []) (v := .none) rfl
      have o6 := told48_order (tab := tab) (j := 53) (u := .tuple [.int 1]) (v := .none) (by decide +kernel)
      have o7 := told48_order (tab := tab) (j := 53) (u := .tuple [.int 0, .int 0]) (v := .none) (by decide +kernel)
      have o8 := told48_order (tab := tab) (j := 53) (u := .tuple [.int (-1), .int 0]) (v := .none) (by decide +kernel)
      have o9 := told48_order (tab := tab) (j := 53) (u := .tuple [.bool true, .int 0]) (v := .none) rfl
      have o10 := told48_order (tab := tab) (j := 53) (u := .dict []) (v := .none) rfl
      have o11 := told48_order (tab := tab) (j := 53) (u := .tuple (rangeL 0 101)) (v := .none) (by decide +kernel)
      have q2 : cmp .eq (.list [.int 2, .int 9]) (.list [.int 2]) = some false := rfl
      have q3 : cmp .ne (.list [sOrder, sOrder]) (.list [sOrder, sOrder]) = some false := rfl
      have q4 : cmp .eq (.list []) (.list []) = some true := rfl
      simp only [dI, List.map_nil, List.map_cons] at e1
      simp -implicitDefEqProofs [e1, rg, o1, o2, o3, o4, o5, o6, o7, o8, o9, o10, o11, q2, q3, q4]
  obtain ⟨p, e, s, rfl⟩ := key.okk
  exact ⟨s, e⟩
end Mlg
/-! Rw5: sorted beginnings of an order, in plain numbers. -/
namespace Mlg
def insI (x : Int) : List Int → List Int
  | [] => [x]
  | y :: ys => if y < x then y :: insI x ys else x :: y :: ys
def sortI : List Int → List Int
  | [] => []
  | x :: xs => insI x (sortI xs)
theorem insI_perm (x : Int) : ∀ l : List Int, (insI x l).Perm (x :: l)
  | [] => List.Perm.refl _
  | y :: ys => by
    unfold insI
    split
    · exact ((insI_perm x ys).cons y).trans (List.Perm.swap x y ys)
    · exact List.Perm.refl _
theorem sortI_perm : ∀ l : List Int, (sortI l).Perm l
  | [] => List.Perm.refl _
  | x :: xs => (insI_perm x _).trans ((sortI_perm xs).cons x)
theorem insI_sorted (x : Int) : ∀ {l : List Int}, l.Pairwise (· ≤ ·) → (insI x l).Pairwise (· ≤ ·)
  | [], _ => by simp [insI]
  | y :: ys, h => by
    obtain ⟨h1, h2⟩ := List.pairwise_cons.mp h
    unfold insI
    split
    · rename_i c
      refine List.pairwise_cons.mpr ⟨fun z hz => ?_, insI_sorted x h2⟩
      rcases List.mem_cons.mp ((insI_perm x ys).mem_iff.mp hz) with rfl | hz
      · omega
      · exact h1 z hz
    · rename_i c
      refine List.pairwise_cons.mpr ⟨fun z hz => ?_, h⟩
      rcases List.mem_cons.mp hz with rfl | hz
      · omega
      · have := h1 z hz; omega
theorem sortI_sorted : ∀ l : List Int, (sortI l).Pairwise (· ≤ ·)
  | [] => List.Pairwise.nil
  | x :: xs => insI_sorted x (sortI_sorted xs)
theorem sort_one : ∀ {l m : List Int}, l.Perm m → l.Pairwise (· ≤ ·) → m.Pairwise (· ≤ ·) → l = m
  | [], m, p, _, _ => by rw [List.nil_perm.mp p]
  | x :: l, [], p, _, _ => by simpa using p.length_eq
  | x :: l, y :: m, p, hl, hm => by
    obtain ⟨a1, a2⟩ := List.pairwise_cons.mp hl
    obtain ⟨b1, b2⟩ := List.pairwise_cons.mp hm
    have hy : y ∈ x :: l := p.symm.mem_iff.mp List.mem_cons_self
    have hx : x ∈ y :: m := p.mem_iff.mp List.mem_cons_self
    have e : x = y := by
      rcases List.mem_cons.mp hy with h | hy
      · exact h.symm
      · rcases List.mem_cons.mp hx with h | hx
        · exact h
        · have := a1 y hy
          have := b1 x hx
          omega
    subst e
    rw [sort_one (List.perm_cons x |>.mp p) a2 b2]
/-- n numbers from lo on -/
def fromI (lo : Int) (n : Nat) : List Int := (List.range n).map fun (j : Nat) => lo + (j : Int)
theorem fromI_mem {lo x : Int} {n : Nat} : x ∈ fromI lo n ↔ lo ≤ x ∧ x < lo + n := by
  unfold fromI
  rw [List.mem_map]
  constructor
  · rintro ⟨j, hj, rfl⟩
    have := List.mem_range.mp hj
    omega
  · rintro ⟨h1, h2⟩
    exact ⟨(x - lo).toNat, List.mem_range.mpr (by omega), by omega⟩
theorem fromI_lt (lo : Int) (n : Nat) : (fromI lo n).Pairwise (· < ·) := by
  unfold fromI
  rw [List.pairwise_map]
  exact (List.pairwise_lt_range (n := n)).imp fun h => by omega
theorem fromI_len (lo : Int) (n : Nat) : (fromI lo n).length = n := by unfold fromI; simp
theorem Part.sort {lo hi : Int} {l : List Int} (h : Part lo hi l) : sortI l = fromI lo l.length := by
  refine sort_one ?_ (sortI_sorted l) ((fromI_lt lo _).imp fun h => by omega)
  refine (sortI_perm l).trans ?_
  rw [List.perm_ext_iff_of_nodup h.nodup ((fromI_lt lo _).imp fun h => by omega)]
  intro x
  rw [h.mem, fromI_mem]
  have := h.len
  omega
theorem Part.broke {lo hi c m : Int} {l : List Int} (h : Part lo hi l) (h0 : c ∉ l) (h1 : c ≠ lo - 1) (h2 : c ≠ hi + 1) : sortI (l ++ [c]) ≠ fromI m (l.length + 1) := by
  intro e
  have mem : ∀ x, x ∈ l ++ [c] ↔ m ≤ x ∧ x < m + (l.length + 1 : Nat) := fun x => by
    rw [← (sortI_perm (l ++ [c])).mem_iff, e, fromI_mem]
  have hl := h.len
  have hle := h.le
  rw [h.mem] at h0
  have a1 := (mem c).mp (by simp)
  have a2 := (mem lo).mp (by simp [h.mem]; omega)
  have a3 := (mem hi).mp (by simp [h.mem]; omega)
  have a4 := mem (lo - 1)
  have a5 := mem (hi + 1)
  simp only [List.mem_append, h.mem, List.mem_singleton] at a4 a5
  omega
/-- what a beginning tells of the whole -/
theorem Part.barOf {lo hi : Int} {l rest : List Int} (h : Part lo hi l) : barOf (l ++ rest) = barGo lo hi l.length rest := by
  obtain ⟨c, r, e, k⟩ := h.cons
  rw [← k rest]
  subst e
  rfl
end Mlg
/-! Rw9: how a beginning goes on; rows by number. Plain Lean. -/
namespace Mlg
/-- all ways in which a beginning from lo to hi goes on by m cards, in their order -/
def cpl (n : Int) : Nat → Int → Int → List (List Int)
  | 0, _, _ => [[]]
  | m + 1, lo, hi => (if 0 < lo then (cpl n m (lo - 1) hi).map ((lo - 1) :: ·) else []) ++ (if hi < n - 1 then (cpl n m lo (hi + 1)).map ((hi + 1) :: ·) else [])
theorem cpl_len {n : Int} : ∀ (m : Nat) {lo hi : Int}, 0 ≤ lo → hi < n → (m : Int) = n - 1 - (hi - lo) → (cpl n m lo hi).length = ch m lo.toNat
  | 0, lo, hi, h0, h1, h2 => by
    have : lo.toNat = 0 := by omega
    rw [this]
    rfl
  | m + 1, lo, hi, h0, h1, h2 => by
    show ((if 0 < lo then (cpl n m (lo - 1) hi).map ((lo - 1) :: ·) else []) ++ (if hi < n - 1 then (cpl n m lo (hi + 1)).map ((hi + 1) :: ·) else [])).length = _
    rw [List.length_append]
    by_cases a : 0 < lo
    · obtain ⟨x, hx⟩ : ∃ x : Nat, lo.toNat = x + 1 := ⟨lo.toNat - 1, by omega⟩
      have hx' : (lo - 1).toNat = x := by omega
      rw [if_pos a, List.length_map, cpl_len m (by omega) (by omega) (by omega), hx', hx]
      by_cases b : hi < n - 1
      · rw [if_pos b, List.length_map, cpl_len m (by omega) (by omega) (by omega), hx]
        rfl
      · rw [if_neg b]
        have : x = m := by omega
        subst this
        show ch x x + 0 = ch x x + ch x (x + 1)
        rw [ch_over (show x < x + 1 by omega)]
    · have z : lo.toNat = 0 := by omega
      rw [if_neg a, if_pos (show hi < n - 1 by omega), List.length_map, cpl_len m (by omega) (by omega) (by omega), z]
      simp
/-- the rank of a going on is its place -/
def rkGo (n : Nat) : Int → Nat → List Int → Int
  | _, _, [] => 0
  | low, i, c :: r => if c < low then rkGo n c (i + 1) r else (if 0 < i ∧ 0 < low then (ch (n - 1 - i) (low.toNat - 1) : Int) else 0) + rkGo n low (i + 1) r
theorem cpl_rank {n : Nat} : ∀ (m : Nat) {lo hi : Int} {i : Nat} {s : List Int}, 0 ≤ lo → lo ≤ hi → hi < n → (m : Int) = n - 1 - (hi - lo) → (cpl n m lo hi)[i]? = some s → rkGo n lo (n - m) s = i
  | 0, lo, hi, i, s, h0, h01, h1, h2, h => by
    rcases i with _ | i
    · cases h; rfl
    · cases h
  | m + 1, lo, hi, i, s, h0, h01, h1, h2, h => by
    replace h : ((if 0 < lo then (cpl n m (lo - 1) hi).map ((lo - 1) :: ·) else []) ++ (if hi < n - 1 then (cpl n m lo (hi + 1)).map ((hi + 1) :: ·) else []))[i]? = some s := h
    have en : n - (m + 1) + 1 = n - m := by omega
    have first : ∀ {s' : List Int} {j : Nat}, (cpl n m lo (hi + 1))[j]? = some s' → hi < n - 1 → rkGo n lo (n - (m + 1)) ((hi + 1) :: s') = (if 0 < lo then (ch m (lo.toNat - 1) : Int) else 0) + j := by
      intro s' j hj hh
      show (if hi + 1 < lo then _ else (if 0 < n - (m + 1) ∧ 0 < lo then (ch (n - 1 - (n - (m + 1))) (lo.toNat - 1) : Int) else 0) + rkGo n lo (n - (m + 1) + 1) s') = _
      rw [if_neg (by omega), en, cpl_rank m h0 (by omega) (by omega) (by omega) hj, show n - 1 - (n - (m + 1)) = m by omega]
      by_cases a : 0 < lo
      · rw [if_pos ⟨by omega, a⟩, if_pos a]
      · rw [if_neg (fun z => a z.2), if_neg a]
    by_cases a : 0 < lo
    · have hl := cpl_len (n := n) m (lo := lo - 1) (hi := hi) (by omega) (by omega) (by omega)
      rw [if_pos a] at h
      by_cases c : i < ((cpl n m (lo - 1) hi).map ((lo - 1) :: ·)).length
      · rw [List.getElem?_append_left c, List.getElem?_map] at h
        obtain ⟨s', h3, rfl⟩ := Option.map_eq_some_iff.mp h
        show (if lo - 1 < lo then rkGo n (lo - 1) (n - (m + 1) + 1) s' else _) = _
        rw [if_pos (by omega), en]
        exact cpl_rank m (by omega) (by omega) (by omega) (by omega) h3
      · rw [List.getElem?_append_right (by omega), List.length_map, hl] at h
        rw [List.length_map, hl] at c
        by_cases b : hi < n - 1
        · rw [if_pos b, List.getElem?_map] at h
          obtain ⟨s', h3, rfl⟩ := Option.map_eq_some_iff.mp h
          rw [first h3 b, if_pos a, show lo.toNat - 1 = (lo - 1).toNat by omega]
          omega
        · rw [if_neg b] at h; cases h
    · rw [if_neg a, List.nil_append] at h
      by_cases b : hi < n - 1
      · rw [if_pos b, List.getElem?_map] at h
        obtain ⟨s', h3, rfl⟩ := Option.map_eq_some_iff.mp h
        rw [first h3 b, if_neg a]
        omega
      · rw [if_neg b] at h; cases h
/-! ### all rows, by their first card -/
def iter (n : Int) : Nat → List Tr → List Tr
  | 0, ts => ts
  | j + 1, ts => iter n j (ts.flatMap (extT n))
theorem iter_last (n : Int) : ∀ (j : Nat) (ts : List Tr), iter n (j + 1) ts = (iter n j ts).flatMap (extT n)
  | 0, ts => rfl
  | j + 1, ts => iter_last n j (ts.flatMap (extT n))
theorem gen_iter (n : Nat) : ∀ j : Nat, gen n j = iter n j (gen n 0)
  | 0 => rfl
  | j + 1 => by rw [iter_last, ← gen_iter n j]; rfl
theorem iter_append (n : Int) : ∀ (j : Nat) (a b : List Tr), iter n j (a ++ b) = iter n j a ++ iter n j b
  | 0, a, b => rfl
  | j + 1, a, b => by show iter n j ((a ++ b).flatMap _) = _; rw [List.flatMap_append, iter_append n j]; rfl
theorem iter_nil (n : Int) : ∀ j : Nat, iter n j [] = []
  | 0 => rfl
  | j + 1 => iter_nil n j
theorem iter_flat (n : Int) (j : Nat) : ∀ ts : List Tr, iter n j ts = ts.flatMap fun t => iter n j [t]
  | [] => by rw [iter_nil]; rfl
  | t :: ts => by
    rw [show t :: ts = [t] ++ ts from rfl, iter_append, iter_flat n j ts, List.flatMap_append]
    simp
theorem iter_cpl (n : Int) : ∀ (j : Nat) (t : Tr), (iter n j [t]).map (·.2.2) = (cpl n j t.1 t.2.1).map (t.2.2 ++ ·)
  | 0, t => by simp [iter, cpl]
  | j + 1, t => by
    show (iter n j ([t].flatMap (extT n))).map (·.2.2) = ((if 0 < t.1 then (cpl n j (t.1 - 1) t.2.1).map ((t.1 - 1) :: ·) else []) ++ (if t.2.1 < n - 1 then (cpl n j t.1 (t.2.1 + 1)).map ((t.2.1 + 1) :: ·) else [])).map (t.2.2 ++ ·)
    rw [show [t].flatMap (extT n) = extT n t by simp]
    unfold extT
    rw [iter_append, List.map_append, List.map_append]
    congr 1
    · by_cases a : 0 < t.1
      · rw [if_pos a, if_pos a, iter_cpl n j, List.map_map]
        exact List.map_congr_left fun x _ => by simp
      · rw [if_neg a, if_neg a, iter_nil]; rfl
    · by_cases a : t.2.1 < n - 1
      · rw [if_pos a, if_pos a, iter_cpl n j, List.map_map]
        exact List.map_congr_left fun x _ => by simp
      · rw [if_neg a, if_neg a, iter_nil]; rfl
theorem rowsN_cpl (n : Nat) : rowsN n = (List.range n).flatMap fun (c : Nat) => (cpl n (n - 1) c c).map ((c : Int) :: ·) := by
  unfold rowsN
  rw [gen_iter, iter_flat]
  show (((List.range n).map _).flatMap _).map _ = _
  rw [List.flatMap_map, List.map_flatMap]
  congr 1
  funext c
  exact iter_cpl n (n - 1) ((c : Int), (c : Int), [(c : Int)])
/-- the rows whose first card is less than c -/
def sumC (n : Nat) : Nat → Nat
  | 0 => 0
  | c + 1 => sumC n c + ch (n - 1) c
theorem flat_at {n : Nat} {g : Nat → List (List Int)} (hg : ∀ c, c < n → (g c).length = ch (n - 1) c) : ∀ {c i : Nat}, c < n → i < ch (n - 1) c → ∀ m, c < m → m ≤ n → ((List.range m).flatMap g)[sumC n c + i]? = (g c)[i]? := by
  have hlen : ∀ m, m ≤ n → ((List.range m).flatMap g).length = sumC n m := by
    intro m
    induction m with
    | zero => intro _; rfl
    | succ m ih =>
      intro hm
      rw [List.range_succ, List.flatMap_append, List.length_append, ih (by omega)]
      simp [sumC, hg m (by omega)]
  intro c i hc hi m
  induction m with
  | zero => intro h; omega
  | succ m ih =>
    intro h1 h2
    rw [List.range_succ, List.flatMap_append]
    by_cases e : c = m
    · subst e
      rw [List.getElem?_append_right (by rw [hlen c (by omega)]; omega), hlen c (by omega)]
      simp
    · have mono : ∀ a b : Nat, a ≤ b → sumC n a ≤ sumC n b := fun a b h => by
        induction h with
        | refl => exact Nat.le_refl _
        | step _ ih => exact Nat.le_trans ih (by simp [sumC])
      have h3 := mono (c + 1) m (by omega)
      have h4 : sumC n (c + 1) = sumC n c + ch (n - 1) c := rfl
      rw [List.getElem?_append_left (by rw [hlen m (by omega)]; omega)]
      exact ih (by omega) (by omega)
theorem rowsN_at {n c i : Nat} (hc : c < n) (hi : i < ch (n - 1) c) : (rowsN n)[sumC n c + i]? = ((cpl n (n - 1) c c)[i]?).map ((c : Int) :: ·) := by
  rw [rowsN_cpl, flat_at (g := fun (c : Nat) => (cpl n (n - 1) c c).map ((c : Int) :: ·)) (fun c hc => ?_) hc hi n hc (Nat.le_refl _), List.getElem?_map]
  rw [List.length_map, cpl_len (n - 1) (by omega) (by omega) (by omega)]
  rfl
/-! ### how many -/
theorem ch_full : ∀ m : Nat, ((List.range (m + 1)).map (ch m)).sum = 2 ^ m := by
  have shift : ∀ (f : Nat → Nat) (k : Nat), ((List.range (k + 1)).map f).sum = f 0 + ((List.range k).map fun j => f (j + 1)).sum := by
    intro f k
    rw [List.range_succ_eq_map, List.map_cons, List.map_map, List.sum_cons]
    rfl
  have add : ∀ (f g : Nat → Nat) (l : List Nat), (l.map fun j => f j + g j).sum = (l.map f).sum + (l.map g).sum := by
    intro f g l
    induction l with
    | nil => rfl
    | cons a l ih => simp [ih]; omega
  intro m
  induction m with
  | zero => rfl
  | succ m ih =>
    rw [shift]
    have e : ((List.range (m + 1)).map fun j => ch (m + 1) (j + 1)) = (List.range (m + 1)).map fun j => ch m j + ch m (j + 1) := rfl
    rw [e, add, ih]
    have e2 := shift (ch m) (m + 1)
    rw [List.range_succ, List.map_append, List.sum_append, ih] at e2
    simp [ch_over (show m < m + 1 by omega)] at e2
    simp
    rw [Nat.pow_succ]
    omega
theorem sumC_sum (n : Nat) : ∀ m : Nat, sumC n m = ((List.range m).map (ch (n - 1))).sum
  | 0 => rfl
  | m + 1 => by rw [List.range_succ, List.map_append, List.sum_append, ← sumC_sum n m]; simp [sumC]
theorem sumC_full {n : Nat} (h : 0 < n) : sumC n n = 2 ^ (n - 1) := by
  obtain ⟨m, rfl⟩ : ∃ m, n = m + 1 := ⟨n - 1, by omega⟩
  rw [sumC_sum]
  exact ch_full m
/-- each number below all falls to one first card -/
theorem sumC_find {n : Nat} : ∀ {m k : Nat}, k < sumC n m → ∃ c i, c < m ∧ i < ch (n - 1) c ∧ k = sumC n c + i
  | 0, k, h => by simp [sumC] at h
  | m + 1, k, h => by
    by_cases c : k < sumC n m
    · obtain ⟨c, i, h1, h2, h3⟩ := sumC_find c
      exact ⟨c, i, by omega, h2, h3⟩
    · exact ⟨m, k - sumC n m, by omega, by simp only [sumC] at h; omega, by omega⟩
theorem rowsN_full {n : Nat} (h : 0 < n) : (rowsN n).length = 2 ^ (n - 1) := by
  rw [← sumC_full h, rowsN_cpl, List.length_flatMap, sumC_sum]
  congr 1
  refine List.map_congr_left fun c hc => ?_
  have := List.mem_range.mp hc
  rw [List.length_map, cpl_len (n - 1) (by omega) (by omega) (by omega)]
  rfl
def chs (n m : Nat) : List Int := (List.range m).map fun j => (ch n j : Int)
def rankL (l : List Int) : Int := match l with
  | [] => 0
  | c :: _ => (chs (l.length - 1) c.toNat).sum + rkGo l.length c 0 l
theorem chs_sum (n m : Nat) : (chs (n - 1) m).sum = sumC n m := by
  unfold chs
  induction m with
  | zero => rfl
  | succ m ih => rw [List.range_succ, List.map_append, List.sum_append, ih]; simp [sumC]
/-- the rank of a row is its place -/
theorem rank_at {n k : Nat} {r : List Int} (hn : 0 < n) (h : (rowsN n)[k]? = some r) : rankL r = k := by
  have hk : k < sumC n n := by rw [sumC_full hn, ← rowsN_full hn]; exact (List.getElem?_eq_some_iff.mp h).1
  obtain ⟨c, i, h1, h2, rfl⟩ := sumC_find hk
  rw [rowsN_at h1 h2] at h
  obtain ⟨s, h3, rfl⟩ := Option.map_eq_some_iff.mp h
  have hr : IsRow n ((c : Int) :: s) := (mem_rowsN hn).mp (List.mem_of_getElem? (by rw [rowsN_at h1 h2, h3]; rfl))
  have hl : ((c : Int) :: s).length = n := by have := hr.len; omega
  have e := cpl_rank (n := n) (n - 1) (by omega) (Int.le_refl _) (by omega) (by omega) h3
  show (chs (((c : Int) :: s).length - 1) (c : Int).toNat).sum + rkGo ((c : Int) :: s).length c 0 ((c : Int) :: s) = _
  rw [hl, Int.toNat_natCast, chs_sum]
  show (sumC n c : Int) + (if (c : Int) < c then _ else (if 0 < 0 ∧ (0 : Int) < c then _ else (0 : Int)) + rkGo n c (0 + 1) s) = _
  rw [if_neg (by omega), if_neg (by omega), show n - (n - 1) = 0 + 1 by omega] at *
  rw [e]
  omega
theorem row_at {n : Nat} {r : List Int} (hn : 0 < n) (h : IsRow n r) : ∃ k : Nat, k < 2 ^ (n - 1) ∧ (rowsN n)[k]? = some r ∧ rankL r = k := by
  obtain ⟨k, hk, e⟩ := List.getElem_of_mem ((mem_rowsN hn).mpr h)
  have : (rowsN n)[k]? = some r := by rw [List.getElem?_eq_getElem hk, e]
  exact ⟨k, by rw [← rowsN_full hn]; exact hk, this, rank_at hn this⟩
end Mlg
/-! Pl01: bar, both_ways, rank; the plain law of k01. -/
namespace Mlg
open PySem (PyData Str)
variable {tab : Nat → Option Def}
/-! ### sorted beginnings -/
theorem insD_int (x : Int) : ∀ l : List Int, insD (.int x) (dI l) = dI (insI x l)
  | [] => rfl
  | y :: ys => by
    show (if ltD (.int y) (.int x) = true then .int y :: insD (.int x) (dI ys) else .int x :: .int y :: dI ys) = _
    rw [insD_int x ys]
    show _ = dI (if y < x then y :: insI x ys else x :: y :: ys)
    by_cases h : y < x
    · rw [if_pos (show ltD (.int y) (.int x) = true from decide_eq_true h), if_pos h]; rfl
    · rw [if_neg (show ¬ ltD (.int y) (.int x) = true from fun z => h (of_decide_eq_true z)), if_neg h]; rfl
theorem sortD_int : ∀ l : List Int, sortD (dI l) = dI (sortI l)
  | [] => rfl
  | x :: xs => by
    show insD (.int x) (sortD (dI xs)) = _
    rw [sortD_int xs, insD_int]
    rfl
theorem b1_sortT (l : List Int) : b1 .sorted (.tuple (dI l)) = some (.tmp (.lst (dI (sortI l)))) := by
  show (if (intsD (dI l)).isSome = true then some (R.tmp (.lst (sortD (dI l)))) else none) = _
  rw [intsD_dI, sortD_int]
  rfl
theorem ne_list (a b : List Int) : cmp .ne (.list (dI a)) (.list (dI b)) = some (!decide (a = b)) := by
  rw [cmp_ne]
  have h1 : ∀ l : List Int, shp 8 (.list (dI l)) = true := fun l => shpAll_ints 7 l
  rw [h1, h1]
  exact congrArg (fun b => some (!b)) (eqvAll_dI a b)
theorem rangeL_from (lo : Int) (n : Nat) : rangeL lo (lo + n) = dI (fromI lo n) := by
  rw [rangeL_nat]
  unfold fromI dI
  rw [List.map_map]
  rfl
theorem cut_take (l : List Int) (n : Nat) : cutL (dI l) none (some (n : Int)) = dI (l.take n) := by
  show ((dI l).drop 0).take ((if (n : Int) < 0 then ((n : Int) + ((dI l).length : Int)).toNat else min (n : Int).toNat (dI l).length) - 0) = _
  rw [if_neg (by omega)]
  rw [List.drop_zero, dI, List.length_map, ← List.map_take]
  congr 1
  rw [Nat.sub_zero, Int.toNat_natCast]
  by_cases h : n ≤ l.length
  · rw [Nat.min_eq_left h]
  · rw [Nat.min_eq_right (by omega), List.take_length, List.take_of_length_le (by omega)]
def BdI (l : List Int) (i : Int) (ρ : Env) : Prop := (i = 1 ∨ ∃ lo hi, Part lo hi (l.take (i - 1).toNat)) ∧ ∃ x y, (y = .un ∨ ∃ m, y = .own (.lst m)) ∧ ρ = [.val (.tuple (dI l)), x, y]
theorem barred_ok [H : Has tab 21 d21] {k : Nat} {l : List Int} (h : orderL l = true) : callF tab (k + 1) 21 [.val (.tuple (dI l))] = .ok (.val (barD (barOf l)), [.val (.tuple (dI l))]) := by
  refine Wp.eq ?_
  refine callW H rfl rfl ?_
  have hh := orderL_iff.mp h
  have o1 := hh.1
  have o2 := hh.2.1
  have o3 := hh.2.2.1
  have o4 := hh.2.2.2
  clear hh
  have rg : rangeOk ((l.length : Int) + 1) = true := rangeOk_of (by omega) (by omega)
  have rg1 : rangeOk 1 = true := by decide
  simp -implicitDefEqProofs [d21, rg, rg1]
  refine wp_loopR (BdI l) ⟨.inl rfl, .un, .un, .inl rfl, rfl⟩ ?_ ?_
  · rintro i ρ i0 i1 ⟨hp, x, y, hy, rfl⟩
    obtain ⟨j, rfl⟩ : ∃ j : Nat, i = (j : Int) + 1 := ⟨(i - 1).toNat, by omega⟩
    have ej : ((j : Int) + 1 - 1).toNat = j := by omega
    rw [ej] at hp
    have hj : j < l.length := by omega
    obtain ⟨c, hc⟩ := get_at hj
    have et : l.take (j + 1) = l.take j ++ [c] := by rw [List.take_add_one, hc]; rfl
    have en : ((j : Int) + 1) = ((j + 1 : Nat) : Int) := by omega
    have hlen : (l.take (j + 1)).length = j + 1 := by rw [List.length_take]; omega
    have cut := cut_take l (j + 1)
    have srt := b1_sortT (l.take (j + 1))
    have hsl : (sortI (l.take (j + 1))).length = j + 1 := by rw [(sortI_perm _).length_eq, hlen]
    have hin : ∀ x ∈ sortI (l.take (j + 1)), 0 ≤ x ∧ x ≤ 99 := fun x hx => by
      have := o3 x (List.mem_of_mem_take ((sortI_perm _).mem_iff.mp hx))
      omega
    rw [en]
    generalize hs : sortI (l.take (j + 1)) = s at srt hsl hin
    obtain ⟨m, hm⟩ := get_at (l := s) (j := 0) (by omega)
    have hmb := hin m (List.mem_of_getElem? hm)
    have p0 : place s.length 0 = some 0 := by rw [hsl]; exact place_nn (by omega) (by omega)
    have r1 : rangeOk m = true := rangeOk_of (by omega) (by omega)
    have r2 : rangeOk (m + ((j + 1 : Nat) : Int)) = true := rangeOk_of (by omega) (by omega)
    have rl := rangeL_from m (j + 1)
    have cn := ne_list s (fromI m (j + 1))
    have next : (∃ lo hi, Part lo hi (l.take (j + 1))) → s = fromI m (j + 1) := by
      rintro ⟨lo, hi, P⟩
      have := P.sort
      rw [hs, hlen] at this
      have e : m = lo := by
        rw [this] at hm
        simp [fromI] at hm
        omega
      rw [this, e]
    have case : (∃ lo hi, Part lo hi (l.take (j + 1))) ∨ (s ≠ fromI m (j + 1) ∧ barOf l = some (j + 1)) := by
      rcases hp with hp | ⟨lo, hi, P⟩
      · have : j = 0 := by omega
        subst this
        left
        rw [et]
        exact ⟨c, c, .one c⟩
      · rw [et]
        by_cases c1 : c = lo - 1
        · left; subst c1; exact ⟨_, _, .dn P⟩
        · by_cases c2 : c = hi + 1
          · left; subst c2; exact ⟨_, _, .up P⟩
          · right
            have hlj : (l.take j).length = j := by rw [List.length_take]; omega
            have hj0 : 0 < j := by have := List.length_pos_iff.mpr P.ne; omega
            constructor
            · have hnd : c ∉ l.take j := by
                have : (l.take (j + 1)).Nodup := List.Nodup.sublist (List.take_sublist _ _) o4
                rw [et, List.nodup_append] at this
                intro hcm
                exact this.2.2 c hcm c (by simp) rfl
              have := P.broke (m := m) hnd c1 c2
              rw [← et, hs, hlj] at this
              exact this
            · have hd : l = l.take j ++ (c :: l.drop (j + 1)) := by
                have := List.take_append_drop j l
                rw [List.drop_eq_getElem_cons hj] at this
                rw [(List.getElem?_eq_some_iff.mp hc).2] at this
                exact this.symm
              rw [hd, P.barOf, hlj]
              unfold barGo
              rw [if_pos ⟨hj0, c1, c2⟩]
    have fin : ∀ {x : Slot}, (∃ lo hi, Part lo hi (l.take (j + 1))) → BdI l (((j + 1 : Nat) : Int) + 1) [.val (.tuple (dI l)), x, .own (.lst (dI s))] := fun {x} hP => ⟨.inr (by rw [show (((j + 1 : Nat) : Int) + 1 - 1).toNat = j + 1 by omega]; exact hP), x, _, .inr ⟨_, rfl⟩, rfl⟩
    generalize ((j + 1 : Nat) : Int) = jj at *
    generalize dI (l.take (j + 1)) = T at cut srt
    generalize dI (fromI m (j + 1)) = G at rl cn
    rcases hy with rfl | ⟨m', rfl⟩
    · rcases case with hP | ⟨hne, hb⟩
      · have es := next hP
        simp -implicitDefEqProofs [cut, srt, p0, hm, r1, r2, rl, cn, eq_true es]
        exact fin hP
      · simp -implicitDefEqProofs [cut, srt, p0, hm, r1, r2, rl, cn, hne, hb, barD, en]
    · rcases case with hP | ⟨hne, hb⟩
      · have es := next hP
        simp -implicitDefEqProofs [cut, srt, p0, hm, r1, r2, rl, cn, eq_true es]
        exact fin hP
      · simp -implicitDefEqProofs [cut, srt, p0, hm, r1, r2, rl, cn, hne, hb, barD, en]
  · rintro ρ ⟨hp, x, y, hy, rfl⟩
    have : barOf l = none := by
      rcases hp with hp | ⟨lo, hi, P⟩
      · omega
      · rw [show (max 1 ((l.length : Int) + 1) - 1).toNat = l.length by omega, List.take_length] at P
        exact P.bar
    simp -implicitDefEqProofs [this, barD]
section
variable [Has tab 0 d0] [Has tab 1 d1] [Has tab 2 d2]
/-! ### bar -/
theorem bar_ok [Has tab 3 d3] [Has tab 4 d4] [H : Has tab 5 d5] {k : Nat} {l : List Int} (h : orderL l = true) : callF tab (k + 5) 5 [.val (.tuple (dI l))] = .ok (.val (barD (barOf l)), [.val (.tuple (dI l))]) := by
  refine Wp.eq ?_
  refine callW H rfl rfl ?_
  have e1 := check_order_ok (tab := tab) (k := k) (v := .tuple (dI l)) (by rw [orderB_dI]; exact h)
  have e2 := bar_of_ok (tab := tab) (k := k + 3) (l := l) (by intro z; subst z; exact absurd (orderL_iff.mp h).1 (by simp))
  simp -implicitDefEqProofs [d5, e1, e2]
theorem bar_no [Has tab 3 d3] [H : Has tab 5 d5] {k : Nat} {v : D} (h : orderB v = false) : callF tab (k + 5) 5 [.val v] = .exc 2 .none [.val v] := by
  refine Wp.ex ?_
  refine callW H rfl rfl ?_
  have e1 := check_order_no (tab := tab) (k := k) h
  simp -implicitDefEqProofs [d5, e1]
/-! ### both_ways -/
def wayD (l : List Int) (c : Int) : D := .tuple [.int c, .tuple (l.map fun x => .bool (decide (x < c)))]
theorem way_lc {call : CallT} {l : List Int} {ρ : Env} {c : Int} (hl : l.length ≤ 1000) : loopC (lcT call (.cmp .lt (.var 2) (.var 1)) (.nm 2) .no [2]) (dI l) [] [.val (.tuple (dI l)), .val (.int c), .un] = .ok (l.map fun x => .bool (decide (x < c)), [.val (.tuple (dI l)), .val (.int c), .un]) := by
  refine loopC_mp _ _ (fun x hx => ?_) (by omega)
  simp -implicitDefEqProofs
variable [Has tab 4 d4] [Has tab 6 d6] [Has tab 7 d7]
theorem both_ways_ok [H : Has tab 8 d8] {k : Nat} {l : List Int} {c : Int} {r : List Int} (h : rowL l = true) (hc : l = c :: r) : callF tab (k + 6) 8 [.val (.tuple (dI l))] = .ok (.tmp (.lst [wayD l c, wayD l (c + 1)]), [.val (.tuple (dI l))]) := by
  refine Wp.eq ?_
  refine callW H rfl rfl ?_
  have e1 := check_row_ok (tab := tab) (k := k) (v := .tuple (dI l)) (by rw [rowB_dI]; exact h)
  have hl := (rowL_iff.mp h).1
  have w1 := way_lc (call := callF tab (k + 5)) (ρ := []) (l := l) (c := c) (by omega)
  have w2 := way_lc (call := callF tab (k + 5)) (ρ := []) (l := l) (c := c + 1) (by omega)
  have g0 : l[0]? = some c := by rw [hc]; rfl
  have p0 : place l.length 0 = some 0 := by rw [hc]; exact place_nn (by omega) (by simp)
  simp -implicitDefEqProofs [d8, e1, g0, p0, w1, w2, wayD]
theorem both_ways_no [H : Has tab 8 d8] {k : Nat} {v : D} (h : rowB v = false) : callF tab (k + 6) 8 [.val v] = .exc 3 .none [.val v] := by
  refine Wp.ex ?_
  refine callW H rfl rfl ?_
  have e1 := check_row_no (tab := tab) (k := k) h
  simp -implicitDefEqProofs [d8, e1]
theorem falls_no [H : Has tab 11 d11] {k : Nat} {v : D} (h : rowB v = false) : callF tab (k + 6) 11 [.val v] = .exc 3 .none [.val v] := by
  refine Wp.ex ?_
  refine callW H rfl rfl ?_
  have e1 := check_row_no (tab := tab) (k := k) h
  simp -implicitDefEqProofs [d11, e1]
theorem write_no [H : Has tab 12 d12] {k : Nat} {v : D} (h : rowB v = false) : callF tab (k + 6) 12 [.val v] = .exc 3 .none [.val v] := by
  refine Wp.ex ?_
  refine callW H rfl rfl ?_
  have e1 := check_row_no (tab := tab) (k := k) h
  simp -implicitDefEqProofs [d12, e1]
theorem rank_no [H : Has tab 10 d10] {k : Nat} {v : D} (h : rowB v = false) : callF tab (k + 6) 10 [.val v] = .exc 3 .none [.val v] := by
  refine Wp.ex ?_
  refine callW H rfl rfl ?_
  have e1 := check_row_no (tab := tab) (k := k) h
  simp -implicitDefEqProofs [d10, e1]
/-! ### rank -/
theorem chs_lc [Has tab 9 d9] {k n m : Nat} {l : List Int} {x y z w v : Slot} (hn : 0 < n) (hn1 : n ≤ 1000) (hm : m ≤ 1000) :
    loopC (lcT (callF tab (k + 1)) (.call 9 (.cons (.bin .sub (.var 1) (.cst (.int 1))) (.cons (.var 4) .nil))) (.nm 4) .no [4]) (rangeL 0 m) [] [x, .val (.int n), y, z, .un, w, v] = .ok (dI (chs (n - 1) m), [x, .val (.int n), y, z, .un, w, v]) := by
  rw [rangeL_0]
  have e : dI (chs (n - 1) m) = (List.range m).map fun j => .int (ch (n - 1) j : Int) := by unfold chs dI; rw [List.map_map]; rfl
  rw [e]
  refine loopC_mp _ _ (fun j hj => ?_) (by simp; omega)
  have hj := List.mem_range.mp hj
  have e1 := choose_ok (tab := tab) (k := k) (n - 1) j (by omega) (by omega)
  rw [show ((n - 1 : Nat) : Int) = (n : Int) - 1 by omega] at e1
  simp -implicitDefEqProofs [e1]
def RkI (l : List Int) (i : Nat) (ρ : Env) : Prop := ∃ low s x y, 0 ≤ low ∧ low ≤ 99 ∧ s + rkGo l.length low i (l.drop i) = rankL l ∧ ρ = [.val (.tuple (dI l)), .val (.int l.length), .val (.int low), .val (.int s), .un, x, y]
theorem rank_ok [Has tab 9 d9] [H : Has tab 10 d10] {k : Nat} {l : List Int} (h : rowL l = true) : callF tab (k + 6) 10 [.val (.tuple (dI l))] = .ok (.val (.int (rankL l)), [.val (.tuple (dI l))]) := by
  refine Wp.eq ?_
  refine callW H rfl rfl ?_
  have e1 := check_row_ok (tab := tab) (k := k) (v := .tuple (dI l)) (by rw [rowB_dI]; exact h)
  have hl := (rowL_iff.mp h).1
  have hr := (rowL_iff.mp h).2
  have hin : ∀ x ∈ l, 0 ≤ x ∧ x ≤ 99 := fun x hx => by have := (Part.mem hr x).mp hx; omega
  obtain ⟨c, r, hc⟩ := List.exists_cons_of_ne_nil (Part.ne hr)
  have hl0 : 0 < l.length := by rw [hc]; simp
  have hc0 := hin c (by rw [hc]; simp)
  have g0 : l[0]? = some c := by rw [hc]; rfl
  have p0 : place l.length 0 = some 0 := place_nn (by omega) (by omega)
  obtain ⟨m, hm⟩ : ∃ m : Nat, c = m := ⟨c.toNat, by omega⟩
  have rg : rangeOk (m : Int) = true := rangeOk_of (by omega) (by omega)
  have lc := fun x y z w v => chs_lc (tab := tab) (k := k + 4) (n := l.length) (m := m) (l := l) (x := x) (y := y) (z := z) (w := w) (v := v) hl0 (by omega) (by omega)
  have hs : b1 .sum (.list (dI (chs (l.length - 1) m))) = some (.val (.int (chs (l.length - 1) m).sum)) := by
    show (intsD (dI _)).map _ = _
    rw [intsD_dI]
    rfl
  have st : (chs (l.length - 1) m).sum + rkGo l.length m 0 l = rankL l := by
    rw [hc] at *
    unfold rankL
    rw [hm]
    simp
  rw [hm] at g0
  generalize dI (chs (l.length - 1) m) = G at lc hs
  generalize (chs (l.length - 1) m).sum = s0 at hs st
  simp -implicitDefEqProofs [d10, e1, g0, p0, rg, lc, hs]
  refine wp_loopF (RkI l) ⟨m, s0, .un, .un, by omega, by omega, st, rfl⟩ ?_ ?_
  · rintro i d ρ hd ⟨low, s, x, y, h0, h1, hb, rfl⟩
    obtain ⟨e, h1', rfl⟩ := enum_get hd
    rw [List.getElem?_map] at h1'
    obtain ⟨z, h2, rfl⟩ := Option.map_eq_some_iff.mp h1'
    obtain ⟨hlt, hz⟩ := List.getElem?_eq_some_iff.mp h2
    have hzb := hin z (hz ▸ List.getElem_mem hlt)
    rw [List.drop_eq_getElem_cons hlt, hz] at hb
    unfold rkGo at hb
    have ei : ((0 + i : Nat) : Int) = i := by omega
    rw [ei]
    by_cases c1 : z < low
    · rw [if_pos c1] at hb
      simp -implicitDefEqProofs [c1]
      exact ⟨z, s, _, _, by omega, by omega, hb, rfl⟩
    · rw [if_neg c1] at hb
      by_cases c2 : 0 < i ∧ 0 < low
      · rw [if_pos c2] at hb
        have e2 := choose_ok (tab := tab) (k := k + 4) (l.length - 1 - i) (low.toNat - 1) (by omega) (by omega)
        rw [show ((l.length - 1 - i : Nat) : Int) = (l.length : Int) - 1 - i by omega, show ((low.toNat - 1 : Nat) : Int) = low - 1 by omega] at e2
        generalize (ch (l.length - 1 - i) (low.toNat - 1) : Int) = q at *
        simp -implicitDefEqProofs [c1, c2.1, c2.2, e2]
        exact ⟨low, s + q, _, _, h0, h1, by omega, rfl⟩
      · rw [if_neg c2] at hb
        have fin : ∀ {x y : Slot}, RkI l (i + 1) [.val (.tuple (dI l)), .val (.int l.length), .val (.int low), .val (.int s), .un, x, y] := fun {x y} => ⟨low, s, x, y, h0, h1, by omega, rfl⟩
        by_cases a1 : 0 < i
        · have a2 : ¬ 0 < low := fun z => c2 ⟨a1, z⟩
          simp -implicitDefEqProofs [c1, a1, a2]
          exact fin
        · simp -implicitDefEqProofs [c1, a1]
          exact fin
  · rintro ρ ⟨low, s, x, y, h0, h1, hb, rfl⟩
    simp [rkGo] at hb
    simp -implicitDefEqProofs [hb]
/-! ### refused -/
variable [Has tab 8 d8] [Has tab 9 d9] [Has tab 10 d10] [Has tab 11 d11] [Has tab 12 d12]
theorem refused_ok [H : Has tab 22 d22] {k : Nat} {l : List Int} (h : rowL l = true) : callF tab (k + 7) 22 [.val (.tuple (dI l))] = .ok (.val (.int 0), [.val (.tuple (dI l))]) := by
  refine Wp.eq ?_
  refine callW H rfl rfl ?_
  obtain ⟨c, r, hc⟩ := List.exists_cons_of_ne_nil (Part.ne (rowL_iff.mp h).2)
  have e1 := both_ways_ok (tab := tab) (k := k) h hc
  have e2 := rank_ok (tab := tab) (k := k) h
  have e3 := falls_ok (tab := tab) (k := k) h
  have e4 := write_ok (tab := tab) (k := k) h
  simp -implicitDefEqProofs [d22, e1, e2, e3, e4]
theorem refused_no [H : Has tab 22 d22] {k : Nat} {v : D} (h : rowB v = false) : callF tab (k + 7) 22 [.val v] = .ok (.val (.int 4), [.val v]) := by
  refine Wp.eq ?_
  refine callW H rfl rfl ?_
  have e1 := both_ways_no (tab := tab) (k := k) h
  have e2 := rank_no (tab := tab) (k := k) h
  have e3 := falls_no (tab := tab) (k := k) h
  have e4 := write_no (tab := tab) (k := k) h
  simp -implicitDefEqProofs [d22, e1, e2, e3, e4]
theorem told23_no [Has tab 3 d3] [Has tab 5 d5] [H : Has tab 23 d23] {k : Nat} {v : D} (h : orderB v = false) : callF tab (k + 6) 23 [.val v] = .ok (.val (.bool true), [.val v]) := by
  refine Wp.eq ?_
  refine callW H rfl rfl ?_
  have e1 := bar_no (tab := tab) (k := k) h
  simp -implicitDefEqProofs [d23, e1]
end
theorem equal_bool [H : Has tab 16 d16] {k : Nat} (b : Bool) : callF tab (k + 1) 16 [.val (.bool b), .val (.bool b)] = .ok (.val (.bool true), [.val (.bool b), .val (.bool b)]) := by
  refine Wp.eq ?_
  refine callW H rfl rfl ?_
  have q : cmp .eq (.bool b) (.bool b) = some true := by rw [cmp_eq]; simp [eqv]
  simp -implicitDefEqProofs [d16, isTy, q]
theorem equal_bar [H : Has tab 16 d16] {k : Nat} (b : Option Nat) : callF tab (k + 1) 16 [.val (barD b), .val (barD b)] = .ok (.val (.bool true), [.val (barD b), .val (barD b)]) := by
  cases b with
  | some n => have := equal_int (tab := tab) (k := k) n n; simpa [barD] using this
  | none =>
    refine Wp.eq ?_
    refine callW H rfl rfl ?_
    have q : cmp .eq (.none) (.none) = some true := by rw [cmp_eq]; rfl
    simp -implicitDefEqProofs [d16, isTy, q, barD]
end Mlg
namespace Mlg
open PySem (PyData Str)
variable {tab : Nat → Option Def}
/-! ### the law -/
def menu20 : List D := [.none, .int 3, .str ⟨#[48]⟩, .list [.int 0], .tuple [], .tuple [.int 1], .tuple [.int 0, .int 0], .tuple [.int (-1), .int 0], .tuple [.int 0, .int 2, .int 1], .tuple [.bool true, .int 0], .tuple [.int 1, .str ⟨#[48]⟩], .dict [], .tuple [.int 2, .int 0, .int 1], .tuple [.int 1, .int 2, .int 0, .int 4, .int 3]]
theorem menu20_no : menu20.all (fun d => !rowB d) = true := by decide +kernel
theorem menu_ok [Has tab 14 d14] [Has tab 15 d15] [H : Has tab 20 d20] {k : Nat} {l : List Int} (hs : Src l) :
    ∃ v l', v ∈ menu20 ∧ Src l' ∧ callF tab (k + 3) 20 [.own (.lst (dI l))] = .ok (.val v, [.own (.lst (dI l'))]) := by
  obtain ⟨i, v, l', hv, hs', e⟩ := pick_ok (tab := tab) (k := k) (ds := menu20) hs (by simp [menu20]) (by simp [menu20])
  refine ⟨v, l', List.mem_of_getElem? hv, hs', ?_⟩
  refine Wp.eq ?_
  refine callW H rfl rfl ?_
  simp only [menu20] at e
  simp -implicitDefEqProofs [d20, e]
def menu24 : List D := [.none, .int 3, .str ⟨#[48]⟩, .list [.int 0], .tuple [], .tuple [.int 1], .tuple [.int 0, .int 0], .tuple [.int (-1), .int 0], .tuple [.bool true, .int 0], .tuple [.int 1, .str ⟨#[48]⟩], .dict [], .tuple (rangeL 0 101), .tuple [.int 0, .none]]
theorem menu24_no : menu24.all (fun d => !rowB d && !orderB d) = true := by decide +kernel
def A01 (xs : List Int) (i : Int) (ρ : Env) : Prop := ∃ l x2 x3 x4, Src l ∧ uv x3 ∧ uv x4 ∧ ρ = [.ro (dI xs), .own (.lst (dI l)), x2, x3, x4, .un, .un, .un]
theorem told24 [Has tab 8 d8] [Has tab 9 d9] [Has tab 10 d10] [Has tab 11 d11] [Has tab 12 d12] [Has tab 0 d0] [Has tab 1 d1] [Has tab 2 d2] [Has tab 3 d3] [Has tab 4 d4] [Has tab 5 d5] [Has tab 6 d6] [Has tab 7 d7] [Has tab 23 d23] {v : D} (h : v ∈ menu24) :
    callF tab 59 23 [.val v] = .ok (.val (.bool true), [.val v]) ∧ callF tab 59 6 [.val v] = .ok (.val (.bool false), [.val v]) := by
  have h := List.all_eq_true.mp menu24_no v h
  rw [Bool.and_eq_true] at h
  have h1 : rowB v = false := by simpa using h.1
  have h2 : orderB v = false := by simpa using h.2
  have e2 := is_row_ok (tab := tab) (k := 55) v
  rw [h1] at e2
  exact ⟨told23_no (tab := tab) (k := 53) h2, e2⟩
theorem k01_plain [Has tab 0 d0] [Has tab 1 d1] [Has tab 2 d2] [Has tab 3 d3] [Has tab 4 d4] [Has tab 5 d5] [Has tab 6 d6] [Has tab 7 d7] [Has tab 8 d8] [Has tab 9 d9] [Has tab 10 d10] [Has tab 11 d11] [Has tab 12 d12] [Has tab 13 d13] [Has tab 14 d14] [Has tab 15 d15] [Has tab 16 d16] [Has tab 17 d17] [Has tab 18 d18] [Has tab 20 d20] [Has tab 21 d21] [Has tab 22 d22] [Has tab 23 d23] [H : Has tab 24 d24]
    {xs : List Int} (hx : xs.length ≤ 63) : ∃ s, callF tab 60 24 [.ro (dI xs)] = .ok (.val (.bool true), s) := by
  have key : Wp (callF tab (59 + 1) 24 [.ro (dI xs)]) (fun p => ∃ s, p = (.val (.bool true), s)) (fun _ _ _ => False) := by
    refine callW H rfl rfl ?_
    obtain ⟨l0, hs0, e0⟩ := random_ok (tab := tab) (k := 58) (m := 2401) hx (by decide)
    have r4 : rangeOk 4 = true := by decide
    simp -implicitDefEqProofs [d24, e0, r4]
    refine wp_loopR (A01 xs) ⟨l0, .un, .un, .un, hs0, .inl rfl, .inl rfl, rfl⟩ ?_ ?_
    · rintro i ρ _ _ ⟨l, x2, x3, x4, hs, hu, hu4, rfl⟩
      obtain ⟨m, l1, hm, hs1, e1⟩ := pick_int (tab := tab) (k := 57) (ms := [5, 12, 100]) hs (by simp) (by simp)
      have hm2 : 0 < m ∧ m ≤ 100 := by simp at hm; omega
      obtain ⟨b, l2, b0, b1, hs2, e2⟩ := below_ok (tab := tab) (k := 58) (m := m) hs1 hm2.1 (by omega)
      obtain ⟨o, l3, ho, hol, hs3, e3⟩ := order_ok (tab := tab) (k := 56) (n := 1 + b) hs2 (by omega) (by omega)
      have e4 := barred_ok (tab := tab) (k := 58) ho
      have e5 := bar_ok (tab := tab) (k := 54) ho
      have e6 := equal_bar (tab := tab) (k := 58) (barOf o)
      have e7 := is_row_ok (tab := tab) (k := 55) (.tuple (dI o))
      have hr : rowB (.tuple (dI o)) = (barOf o).isNone := by rw [rowB_dI]; unfold rowL; rw [ho]; rfl
      have hr2 : rowL o = (barOf o).isNone := by rw [← rowB_dI]; exact hr
      simp at e1
      have fin : ∀ {x2 : Slot} {d3 d4 : D}, A01 xs (i + 1) [.ro (dI xs), .own (.lst (dI l3)), x2, .val d3, .val d4, .un, .un, .un] := fun {x2 d3 d4} => ⟨l3, x2, _, _, hs3, .inr ⟨_, rfl⟩, .inr ⟨_, rfl⟩, rfl⟩
      cases hb : barOf o with
      | none =>
        rw [hb] at hr hr2 e4 e5 e6
        have e8 := refused_ok (tab := tab) (k := 52) (l := o) hr2
        have e9 := equal_bool (tab := tab) (k := 58) true
        simp only [barD] at e4 e5 e6
        simp -implicitDefEqProofs [e1, e2, e3, e4, e5, e6, e7, hr, e8, e9]
        exact fin
      | some n =>
        rw [hb] at hr hr2 e4 e5 e6
        have e8 := refused_no (tab := tab) (k := 52) (v := .tuple (dI o)) hr
        have e9 := equal_bool (tab := tab) (k := 58) false
        simp only [barD] at e4 e5 e6
        simp -implicitDefEqProofs [e1, e2, e3, e4, e5, e6, e7, hr, e8, e9]
        exact fin
    · rintro ρ ⟨l, x2, x3, x4, hs, hu, hu4, rfl⟩
      obtain ⟨v, l1, hv, hs1, e1⟩ := menu_ok (tab := tab) (k := 56) hs
      have hv2 : rowB v = false := by simpa using List.all_eq_true.mp menu20_no v hv
      have e2 := is_row_ok (tab := tab) (k := 55) v
      have e3 := refused_no (tab := tab) (k := 52) hv2
      have t0 := told24 (tab := tab) (v := .none) (by simp [menu24])
      have t1 := told24 (tab := tab) (v := .int 3) (by simp [menu24])
      have t2 := told24 (tab := tab) (v := .str ⟨#[48]⟩) (by simp [menu24])
      have t3 := told24 (tab := tab) (v := .list [.int 0]) (by simp [menu24])
      have t4 := told24 (tab := tab) (v := .tuple []) (by simp [menu24])
      have t5 := told24 (tab := tab) (v := .tuple [.int 1]) (by simp [menu24])
      have t6 := told24 (tab := tab) (v := .tuple [.int 0, .int 0]) (by simp [menu24])
      have t7 := told24 (tab := tab) (v := .tuple [.int (-1), .int 0]) (by simp [menu24])
      have t8 := told24 (tab := tab) (v := .tuple [.bool true, .int 0]) (by simp [menu24])
      have t9 := told24 (tab := tab) (v := .tuple [.int 1, .str ⟨#[48]⟩]) (by simp [menu24])
      have t10 := told24 (tab := tab) (v := .dict []) (by simp [menu24])
      have t11 := told24 (tab := tab) (v := .tuple (rangeL 0 101)) (by simp [menu24])
      have t12 := told24 (tab := tab) (v := .tuple [.int 0, .none]) (by simp [menu24])
      have r101 : rangeOk 101 = true := by decide
      have q3 : cmp .eq (.list []) (.list []) = some true := rfl
      simp -implicitDefEqProofs [e1, e2, hv2, e3, r101, q3, t0.1, t0.2, t1.1, t1.2, t2.1, t2.2, t3.1, t3.2, t4.1, t4.2, t5.1, t5.2, t6.1, t6.2, t7.1, t7.2, t8.1, t8.2, t9.1, t9.2, t10.1, t10.2, t11.1, t11.2, t12.1, t12.2]
  obtain ⟨p, e, s, rfl⟩ := key.okk
  exact ⟨s, e⟩
end Mlg
/-! Pl03: numbers of rows: power_of_two, how_many, kth, rows_of, all_rows. -/
namespace Mlg
open PySem (PyData Str)
variable {tab : Nat → Option Def}
/-- 2, so many times -/
def p2 (n : Nat) : Int := ((2 ^ n : Nat) : Int)
theorem p2_succ (n : Nat) : p2 (n + 1) = p2 n * 2 := by unfold p2; rw [Nat.pow_succ]; omega
theorem p2_zero : p2 0 = 1 := rfl
theorem p2_lt {n k : Nat} (h : k < 2 ^ n) : (k : Int) < p2 n := by unfold p2; omega
def PwI (m : Nat) (i : Int) (ρ : Env) : Prop := ∃ x, ρ = [.val (.int m), .val (.int (p2 i.toNat)), x]
theorem power_ok [H : Has tab 31 d31] {k m : Nat} (hm : m ≤ 1000) : callF tab (k + 1) 31 [.val (.int m)] = .ok (.val (.int (p2 m)), [.val (.int m)]) := by
  refine Wp.eq ?_
  refine callW H rfl rfl ?_
  have rg : rangeOk (m : Int) = true := rangeOk_of (by omega) (by omega)
  simp -implicitDefEqProofs [d31, rg]
  refine wp_loopR (PwI m) ⟨.un, rfl⟩ ?_ ?_
  · rintro i ρ i0 i1 ⟨x, rfl⟩
    obtain ⟨j, rfl⟩ : ∃ j : Nat, i = j := ⟨i.toNat, by omega⟩
    have e := (p2_succ j).symm
    rw [Int.toNat_natCast]
    simp -implicitDefEqProofs [e]
    exact ⟨_, by rw [show ((j : Int) + 1).toNat = j + 1 by omega]⟩
  · rintro ρ ⟨x, rfl⟩
    rw [show (max (0 : Int) (m : Int)).toNat = m by omega]
    simp -implicitDefEqProofs
section
variable [Has tab 0 d0] [Has tab 1 d1] [Has tab 25 d25]
theorem how_many_ok [Has tab 31 d31] [H : Has tab 32 d32] {k n : Nat} (h0 : 0 < n) (h1 : n ≤ 100) : callF tab (k + 4) 32 [.val (.int n)] = .ok (.val (.int (p2 (n - 1))), [.val (.int n)]) := by
  refine Wp.eq ?_
  refine callW H rfl rfl ?_
  have e1 := check_size_ok (tab := tab) (k := k) (.int n) 1 100
  have hf : fromB (.int n) 1 100 = true := by simp [fromB]; omega
  rw [hf, if_pos rfl] at e1
  have e2 := power_ok (tab := tab) (k := k + 2) (m := n - 1) (by omega)
  rw [show ((n - 1 : Nat) : Int) = (n : Int) - 1 by omega] at e2
  simp -implicitDefEqProofs [d32, e1, e2]
theorem how_many_no [H : Has tab 32 d32] {k : Nat} {v : D} (hv : fromB v 1 100 = false) : callF tab (k + 4) 32 [.val v] = .exc 1 .none [.val v] := by
  refine Wp.ex ?_
  refine callW H rfl rfl ?_
  have e1 := check_size_ok (tab := tab) (k := k) v 1 100
  rw [hv, if_neg Bool.false_ne_true] at e1
  simp -implicitDefEqProofs [d32, e1]
/-! ### kth -/
def K1 (n k0 m : Nat) (ρ : Env) : Prop := ∃ c k : Nat, c + m = n ∧ c < n ∧ k0 = sumC n c + k ∧ ρ = [.val (.int n), .val (.int k), .val (.int c), .un, .un, .un, .un]
def K2 (n : Nat) (r : List Int) (m : Nat) (ρ : Env) : Prop := ∃ (f s : List Int) (lo hi : Int) (k : Nat) (x2 x6 : Slot), f.length + m = n ∧ 0 ≤ lo ∧ lo ≤ hi ∧ hi < n ∧ (m : Int) = n - 1 - (hi - lo) ∧ (cpl n m lo hi)[k]? = some s ∧ r = f ++ s ∧ ρ = [.val (.int n), .val (.int k), x2, .own (.lst (dI f)), .val (.int lo), .val (.int hi), x6]
theorem sumC_lt {n c : Nat} (h : c < n) : sumC n (c + 1) ≤ sumC n n := by
  have mono : ∀ a b : Nat, a ≤ b → sumC n a ≤ sumC n b := fun a b h => by
    induction h with
    | refl => exact Nat.le_refl _
    | step _ ih => exact Nat.le_trans ih (by simp [sumC])
  exact mono _ _ h
theorem kth_ok [Has tab 9 d9] [Has tab 31 d31] [H : Has tab 33 d33] {k n k0 : Nat} {r : List Int} (h0 : 0 < n) (h1 : n ≤ 100) (hr : (rowsN n)[k0]? = some r) : callF tab (k + 4) 33 [.val (.int n), .val (.int k0)] = .ok (.val (.tuple (dI r)), [.val (.int n), .un]) := by
  refine Wp.eq ?_
  refine callW H rfl rfl ?_
  have e1 := check_size_ok (tab := tab) (k := k) (.int n) 1 100
  have hf : fromB (.int n) 1 100 = true := by simp [fromB]; omega
  rw [hf, if_pos rfl] at e1
  have hk : k0 < 2 ^ (n - 1) := by rw [← rowsN_full h0]; exact (List.getElem?_eq_some_iff.mp hr).1
  have hks : k0 < sumC n n := by rw [sumC_full h0]; exact hk
  have e2 := power_ok (tab := tab) (k := k + 2) (m := n - 1) (by omega)
  rw [show ((n - 1 : Nat) : Int) = (n : Int) - 1 by omega] at e2
  have e3 := is_from_ok (tab := tab) (k := k + 1) (.int k0) 0 (p2 (n - 1) - 1)
  have hf3 : fromB (.int k0) 0 (p2 (n - 1) - 1) = true := by simp [fromB]; have := p2_lt hk; omega
  rw [hf3] at e3
  clear hk
  simp -implicitDefEqProofs [d33, e1, e2, e3]
  refine wp_loopW (K1 n k0) n (by omega) ⟨0, k0, by omega, h0, by simp [sumC], rfl⟩ ?_
  rintro m ρ hm ⟨c, kk, q1, q2, q3, rfl⟩
  have ec := choose_ok (tab := tab) (k := k + 2) (n - 1) c (by omega) (by omega)
  rw [show ((n - 1 : Nat) : Int) = (n : Int) - 1 by omega] at ec
  have hs1 : sumC n (c + 1) = sumC n c + ch (n - 1) c := rfl
  have hle := sumC_lt (n := n) q2
  by_cases cc : ch (n - 1) c ≤ kk
  · have cc' : ((ch (n - 1) c : Nat) : Int) ≤ kk := by omega
    simp -implicitDefEqProofs [ec, cc', cc]
    refine ⟨by omega, c + 1, kk - ch (n - 1) c, by omega, ?_, by omega, ?_⟩
    · rcases Nat.lt_or_ge (c + 1) n with h | h
      · exact h
      · have : c + 1 = n := by omega
        rw [this] at hs1
        omega
    · rw [show ((kk - ch (n - 1) c : Nat) : Int) = (kk : Int) - ((ch (n - 1) c : Nat) : Int) by omega]
      simp
  · have cc' : ¬ ((ch (n - 1) c : Nat) : Int) ≤ kk := by omega
    have hkc : kk < ch (n - 1) c := by omega
    have hat := rowsN_at (n := n) q2 hkc
    rw [← q3, hr] at hat
    obtain ⟨s, hs, hrs⟩ := Option.map_eq_some_iff.mp hat.symm
    simp -implicitDefEqProofs [ec, cc', cc]
    refine wp_loopW (K2 n r) (n - 1) (by omega) ⟨[(c : Int)], s, c, c, kk, _, .un, by simp; omega, by omega, by omega, by omega, by omega, hs, hrs.symm, rfl⟩ ?_
    rintro m2 ρ2 hm2 ⟨f, s, lo, hi, k2, x2, x6, p1, p2, p3, p4, p5, p6, p7, rfl⟩
    rcases m2 with _ | m2
    · have : ¬ (f.length : Int) < n := by omega
      have hs0 : s = [] := by
        rcases k2 with _ | k2
        · cases p6; rfl
        · cases p6
      rw [hs0, List.append_nil] at p7
      simp -implicitDefEqProofs [this, p7]
    · have lt : (f.length : Int) < n := by omega
      have sm : small (dI f) = true := small_of (by rw [List.length_map]; omega)
      have em : (n : Int) - 1 - (f.length : Int) = (m2 : Int) := by omega
      replace p6 : ((if 0 < lo then (cpl n m2 (lo - 1) hi).map ((lo - 1) :: ·) else []) ++ (if hi < n - 1 then (cpl n m2 lo (hi + 1)).map ((hi + 1) :: ·) else []))[k2]? = some s := p6
      have up : ∀ {j : Nat} {x2 x6 : Slot}, (if hi < (n : Int) - 1 then (cpl n m2 lo (hi + 1)).map ((hi + 1) :: ·) else [])[j]? = some s → K2 n r m2 [.val (.int n), .val (.int j), x2, .own (.lst (dI f ++ [.int (hi + 1)])), .val (.int lo), .val (.int (hi + 1)), x6] := by
        intro j x2 x6 hj
        by_cases b : hi < (n : Int) - 1
        · rw [if_pos b, List.getElem?_map] at hj
          obtain ⟨s', g1, rfl⟩ := Option.map_eq_some_iff.mp hj
          exact ⟨f ++ [hi + 1], s', lo, hi + 1, j, x2, x6, by simp; omega, by omega, by omega, by omega, by omega, g1, by rw [p7]; simp, by simp⟩
        · rw [if_neg b] at hj; cases hj
      by_cases a : 0 < lo
      · rw [if_pos a] at p6
        have ec2 := choose_ok (tab := tab) (k := k + 2) m2 (lo.toNat - 1) (by omega) (by omega)
        rw [show ((lo.toNat - 1 : Nat) : Int) = lo - 1 by omega] at ec2
        have hl := cpl_len (n := n) m2 (lo := lo - 1) (hi := hi) (by omega) (by omega) (by omega)
        rw [show (lo - 1).toNat = lo.toNat - 1 by omega] at hl
        generalize hC : ch m2 (lo.toNat - 1) = C at *
        by_cases b : k2 < C
        · have b' : (k2 : Int) < (C : Int) := by omega
          rw [List.getElem?_append_left (by rw [List.length_map, hl]; exact b), List.getElem?_map] at p6
          obtain ⟨s', g1, rfl⟩ := Option.map_eq_some_iff.mp p6
          simp -implicitDefEqProofs [lt, a, em, ec2, b, b', sm]
          exact ⟨f ++ [lo - 1], s', lo - 1, hi, k2, _, _, by simp; omega, by omega, by omega, by omega, by omega, g1, by rw [p7]; simp, by simp; exact ⟨rfl, rfl⟩⟩
        · have b' : ¬ (k2 : Int) < (C : Int) := by omega
          rw [List.getElem?_append_right (by rw [List.length_map, hl]; omega), List.length_map, hl] at p6
          have fin := fun {x2 x6 : Slot} => up (x2 := x2) (x6 := x6) p6
          rw [show ((k2 - C : Nat) : Int) = (k2 : Int) - (C : Int) by omega] at fin
          simp -implicitDefEqProofs [lt, a, em, ec2, b, b', sm]
          exact fin
      · rw [if_neg a, List.nil_append] at p6
        have b' : ¬ (k2 : Int) < 0 := by omega
        have fin := fun {x2 x6 : Slot} => up (x2 := x2) (x6 := x6) p6
        simp -implicitDefEqProofs [lt, a, b', sm]
        exact fin
theorem kth_size [H : Has tab 33 d33] {k : Nat} {u v : D} (hv : fromB u 1 100 = false) : callF tab (k + 4) 33 [.val u, .val v] = .exc 1 .none [.val u, .un] := by
  refine Wp.ex ?_
  refine callW H rfl rfl ?_
  have e1 := check_size_ok (tab := tab) (k := k) u 1 100
  rw [hv, if_neg Bool.false_ne_true] at e1
  simp -implicitDefEqProofs [d33, e1]
theorem kth_no [Has tab 31 d31] [H : Has tab 33 d33] {k n : Nat} {v : D} (h0 : 0 < n) (h1 : n ≤ 100) (hv : fromB v 0 (p2 (n - 1) - 1) = false) : callF tab (k + 4) 33 [.val (.int n), .val v] = .exc 6 .none [.val (.int n), .un] := by
  refine Wp.ex ?_
  refine callW H rfl rfl ?_
  have e1 := check_size_ok (tab := tab) (k := k) (.int n) 1 100
  have hf : fromB (.int n) 1 100 = true := by simp [fromB]; omega
  rw [hf, if_pos rfl] at e1
  have e2 := power_ok (tab := tab) (k := k + 2) (m := n - 1) (by omega)
  rw [show ((n - 1 : Nat) : Int) = (n : Int) - 1 by omega] at e2
  have e3 := is_from_ok (tab := tab) (k := k + 1) v 0 (p2 (n - 1) - 1)
  rw [hv] at e3
  clear hv
  simp -implicitDefEqProofs [d33, e1, e2, e3]
end
/-! ### rows_of -/
def RmI (n : Nat) (s1 x3 : Slot) (ts : List Tr) (i : Nat) (ρ : Env) : Prop := ∃ x2 y, ρ = [.val (.int n), s1, x2, x3, .own (.lst (encT ((ts.take i).flatMap (extT n)))), y]
def roB : Ss := (.cons (.cond (.cmp .gt (.b1 .min (.var 5)) (.cst (.int 0)))
  (.cons (.exp (.app 4 (.tup (.star (.var 5) (.cons (.bin .sub (.b1 .min (.var 5)) (.cst (.int 1))) .nil)))))
  .nil)
  .nil)
  (.cons (.cond (.cmp .lt (.b1 .max (.var 5)) (.bin .sub (.var 0) (.cst (.int 1))))
  (.cons (.exp (.app 4 (.tup (.star (.var 5) (.cons (.bin .add (.b1 .max (.var 5)) (.cst (.int 1))) .nil)))))
  .nil)
  .nil)
  .nil))
theorem ro_mid {call : CallT} {n : Nat} {s1 x2 x3 x5 : Slot} {ts : List Tr} {Q : Env × Option R → Prop} {E : Nat → D → Env → Prop} (hts : ∀ t ∈ ts, Part t.1 t.2.1 t.2.2 ∧ 0 ≤ t.1 ∧ t.2.1 < n) (hn : n ≤ 1000) (hl : ts.length ≤ 100000)
    (hq : ∀ x y, Q ([.val (.int n), s1, x, x3, .own (.lst (encT (ts.flatMap (extT n)))), y], none)) :
    Wp (loopF (bodyF call 1 (.nm 5) roB) (encT ts) [.val (.int n), s1, x2, x3, .own (.lst []), x5]) Q E := by
  refine wp_loopF (RmI n s1 x3 ts) ⟨x2, x5, by simp [encT]⟩ ?_ ?_
  · rintro i d ρ hd ⟨x, y, rfl⟩
    obtain ⟨t, ht, rfl⟩ := encT_get hd
    obtain ⟨p1, p2, p3⟩ := hts t (List.mem_of_getElem? ht)
    have m1 := b1_min p1
    have m2 := b1_max p1
    have hlen := p1.len
    have e : (ts.take (i + 1)).flatMap (extT n) = (ts.take i).flatMap (extT n) ++ extT n t := by
      rw [List.take_succ, ht]
      simp
    have hb : ((ts.take i).flatMap (extT n)).length ≤ 200000 := by have := flat_len (n := n) (ts.take i); rw [List.length_take] at this; omega
    have fin : ∀ {l : List D} {x2 y : Slot}, l = encT ((ts.take i).flatMap (extT n)) ++ encT (extT n t) → RmI n s1 x3 ts (i + 1) [.val (.int n), s1, x2, x3, .own (.lst l), y] := fun {l x2 y} h => ⟨x2, y, by rw [h, e]; unfold encT; rw [List.map_append]⟩
    have sm : small (encT ((ts.take i).flatMap (extT n))) = true := small_of (by unfold encT; rw [List.length_map]; omega)
    have sm1 : ∀ d : D, small (encT ((ts.take i).flatMap (extT n)) ++ [d]) = true := fun d => small_of (by unfold encT; rw [List.length_append, List.length_map]; show _ + 1 < _; omega)
    have sm2 : ∀ d : D, small (dI t.2.2 ++ [d]) = true := fun d => small_of (by rw [List.length_append, List.length_map]; simp; omega)
    generalize hB : encT ((ts.take i).flatMap (extT n)) = B at *
    unfold roB
    by_cases a : 0 < t.1
    · by_cases b : t.2.1 < (n : Int) - 1
      · simp -implicitDefEqProofs [m1, m2, a, b, sm, sm1, sm2]
        exact fin (by unfold extT encT; simp [a, b])
      · simp -implicitDefEqProofs [m1, m2, a, b, sm, sm1, sm2]
        exact fin (by unfold extT encT; simp [a, b])
    · by_cases b : t.2.1 < (n : Int) - 1
      · simp -implicitDefEqProofs [m1, m2, a, b, sm, sm1, sm2]
        exact fin (by unfold extT encT; simp [a, b])
      · simp -implicitDefEqProofs [m1, m2, a, b, sm, sm1, sm2]
        exact fin (by unfold extT encT; simp [a, b])
  · rintro ρ ⟨x, y, rfl⟩
    have : (encT ts).length = ts.length := by simp [encT]
    rw [this, List.take_length]
    exact hq x y
theorem rows_of_ok [H : Has tab 34 d34] {k n : Nat} (h0 : 0 < n) (h1 : n ≤ 12) : callF tab (k + 1) 34 [.val (.int n)] = .ok (if n = 1 then .tmp (.lst ((rowsN n).map tD)) else .val (.list ((rowsN n).map tD)), [.val (.int n)]) := by
  refine Wp.eq ?_
  refine callW H rfl rfl ?_
  have rg : rangeOk (n : Int) = true := rangeOk_of (by omega) (by omega)
  have rg1 : rangeOk ((n : Int) - 1) = true := rangeOk_of (by omega) (by omega)
  have lc : loopC (lcT (callF tab k) (.tup (.cons (.var 2) .nil)) (.nm 2) .no [2]) (rangeL 0 n) [] [.val (.int n), .un, .un, .un, .un, .un] = .ok (encT (gen n 0), [.val (.int n), .un, .un, .un, .un, .un]) := by
    rw [rangeL_0]
    have e : encT (gen n 0) = (List.range n).map fun (j : Nat) => .tuple [.int (j : Int)] := by
      show ((List.range n).map _).map _ = _
      rw [List.map_map]
      rfl
    rw [e]
    exact loopC_mp _ _ (fun j _ => by simp -implicitDefEqProofs) (by simp; omega)
  simp -implicitDefEqProofs [d34, rg, rg1, lc]
  refine wp_loopR (fun i ρ => ∃ s1 x2 x3 x4 x5, ((i = 0 ∧ s1 = .own (.lst (encT (gen n i.toNat)))) ∨ (0 < i ∧ s1 = .val (.list (encT (gen n i.toNat))))) ∧ ρ = [.val (.int n), s1, x2, x3, x4, x5]) ⟨.own _, .un, .un, .un, .un, .inl ⟨rfl, rfl⟩, rfl⟩ ?_ ?_
  · rintro i ρ i0 i1 ⟨s1, x2, x3, x4, x5, hs, rfl⟩
    have hts : ∀ t ∈ gen n i.toNat, Part t.1 t.2.1 t.2.2 ∧ 0 ≤ t.1 ∧ t.2.1 < n := fun t ht => let ⟨a, b, c, _⟩ := gen_part ht; ⟨a, b, c⟩
    have hlen : (gen n i.toNat).length ≤ 100000 := by
      have := gen_len (n := n) i.toNat
      have h2 : 2 ^ i.toNat ≤ 2 ^ 12 := Nat.pow_le_pow_right (by decide) (by omega)
      have h3 : n * 2 ^ i.toNat ≤ 12 * 2 ^ 12 := Nat.mul_le_mul h1 h2
      omega
    have eg : encT ((gen n i.toNat).flatMap (extT n)) = encT (gen n (i + 1).toNat) := by
      rw [show (i + 1).toNat = i.toNat + 1 by omega]
      rfl
    rcases hs with ⟨_, rfl⟩ | ⟨_, rfl⟩
    · simp -implicitDefEqProofs
      refine ro_mid hts (by omega) hlen fun x y => ?_
      simp -implicitDefEqProofs [eg]
      exact by omega
    · simp -implicitDefEqProofs
      refine ro_mid hts (by omega) hlen fun x y => ?_
      simp -implicitDefEqProofs [eg]
      exact by omega
  · rintro ρ ⟨s1, x2, x3, x4, x5, hs, rfl⟩
    have em : (max (0 : Int) ((n : Int) - 1)).toNat = n - 1 := by omega
    rw [em] at hs
    have er : encT (gen n (n - 1)) = (rowsN n).map tD := by
      unfold encT rowsN
      rw [List.map_map]
      rfl
    rw [er] at hs
    rcases hs with ⟨z, rfl⟩ | ⟨z, rfl⟩
    · have : n = 1 := by omega
      simp -implicitDefEqProofs [this]
    · have : ¬ n = 1 := by omega
      simp -implicitDefEqProofs [this]
end Mlg
/-! Rw6: rows told by the places of their falls. -/
namespace Mlg
/-- the walk: a card below at the places that P tells, a card above elsewhere -/
def wlk (P : Nat → Bool) (c : Int) : Nat → Int × Int × List Int
  | 0 => (c, c, [c])
  | i + 1 => if P (i + 1) = true then ((wlk P c i).1 - 1, (wlk P c i).2.1, (wlk P c i).2.2 ++ [(wlk P c i).1 - 1]) else ((wlk P c i).1, (wlk P c i).2.1 + 1, (wlk P c i).2.2 ++ [(wlk P c i).2.1 + 1])
theorem wlk_part (P : Nat → Bool) (c : Int) : ∀ i, Part (wlk P c i).1 (wlk P c i).2.1 (wlk P c i).2.2
  | 0 => .one c
  | i + 1 => by
    have h := wlk_part P c i
    unfold wlk
    split
    · exact .dn h
    · exact .up h
theorem wlk_len (P : Nat → Bool) (c : Int) : ∀ i, (wlk P c i).2.2.length = i + 1
  | 0 => rfl
  | i + 1 => by
    have h := wlk_len P c i
    unfold wlk
    split <;> simp [h]
theorem wlk_congr {P P' : Nat → Bool} {c : Int} : ∀ {i : Nat}, (∀ j, 0 < j → j ≤ i → P j = P' j) → wlk P c i = wlk P' c i
  | 0, _ => rfl
  | i + 1, h => by
    have e := wlk_congr (c := c) (i := i) fun j h0 h1 => h j h0 (by omega)
    unfold wlk
    rw [e, h (i + 1) (by omega) (by omega)]
/-- how many of the first places -/
def cntP (P : Nat → Bool) : Nat → Nat
  | 0 => 0
  | i + 1 => cntP P i + if P (i + 1) = true then 1 else 0
theorem cntP_le (P : Nat → Bool) : ∀ i, cntP P i ≤ i
  | 0 => Nat.le_refl _
  | i + 1 => by have := cntP_le P i; unfold cntP; split <;> omega
theorem wlk_lo (P : Nat → Bool) (c : Int) : ∀ i, (wlk P c i).1 = c - cntP P i
  | 0 => by simp [wlk, cntP]
  | i + 1 => by
    have h := wlk_lo P c i
    unfold wlk cntP
    split
    · show (wlk P c i).1 - 1 = _; omega
    · show (wlk P c i).1 = _; omega
theorem wlk_hi (P : Nat → Bool) (c : Int) : ∀ i, (wlk P c i).2.1 = c + ((i : Int) - cntP P i)
  | 0 => by simp [wlk, cntP]
  | i + 1 => by
    have h := wlk_hi P c i
    unfold wlk cntP
    split
    · show (wlk P c i).2.1 = _; omega
    · show (wlk P c i).2.1 + 1 = _; omega
/-- a fall at a place -/
def fallsAt (l : List Int) (j : Nat) : Bool := match l[j]?, l[j - 1]? with
  | some x, some y => decide (x < y)
  | _, _ => false
theorem fallsAt_app {l m : List Int} {j : Nat} (h : j < l.length) : fallsAt (l ++ m) j = fallsAt l j := by
  unfold fallsAt
  rw [List.getElem?_append_left h, List.getElem?_append_left (by omega)]
theorem fallsAt_new {lo hi z : Int} {l : List Int} (h : Part lo hi l) : fallsAt (l ++ [z]) l.length = decide (z < (l.getLast h.ne)) := by
  unfold fallsAt
  have hp : 0 < l.length := List.length_pos_iff.mpr h.ne
  rw [List.getElem?_append_right (Nat.le_refl _), Nat.sub_self, List.getElem?_append_left (by omega), List.getLast_eq_getElem, List.getElem?_eq_getElem (show l.length - 1 < l.length by omega)]
  rfl
theorem fallsAt_dn {lo hi : Int} {l : List Int} (h : Part lo hi l) : fallsAt (l ++ [lo - 1]) l.length = true := by
  rw [fallsAt_new h]
  have := (h.mem (l.getLast h.ne)).mp (List.getLast_mem _)
  exact decide_eq_true (by omega)
theorem fallsAt_up {lo hi : Int} {l : List Int} (h : Part lo hi l) : fallsAt (l ++ [hi + 1]) l.length = false := by
  rw [fallsAt_new h]
  have := (h.mem (l.getLast h.ne)).mp (List.getLast_mem _)
  exact decide_eq_false (by omega)
/-- the walk falls where it is told to -/
theorem wlk_falls (P : Nat → Bool) (c : Int) : ∀ i j, 0 < j → j ≤ i → fallsAt (wlk P c i).2.2 j = P j
  | 0, j, h0, h1 => by omega
  | i + 1, j, h0, h1 => by
    have hl := wlk_len P c i
    have hp := wlk_part P c i
    by_cases e : j = i + 1
    · subst e
      unfold wlk
      split
      · rename_i q
        rw [q, ← hl]
        exact fallsAt_dn hp
      · rename_i q
        have q : P (i + 1) = false := by simpa using q
        rw [q, ← hl]
        exact fallsAt_up hp
    · have := wlk_falls P c i j h0 (by omega)
      unfold wlk
      split <;> (rw [← this]; exact fallsAt_app (by omega))
/-- a row is the walk by its falls -/
theorem Part.wlk {lo hi : Int} {l : List Int} (h : Part lo hi l) : ∃ c, l[0]? = some c ∧ Mlg.wlk (fallsAt l) c (l.length - 1) = (lo, hi, l) := by
  induction h with
  | one c => exact ⟨c, rfl, rfl⟩
  | @dn lo hi l h ih =>
    obtain ⟨c, h0, ih⟩ := ih
    have hp : 0 < l.length := List.length_pos_iff.mpr h.ne
    refine ⟨c, by rw [List.getElem?_append_left hp]; exact h0, ?_⟩
    have e1 : (l ++ [lo - 1]).length - 1 = (l.length - 1) + 1 := by simp; omega
    have e2 : Mlg.wlk (fallsAt (l ++ [lo - 1])) c (l.length - 1) = (lo, hi, l) := by
      rw [← ih]
      exact wlk_congr fun j _ h1 => fallsAt_app (by omega)
    rw [e1]
    unfold Mlg.wlk
    rw [e2, show l.length - 1 + 1 = l.length by omega, if_pos (fallsAt_dn h)]
  | @up lo hi l h ih =>
    obtain ⟨c, h0, ih⟩ := ih
    have hp : 0 < l.length := List.length_pos_iff.mpr h.ne
    refine ⟨c, by rw [List.getElem?_append_left hp]; exact h0, ?_⟩
    have e1 : (l ++ [hi + 1]).length - 1 = (l.length - 1) + 1 := by simp; omega
    have e2 : Mlg.wlk (fallsAt (l ++ [hi + 1])) c (l.length - 1) = (lo, hi, l) := by
      rw [← ih]
      exact wlk_congr fun j _ h1 => fallsAt_app (by omega)
    rw [e1]
    unfold Mlg.wlk
    rw [e2, show l.length - 1 + 1 = l.length by omega, if_neg (by rw [fallsAt_up h]; simp)]
/-- the row of n cards whose falls are at P -/
def rowP (P : Nat → Bool) (n : Nat) : List Int := (wlk P (cntP P (n - 1)) (n - 1)).2.2
theorem rowP_row {P : Nat → Bool} {n : Nat} (h0 : 0 < n) : IsRow n (rowP P n) := by
  have h := wlk_part P (cntP P (n - 1)) (n - 1)
  rw [wlk_lo, wlk_hi] at h
  unfold IsRow rowP
  have e1 : ((cntP P (n - 1) : Int)) - (cntP P (n - 1) : Int) = 0 := by omega
  have e2 : (cntP P (n - 1) : Int) + (((n - 1 : Nat) : Int) - (cntP P (n - 1) : Int)) = (n : Int) - 1 := by omega
  rw [e1, e2] at h
  exact h
theorem rowP_falls {P : Nat → Bool} {n j : Nat} (h0 : 0 < j) (h1 : j < n) : fallsAt (rowP P n) j = P j := wlk_falls P _ (n - 1) j h0 (by omega)
theorem IsRow.rowP {n : Nat} {r : List Int} (h : IsRow n r) (h0 : 0 < n) : Mlg.rowP (fallsAt r) n = r := by
  have hl := h.len
  obtain ⟨c, h1, e⟩ := Part.wlk h
  have e3 : r.length - 1 = n - 1 := by omega
  rw [e3] at e
  have lo := wlk_lo (fallsAt r) c (n - 1)
  rw [e] at lo
  have ec : c = (cntP (fallsAt r) (n - 1) : Nat) := by
    have lo : (0 : Int) = c - (cntP (fallsAt r) (n - 1) : Nat) := lo
    omega
  unfold Mlg.rowP
  rw [← ec, e]
theorem rowP_first {P : Nat → Bool} {n : Nat} : (rowP P n)[0]? = some (cntP P (n - 1) : Int) := by
  unfold rowP
  generalize n - 1 = m
  generalize (cntP P m : Int) = c
  induction m with
  | zero => rfl
  | succ m ih =>
    unfold wlk
    have := wlk_len P c m
    split <;> (show ((wlk P c m).2.2 ++ [_])[0]? = _; rw [List.getElem?_append_left (by omega)]; exact ih)
end Mlg
/-! Rw7: lists of places. -/
namespace Mlg
/-- the places from 1 on, below n, that P tells -/
def plP (P : Nat → Bool) (n : Nat) : List Int := ((List.range (n - 1)).filter fun j => P (j + 1)).map fun (j : Nat) => 1 + (j : Int)
theorem cntP_range (P : Nat → Bool) : ∀ m, ((List.range m).filter fun j => P (j + 1)).length = cntP P m
  | 0 => rfl
  | m + 1 => by
    rw [List.range_succ, List.filter_append, List.length_append, cntP_range P m]
    show _ = cntP P m + if P (m + 1) = true then 1 else 0
    by_cases h : P (m + 1) = true <;> simp [h]
theorem plP_len (P : Nat → Bool) (n : Nat) : (plP P n).length = cntP P (n - 1) := by unfold plP; rw [List.length_map, cntP_range]
theorem plP_mem {P : Nat → Bool} {n : Nat} {x : Int} : x ∈ plP P n ↔ ∃ j : Nat, 0 < j ∧ j < n ∧ P j = true ∧ x = j := by
  unfold plP
  simp only [List.mem_map, List.mem_filter, List.mem_range]
  constructor
  · rintro ⟨j, ⟨h1, h2⟩, rfl⟩
    exact ⟨j + 1, by omega, by omega, h2, by omega⟩
  · rintro ⟨j, h0, h1, h2, rfl⟩
    exact ⟨j - 1, ⟨by omega, by rw [show j - 1 + 1 = j by omega]; exact h2⟩, by omega⟩
theorem plP_has {P : Nat → Bool} {n i : Nat} (h0 : 0 < i) (h1 : i < n) : (plP P n).contains (i : Int) = P i := by
  rw [Bool.eq_iff_iff, List.contains_iff_mem, plP_mem]
  constructor
  · rintro ⟨j, _, _, h, e⟩
    rw [show i = j by omega]; exact h
  · exact fun h => ⟨i, h0, h1, h, rfl⟩
theorem plP_asc (P : Nat → Bool) (n : Nat) : (plP P n).Pairwise (· < ·) := by
  unfold plP
  rw [List.pairwise_map]
  exact ((List.pairwise_lt_range (n := n - 1)).filter _).imp fun h => by omega
theorem plP_congr {P P' : Nat → Bool} {n : Nat} (h : ∀ j, 0 < j → j < n → P j = P' j) : plP P n = plP P' n := by
  unfold plP
  congr 1
  refine List.filter_congr fun j hj => h (j + 1) (by omega) ?_
  have := List.mem_range.mp hj
  omega
/-- the places of a row's falls -/
def fpL (r : List Int) : List Int := plP (fallsAt r) r.length
theorem rowP_len {P : Nat → Bool} {n : Nat} (h0 : 0 < n) : (rowP P n).length = n := by have := (rowP_row (P := P) h0).len; omega
theorem fpL_rowP {P : Nat → Bool} {n : Nat} (h0 : 0 < n) : fpL (rowP P n) = plP P n := by
  unfold fpL
  rw [rowP_len h0]
  exact plP_congr fun j h1 h2 => rowP_falls h1 h2
theorem fpL_inj {n : Nat} {r s : List Int} (h0 : 0 < n) (hr : IsRow n r) (hs : IsRow n s) (e : fpL r = fpL s) : r = s := by
  have l1 : r.length = n := by have := hr.len; omega
  have l2 : s.length = n := by have := hs.len; omega
  have q : ∀ j, 0 < j → j < n → fallsAt r j = fallsAt s j := fun j h1 h2 => by
    have a := plP_has (P := fallsAt r) (n := n) h1 h2
    have b := plP_has (P := fallsAt s) (n := n) h1 h2
    unfold fpL at e
    rw [l1, l2] at e
    rw [← a, ← b, e]
  rw [← hr.rowP h0, ← hs.rowP h0]
  unfold rowP
  have c : cntP (fallsAt r) (n - 1) = cntP (fallsAt s) (n - 1) := by rw [← plP_len, ← plP_len, plP_congr q]
  rw [c, wlk_congr fun j h1 h2 => q j h1 (by omega)]
end Mlg
/-! Pl18: fall_places, are_places, row_with; the plain law of k18. -/
namespace Mlg
open PySem (PyData Str)
variable {tab : Nat → Option Def}
theorem fpL_eq {l : List Int} : ((fallsL l).map fun (j : Nat) => PyData.int (1 + j)) = dI (fpL l) := by
  unfold fpL plP dI fallsL
  rw [List.map_map]
  rfl
section
variable [Has tab 0 d0] [Has tab 1 d1] [Has tab 2 d2] [Has tab 4 d4] [Has tab 6 d6] [Has tab 7 d7]
/-! ### fall_places -/
theorem fall_places_ok [H : Has tab 111 d111] {k : Nat} {l : List Int} (h : rowL l = true) : callF tab (k + 6) 111 [.val (.tuple (dI l))] = .ok (.val (.tuple (dI (fpL l))), [.val (.tuple (dI l))]) := by
  refine Wp.eq ?_
  refine callW H rfl rfl ?_
  have e1 := check_row_ok (tab := tab) (k := k) (v := .tuple (dI l)) (by rw [rowB_dI]; exact h)
  have h1 := rowL_iff.mp h
  have h2 := falls_lc (call := callF tab (k + 5)) (ρ' := []) (Part.ne h1.2) (by omega)
  rw [fpL_eq] at h2
  have rg : rangeOk (l.length : Int) = true := rangeOk_of (by omega) (by omega)
  have rg1 : rangeOk 1 = true := by decide
  generalize fpL l = F at *
  simp -implicitDefEqProofs [d111, e1, h2, rg, rg1]
theorem fall_places_no [H : Has tab 111 d111] {k : Nat} {v : D} (h : rowB v = false) : callF tab (k + 6) 111 [.val v] = .exc 3 .none [.val v] := by
  refine Wp.ex ?_
  refine callW H rfl rfl ?_
  have e1 := check_row_no (tab := tab) (k := k) h
  simp -implicitDefEqProofs [d111, e1]
end
/-! ### are_places -/
def ascAt (l : List Int) (j : Nat) : Bool := match l[j]?, l[j + 1]? with
  | some a, some b => decide (a < b)
  | _, _ => false
def ascL (l : List Int) : Bool := (List.range (l.length - 1)).all (ascAt l)
def plcB (n : Int) : D → Bool
  | .tuple ds => (ds.all fun d => fromB d 1 (n - 1)) && (match intsD ds with | some l => ascL l | none => false)
  | _ => false
theorem plcB_tup (n : Int) (ds : List D) : plcB n (.tuple ds) = ((ds.all fun d => fromB d 1 (n - 1)) && (match intsD ds with | some l => ascL l | none => false)) := rfl
theorem are_places_ok [Has tab 0 d0] [Has tab 1 d1] [H : Has tab 112 d112] {k : Nat} {n : Int} (v : D) (hv : ∀ ds, v = .tuple ds → ds.length ≤ 1000) : callF tab (k + 3) 112 [.val (.int n), .val v] = .ok (.val (.bool (plcB n v)), [.val (.int n), .val v]) := by
  refine Wp.eq ?_
  refine callW H rfl rfl ?_
  cases v with
  | tuple ds =>
    have hv := hv ds rfl
    have lc : loopC (lcT (callF tab (k + 2)) (.call 1 (.cons (.var 2) (.cons (.cst (.int 1)) (.cons (.bin .sub (.var 0) (.cst (.int 1))) .nil)))) (.nm 2) .no [2]) (ds.map id) [] [.val (.int n), .val (.tuple ds), .un, .un] = .ok (ds.map fun d => .bool (fromB d 1 (n - 1)), [.val (.int n), .val (.tuple ds), .un, .un]) := by
      refine loopC_mp id (fun d => .bool (fromB d 1 (n - 1))) (fun d _ => ?_) (by omega)
      have e := is_from_ok (tab := tab) (k := k) d 1 (n - 1)
      simp -implicitDefEqProofs [e]
    rw [List.map_id] at lc
    have hall : b1 .all (.list (ds.map fun d => .bool (fromB d 1 (n - 1)))) = some (.val (.bool (ds.all fun d => fromB d 1 (n - 1)))) := by
      show (bools _).map _ = _
      rw [bools_map]
      simp only [Option.map_some]
      rw [List.all_map]
      rfl
    cases ha : ds.all (fun d => fromB d 1 (n - 1)) with
    | false =>
      have hp : plcB n (.tuple ds) = false := by rw [plcB_tup, ha]; rfl
      simp -implicitDefEqProofs [d112, lc, hall, ha, hp]
    | true =>
      obtain ⟨l, rfl, hl⟩ := all_from ha
      have hp : plcB n (.tuple (dI l)) = ascL l := by rw [plcB_tup, ha, intsD_dI]; rfl
      have hlen : l.length ≤ 1000 := by rw [List.length_map] at hv; exact hv
      have rg : rangeOk ((l.length : Int) - 1) = true := rangeOk_of (by omega) (by omega)
      have er : rangeL 0 ((l.length : Int) - 1) = (List.range (l.length - 1)).map fun (j : Nat) => .int (j : Int) := by
        by_cases h0 : 0 < l.length
        · rw [show (l.length : Int) - 1 = ((l.length - 1 : Nat) : Int) by omega, rangeL_0]
        · rw [show l.length = 0 by omega]; rfl
      have lc2 : loopC (lcT (callF tab (k + 2)) (.cmp .lt (.ix (.var 1) (.var 3)) (.ix (.var 1) (.bin .add (.var 3) (.cst (.int 1))))) (.nm 3) .no [3]) (rangeL 0 ((l.length : Int) - 1)) [] [.val (.int n), .val (.tuple (dI l)), .un, .un] = .ok ((List.range (l.length - 1)).map fun j => .bool (ascAt l j), [.val (.int n), .val (.tuple (dI l)), .un, .un]) := by
        rw [er]
        refine loopC_mp _ _ (fun j hj => ?_) (by simp; omega)
        have hj := List.mem_range.mp hj
        have p1 : place l.length (j : Int) = some j := by rw [place_nn (by omega) (by omega)]; congr 1
        have p2 : place l.length ((j : Int) + 1) = some (j + 1) := by rw [place_nn (by omega) (by omega)]; congr 1
        obtain ⟨a, g1⟩ := get_at (l := l) (j := j) (by omega)
        obtain ⟨b, g2⟩ := get_at (l := l) (j := j + 1) (by omega)
        simp -implicitDefEqProofs [p1, p2, g1, g2, ascAt]
      have hall2 : b1 .all (.list ((List.range (l.length - 1)).map fun j => .bool (ascAt l j))) = some (.val (.bool (ascL l))) := by
        show (bools _).map _ = _
        rw [bools_map]
        simp only [Option.map_some]
        rw [List.all_map]
        rfl
      obtain ⟨B, hB⟩ : ∃ B : List D, B = (dI l).map fun d => .bool (fromB d 1 (n - 1)) := ⟨_, rfl⟩
      obtain ⟨B2, hB2⟩ : ∃ B : List D, B = (List.range (l.length - 1)).map fun j => .bool (ascAt l j) := ⟨_, rfl⟩
      rw [← hB] at lc hall
      rw [← hB2] at lc2 hall2
      rw [ha] at hall
      simp -implicitDefEqProofs [d112, lc, hall, hp, rg, lc2, hall2]
  | none => simp -implicitDefEqProofs [d112, isTy, plcB]
  | bool _ => simp -implicitDefEqProofs [d112, isTy, plcB]
  | int _ => simp -implicitDefEqProofs [d112, isTy, plcB]
  | str _ => simp -implicitDefEqProofs [d112, isTy, plcB]
  | list _ => simp -implicitDefEqProofs [d112, isTy, plcB]
  | dict _ => simp -implicitDefEqProofs [d112, isTy, plcB]
theorem plcB_plP {P : Nat → Bool} {n : Nat} : plcB n (.tuple (dI (plP P n))) = true := by
  rw [plcB_tup, intsD_dI, from_all (fun x hx => by obtain ⟨j, h0, h1, _, rfl⟩ := plP_mem.mp hx; omega)]
  show ascL _ = true
  unfold ascL
  rw [List.all_eq_true]
  intro j hj
  have hj := List.mem_range.mp hj
  unfold ascAt
  rw [List.getElem?_eq_getElem (show j < _ by omega), List.getElem?_eq_getElem (show j + 1 < _ by omega)]
  exact decide_eq_true (List.pairwise_iff_getElem.mp (plP_asc P n) j (j + 1) (by omega) (by omega) (by omega))
/-! ### row_with -/
def RwI (P : Nat → Bool) (n : Nat) (i : Int) (ρ : Env) : Prop := ∃ x, ρ = [.val (.int n), .val (.tuple (dI (plP P n))), .val (.int (wlk P (cntP P (n - 1)) (i - 1).toNat).1), .val (.int (wlk P (cntP P (n - 1)) (i - 1).toNat).2.1), .own (.lst (dI (wlk P (cntP P (n - 1)) (i - 1).toNat).2.2)), x]
section
variable [Has tab 0 d0] [Has tab 1 d1] [Has tab 25 d25] [Has tab 112 d112]
theorem row_with_ok [H : Has tab 113 d113] {k n : Nat} {P : Nat → Bool} (h0 : 0 < n) (h1 : n ≤ 100) : callF tab (k + 4) 113 [.val (.int n), .val (.tuple (dI (plP P n)))] = .ok (.val (.tuple (dI (rowP P n))), [.val (.int n), .val (.tuple (dI (plP P n)))]) := by
  refine Wp.eq ?_
  refine callW H rfl rfl ?_
  have hl := plP_len P n
  have hl2 := cntP_le P (n - 1)
  have e1 := check_size_ok (tab := tab) (k := k) (.int n) 1 100
  have hf : fromB (.int n) 1 100 = true := by simp [fromB]; omega
  rw [hf, if_pos rfl] at e1
  have e2 := are_places_ok (tab := tab) (k := k) (n := n) (.tuple (dI (plP P n))) (by rintro ds h; cases h; rw [List.length_map]; omega)
  rw [plcB_plP] at e2
  have rg : rangeOk (n : Int) = true := rangeOk_of (by omega) (by omega)
  have rg1 : rangeOk 1 = true := by decide
  have hin : ∀ i : Nat, 0 < i → i < n → cmp .inn (.int i) (.tuple (dI (plP P n))) = some (P i) := fun i a b => by
    show (intsD (dI (plP P n))).map _ = _
    rw [intsD_dI]
    exact congrArg some (plP_has a b)
  generalize hG : plP P n = G at *
  simp -implicitDefEqProofs [d113, e1, e2, rg, rg1, hl]
  refine wp_loopR (RwI P n) ⟨.un, by rw [hG]; rfl⟩ ?_ ?_
  · rintro i ρ i0 i1 ⟨x, rfl⟩
    obtain ⟨j, rfl⟩ : ∃ j : Nat, i = (j : Int) + 1 := ⟨(i - 1).toNat, by omega⟩
    have ej : ((j : Int) + 1 - 1).toNat = j := by omega
    have ej2 : ((j : Int) + 1 + 1 - 1).toNat = j + 1 := by omega
    have hc := hin (j + 1) (by omega) (by omega)
    rw [show ((j + 1 : Nat) : Int) = (j : Int) + 1 by omega] at hc
    have hlen := wlk_len P (cntP P (n - 1)) j
    rw [ej, hG]
    unfold RwI
    rw [ej2, hG]
    generalize hw : wlk P (cntP P (n - 1)) j = w at *
    obtain ⟨lo, hi, l⟩ := w
    have step : wlk P (cntP P (n - 1)) (j + 1) = if P (j + 1) = true then (lo - 1, hi, l ++ [lo - 1]) else (lo, hi + 1, l ++ [hi + 1]) := by
      show (if P (j + 1) = true then _ else _) = _
      rw [hw]
    rw [step]
    have sm : small (dI l) = true := small_of (by have hlen : l.length = j + 1 := hlen; rw [List.length_map]; omega)
    by_cases q : P (j + 1) = true
    · simp -implicitDefEqProofs [hc, q, sm]
    · simp -implicitDefEqProofs [hc, q, sm]
  · rintro ρ ⟨x, rfl⟩
    have em : (max 1 (n : Int) - 1).toNat = n - 1 := by omega
    rw [em, hG]
    have er : rowP P n = (wlk P (cntP P (n - 1)) (n - 1)).2.2 := rfl
    rw [← er]
    generalize rowP P n = R
    simp -implicitDefEqProofs
theorem row_with_size [H : Has tab 113 d113] {k : Nat} {u v : D} (hv : fromB u 1 100 = false) : callF tab (k + 4) 113 [.val u, .val v] = .exc 1 .none [.val u, .val v] := by
  refine Wp.ex ?_
  refine callW H rfl rfl ?_
  have e1 := check_size_ok (tab := tab) (k := k) u 1 100
  rw [hv, if_neg Bool.false_ne_true] at e1
  simp -implicitDefEqProofs [d113, e1]
theorem row_with_no [H : Has tab 113 d113] {k n : Nat} {v : D} (h0 : 0 < n) (h1 : n ≤ 100) (hv : ∀ ds, v = .tuple ds → ds.length ≤ 1000) (hp : plcB n v = false) : callF tab (k + 4) 113 [.val (.int n), .val v] = .exc 10 .none [.val (.int n), .val v] := by
  refine Wp.ex ?_
  refine callW H rfl rfl ?_
  have e1 := check_size_ok (tab := tab) (k := k) (.int n) 1 100
  have hf : fromB (.int n) 1 100 = true := by simp [fromB]; omega
  rw [hf, if_pos rfl] at e1
  have e2 := are_places_ok (tab := tab) (k := k) (n := n) v hv
  simp -implicitDefEqProofs [d113, e1, e2, hp]
end
end Mlg
/-! Pl18b: helpers for the law of k18. -/
namespace Mlg
open PySem (PyData Str)
variable {tab : Nat → Option Def}
/-- a comprehension that hands a state on: what it gives is a part of what it looks at -/
theorem loopC_sub {σ : Type} {turn : D → Env → Res (Option D × Env)} (S : σ → Prop) (env : σ → Env) (step : ∀ (x : Int) (a : σ), S a → ∃ (b : Bool) (a' : σ), S a' ∧ turn (.int x) (env a) = .ok (if b = true then some (.int x) else none, env a')) :
    ∀ (xs acc : List Int) (a : σ), S a → acc.length + xs.length ≤ 1000 → ∃ (ys : List Int) (a' : σ), ys.Sublist xs ∧ S a' ∧ loopC turn (dI xs) (dI acc) (env a) = .ok (dI (acc ++ ys), env a')
  | [], acc, a, hs, _ => ⟨[], a, List.Sublist.refl _, hs, by rw [List.append_nil]; rfl⟩
  | x :: xs, acc, a, hs, hl => by
    obtain ⟨b, a1, hs1, e⟩ := step x a hs
    rw [List.length_cons] at hl
    cases b with
    | true =>
      obtain ⟨ys, a2, h1, h2, h3⟩ := loopC_sub S env step xs (acc ++ [x]) a1 hs1 (by simp; omega)
      refine ⟨x :: ys, a2, h1.cons₂ x, h2, ?_⟩
      show loopC turn (.int x :: dI xs) (dI acc) (env a) = _
      unfold loopC
      rw [e, if_pos rfl]
      dsimp only
      rw [if_pos (small_of (by rw [List.length_map]; omega))]
      rw [show dI acc ++ [.int x] = dI (acc ++ [x]) by simp, h3]
      simp
    | false =>
      obtain ⟨ys, a2, h1, h2, h3⟩ := loopC_sub S env step xs acc a1 hs1 (by omega)
      refine ⟨ys, a2, h1.cons x, h2, ?_⟩
      show loopC turn (.int x :: dI xs) (dI acc) (env a) = _
      unfold loopC
      rw [e, if_neg Bool.false_ne_true]
      exact h3
theorem sub_plP {n : Nat} {ys : List Int} (h : ys.Sublist (fromI 1 (n - 1))) : ys = plP (fun j => ys.contains (j : Int)) n := by
  have hp := (fromI_lt 1 (n - 1)).sublist h
  refine sort_one ?_ (hp.imp fun h => by omega) ((plP_asc _ n).imp fun h => by omega)
  rw [List.perm_ext_iff_of_nodup (hp.imp fun h => by omega) ((plP_asc _ n).imp fun h => by omega)]
  intro x
  rw [plP_mem]
  constructor
  · intro hx
    have := fromI_mem.mp (h.subset hx)
    refine ⟨x.toNat, by omega, by omega, ?_, by omega⟩
    rw [show ((x.toNat : Nat) : Int) = x by omega]
    exact List.contains_iff_mem.mpr hx
  · rintro ⟨j, _, _, hj, rfl⟩
    exact List.contains_iff_mem.mp hj
theorem shpAll_rows : ∀ ls : List (List Int), shpAll 7 (ls.map tD) = true
  | [] => rfl
  | l :: ls => by
    show (shp 7 (tD l) && shpAll 7 (ls.map tD)) = true
    rw [shpAll_rows ls, Bool.and_true]
    exact shpAll_ints 6 l
theorem eqvAll_rows : ∀ ls : List (List Int), eqvAll (ls.map tD) (ls.map tD) = true
  | [] => rfl
  | l :: ls => by
    show (eqv (tD l) (tD l) && eqvAll (ls.map tD) (ls.map tD)) = true
    rw [eqvAll_rows ls, Bool.and_true]
    show eqvAll (dI l) (dI l) = true
    rw [eqvAll_dI]
    simp
theorem ne_rows (ls : List (List Int)) : cmp .ne (.list (ls.map tD)) (.list (ls.map tD)) = some false := by
  rw [cmp_ne]
  have h1 : shp 8 (.list (ls.map tD)) = true := shpAll_rows ls
  rw [h1]
  exact congrArg (fun b => some (!b)) (eqvAll_rows ls)
theorem ne_tup (a b : List Int) : cmp .ne (.tuple (dI a)) (.tuple (dI b)) = some (!decide (a = b)) := by
  rw [cmp_ne]
  have h1 : ∀ l : List Int, shp 8 (.tuple (dI l)) = true := fun l => shpAll_ints 7 l
  rw [h1, h1]
  exact congrArg (fun b => some (!b)) (eqvAll_dI a b)
theorem tupsD_rows : ∀ ls : List (List Int), tupsD (ls.map tD) = some ls
  | [] => rfl
  | l :: ls => by
    show (intsD (dI l)).bind (fun is => (tupsD (ls.map tD)).map (is :: ·)) = _
    rw [intsD_dI, tupsD_rows ls]
    rfl
theorem dedupL_go : ∀ (xs acc : List (List Int)), (acc ++ xs).Nodup → xs.foldl oneMoreT acc = acc ++ xs
  | [], acc, _ => by simp
  | x :: xs, acc, h => by
    have hx : x ∉ acc := by
      intro hx
      exact (List.nodup_append.mp h).2.2 x hx x List.mem_cons_self rfl
    rw [List.foldl_cons]
    have e : oneMoreT acc x = acc ++ [x] := if_neg hx
    rw [e, dedupL_go xs (acc ++ [x]) (by simpa using h)]
    simp
theorem ls_rows {ls : List (List Int)} (h0 : ls ≠ []) (h : ls.Nodup) (hl : ls.length < 64) : b1 .lenset (.list (ls.map tD)) = some (.val (.int ls.length)) := by
  show (((some (ls.map tD)).bind intsD).bind _).or (lsT _) = _
  have e : intsD (ls.map tD) = none := by
    obtain ⟨a, r, rfl⟩ := List.exists_cons_of_ne_nil h0
    rfl
  rw [Option.bind_some, e]
  show lsT (.list (ls.map tD)) = _
  show (tupsD (ls.map tD)).bind _ = _
  rw [tupsD_rows]
  show (if ls.length < 64 then some (R.val (.int (dedupL ls).length)) else none) = _
  rw [if_pos hl]
  have : dedupL ls = ls := by unfold dedupL; have := dedupL_go ls [] (by simpa using h); simpa using this
  rw [this]
/-! ### _law_word -/
section
variable [Has tab 0 d0] [Has tab 1 d1] [Has tab 2 d2] [Has tab 4 d4] [Has tab 6 d6] [Has tab 7 d7] [Has tab 25 d25] [Has tab 111 d111] [Has tab 112 d112] [Has tab 113 d113]
theorem q_rr : cmp .eq (.str ⟨#[114, 111, 119]⟩) (.str ⟨#[114, 111, 119]⟩) = some true := rfl
theorem q_fr : cmp .eq (.str ⟨#[102, 97, 108, 108, 115]⟩) (.str ⟨#[114, 111, 119]⟩) = some false := rfl
theorem word_size [H : Has tab 114 d114] {k : Nat} {u v : D} (hv : fromB u 1 100 = false) : callF tab (k + 5) 114 [.val (.str ⟨#[114, 111, 119]⟩), .val u, .val v] = .ok (.val (.str ⟨#[115, 105, 122, 101]⟩), [.val (.str ⟨#[114, 111, 119]⟩), .val u, .val v]) := by
  refine Wp.eq ?_
  refine callW H rfl rfl ?_
  have e1 := row_with_size (tab := tab) (k := k) (v := v) hv
  simp -implicitDefEqProofs [d114, e1, q_rr]
theorem word_places [H : Has tab 114 d114] {k n : Nat} {v : D} (h0 : 0 < n) (h1 : n ≤ 100) (hv : ∀ ds, v = .tuple ds → ds.length ≤ 1000) (hp : plcB n v = false) : callF tab (k + 5) 114 [.val (.str ⟨#[114, 111, 119]⟩), .val (.int n), .val v] = .ok (.val (.str ⟨#[112, 108, 97, 99, 101, 115]⟩), [.val (.str ⟨#[114, 111, 119]⟩), .val (.int n), .val v]) := by
  refine Wp.eq ?_
  refine callW H rfl rfl ?_
  have e1 := row_with_no (tab := tab) (k := k) h0 h1 hv hp
  simp -implicitDefEqProofs [d114, e1, q_rr]
theorem word_row [H : Has tab 114 d114] {k : Nat} {v : D} (hv : rowB v = false) : callF tab (k + 7) 114 [.val (.str ⟨#[102, 97, 108, 108, 115]⟩), .val .none, .val v] = .ok (.val (.str ⟨#[114, 111, 119]⟩), [.val (.str ⟨#[102, 97, 108, 108, 115]⟩), .val .none, .val v]) := by
  refine Wp.eq ?_
  refine callW H rfl rfl ?_
  have e1 := fall_places_no (tab := tab) (k := k) hv
  simp -implicitDefEqProofs [d114, e1, q_fr]
end
/-! ### the comprehensions of the law -/
theorem fl_lc {call : CallT} {r : List Int} {a b c e g h i j m : Slot} (h1 : r ≠ []) (h2 : r.length ≤ 1000) :
    loopC (lcT call (.var 5) (.nm 5) (.so (.cmp .lt (.ix (.var 3) (.var 5)) (.ix (.var 3) (.bin .sub (.var 5) (.cst (.int 1)))))) [5]) (rangeL 1 (r.length : Int)) [] [a, b, c, .val (.tuple (dI r)), e, .un, g, h, i, j, m] = .ok (dI (fpL r), [a, b, c, .val (.tuple (dI r)), e, .un, g, h, i, j, m]) := by
  rw [← fpL_eq]
  have hp : 0 < r.length := List.length_pos_iff.mpr h1
  have e : (r.length : Int) = 1 + ((r.length - 1 : Nat) : Int) := by omega
  rw [e, rangeL_nat]
  refine loopC_fm _ _ _ (fun j hj => ?_) (by simp; omega)
  have hj : j < r.length - 1 := List.mem_range.mp hj
  have p1 : place r.length (1 + (j : Int)) = some (j + 1) := by rw [place_nn (by omega) (by omega)]; congr 1; omega
  have p2 : place r.length (1 + (j : Int) - 1) = some j := by rw [place_nn (by omega) (by omega)]; congr 1; omega
  obtain ⟨a, g1⟩ := get_at (l := r) (j := j + 1) (by omega)
  obtain ⟨b, g2⟩ := get_at (l := r) (j := j) (by omega)
  by_cases c : a < b <;> simp -implicitDefEqProofs [p1, p2, g1, g2, c, fallAt]
theorem draw_lc [Has tab 14 d14] {k n : Nat} {l : List Int} {a c d e g h i j m : Slot} (hs : Src l) (h0 : 0 < n) (h1 : n ≤ 100) :
    ∃ (P : Nat → Bool) (l' : List Int), Src l' ∧ loopC (lcT (callF tab (k + 1)) (.var 5) (.nm 5) (.so (.cmp .eq (.call 14 (.cons (.var 1) (.cons (.cst (.int 3)) .nil))) (.cst (.int 0)))) [5]) (rangeL 1 (n : Int)) [] [a, .own (.lst (dI l)), c, d, e, .un, g, h, i, j, m] = .ok (dI (plP P n), [a, .own (.lst (dI l')), c, d, e, .un, g, h, i, j, m]) := by
  obtain ⟨ys, l', hsub, hs', e⟩ := loopC_sub (turn := lcT (callF tab (k + 1)) (.var 5) (.nm 5) (.so (.cmp .eq (.call 14 (.cons (.var 1) (.cons (.cst (.int 3)) .nil))) (.cst (.int 0)))) [5]) Src (fun l => [a, .own (.lst (dI l)), c, d, e, .un, g, h, i, j, m]) (fun x l hl => by
    obtain ⟨b, l1, b0, b1, hs1, e1⟩ := below_ok (tab := tab) (k := k) (m := 3) hl (by decide) (by decide)
    refine ⟨decide (b = 0), l1, hs1, ?_⟩
    refine Wp.eq ?_
    by_cases q : b = 0
    · subst q
      simp -implicitDefEqProofs [e1]
    · simp -implicitDefEqProofs [e1, q]) (fromI 1 (n - 1)) [] l hs (by rw [fromI_len]; simp; omega)
  refine ⟨fun j => ys.contains (j : Int), l', hs', ?_⟩
  rw [← sub_plP hsub]
  have er : rangeL 1 (n : Int) = dI (fromI 1 (n - 1)) := by
    rw [← rangeL_from, show (1 : Int) + ((n - 1 : Nat) : Int) = n by omega]
  rw [er]
  simpa using e
theorem rowsN_len {n : Nat} : (rowsN n).length ≤ n * 2 ^ (n - 1) := by
  unfold rowsN
  rw [List.length_map]
  exact gen_len (n := n) (n - 1)
theorem rowsN_few : ((List.range 7).all fun n => decide ((rowsN n).length < 64)) = true := by decide +kernel
theorem rowsN_nodup (n : Nat) : (rowsN n).Nodup := (rowsN_sorted n).imp fun h e => by
  subst e
  have := ltL_asymm h
  rw [this] at h
  cases h
theorem row_of {n : Nat} {r : List Int} (h : IsRow n r) (h1 : n ≤ 100) : rowL r = true := rowL_iff.mpr ⟨by have := h.len; omega, by rw [h.len]; exact h⟩
section
variable [Has tab 0 d0] [Has tab 1 d1] [Has tab 2 d2] [Has tab 4 d4] [Has tab 6 d6] [Has tab 7 d7] [Has tab 25 d25] [Has tab 111 d111] [Has tab 112 d112] [Has tab 113 d113]
theorem back_ok {k n : Nat} {r : List Int} (h : IsRow n r) (h0 : 0 < n) (h1 : n ≤ 100) : callF tab (k + 4) 113 [.val (.int n), .val (.tuple (dI (fpL r)))] = .ok (.val (.tuple (dI r)), [.val (.int n), .val (.tuple (dI (fpL r)))]) := by
  have e := row_with_ok (tab := tab) (k := k) (n := n) (P := fallsAt r) h0 h1
  rw [h.rowP h0] at e
  have hl : r.length = n := by have := h.len; omega
  have : fpL r = plP (fallsAt r) n := by unfold fpL; rw [hl]
  rw [this]
  exact e
theorem few1_lc {k n : Nat} {a b c d e f g h i m : Slot} (h0 : 0 < n) (h1 : n ≤ 6) :
    loopC (lcT (callF tab (k + 6)) (.call 113 (.cons (.var 8) (.cons (.call 111 (.cons (.var 9) .nil)) .nil))) (.nm 9) .no [9]) ((rowsN n).map tD) [] [a, b, c, d, e, f, g, h, .val (.int n), .un, m] = .ok ((rowsN n).map tD, [a, b, c, d, e, f, g, h, .val (.int n), .un, m]) := by
  refine loopC_mp tD tD (fun r hr => ?_) ?_
  · have hr2 := (mem_rowsN h0).mp hr
    have e1 := fall_places_ok (tab := tab) (k := k) (row_of hr2 (by omega))
    have e2 := back_ok (tab := tab) (k := k + 2) hr2 h0 (by omega)
    simp -implicitDefEqProofs [e1, e2]
  · have := of_decide_eq_true (List.all_eq_true.mp rowsN_few n (List.mem_range.mpr (by omega)))
    omega
theorem few2_lc {k n : Nat} {a b c d e f g h i m : Slot} (h0 : 0 < n) (h1 : n ≤ 6) :
    loopC (lcT (callF tab (k + 6)) (.call 111 (.cons (.var 9) .nil)) (.nm 9) .no [9]) ((rowsN n).map tD) [] [a, b, c, d, e, f, g, h, .val (.int n), .un, m] = .ok (((rowsN n).map fpL).map tD, [a, b, c, d, e, f, g, h, .val (.int n), .un, m]) := by
  rw [List.map_map]
  refine loopC_mp tD (tD ∘ fpL) (fun r hr => ?_) ?_
  · have hr2 := (mem_rowsN h0).mp hr
    have e1 := fall_places_ok (tab := tab) (k := k) (row_of hr2 (by omega))
    simp -implicitDefEqProofs [e1]
  · have := of_decide_eq_true (List.all_eq_true.mp rowsN_few n (List.mem_range.mpr (by omega)))
    omega
end
theorem rowsN_ne {n : Nat} (h0 : 0 < n) : rowsN n ≠ [] := by
  intro e
  have := (mem_rowsN h0).mpr (rowP_row (P := fun _ => false) h0)
  rw [e] at this
  cases this
theorem fps_nodup {n : Nat} (h0 : 0 < n) : ((rowsN n).map fpL).Nodup := by
  show List.Pairwise _ _
  rw [List.pairwise_map]
  have := rowsN_nodup n
  refine List.Pairwise.imp_of_mem (fun {a b} ha hb h e => ?_) this
  exact h (fpL_inj h0 ((mem_rowsN h0).mp ha) ((mem_rowsN h0).mp hb) e)
end Mlg
/-! Rw8: cuts and runnings together. -/
namespace Mlg
/-- the row of a running together, from low and high -/
def mkGo : Int → Int → List Bool → List Int
  | _, _, [] => []
  | lo, hi, b :: r => if b = true then (lo - 1) :: mkGo (lo - 1) hi r else (hi + 1) :: mkGo lo (hi + 1) r
def dnI : Nat → List Int
  | 0 => []
  | k + 1 => (k : Int) :: dnI k
/-- two pieces, run together -/
def lcGo : List Int → List Int → List Bool → List Int
  | _, _, [] => []
  | t, o, b :: r => if b = true then t.take 1 ++ lcGo (t.drop 1) o r else o.take 1 ++ lcGo t (o.drop 1) r
theorem fromI_succ (lo : Int) (k : Nat) : fromI lo (k + 1) = lo :: fromI (lo + 1) k := by
  unfold fromI
  rw [List.range_succ_eq_map, List.map_cons, List.map_map]
  have e : (List.range k).map ((fun (j : Nat) => lo + (j : Int)) ∘ Nat.succ) = (List.range k).map fun (j : Nat) => lo + 1 + (j : Int) := List.map_congr_left fun j _ => by
    show lo + ((j + 1 : Nat) : Int) = lo + 1 + (j : Int)
    omega
  rw [e]
  simp
theorem lc_mk : ∀ (r : List Bool) (lo hi n : Nat), r.count true = lo → hi + r.count false = n → lcGo (dnI lo) (fromI hi (n - hi)) r = mkGo lo ((hi : Int) - 1) r
  | [], _, _, _, _, _ => rfl
  | true :: r, lo, hi, n, h1, h2 => by
    rw [List.count_cons_self] at h1
    rw [List.count_cons_of_ne (by decide)] at h2
    obtain ⟨k, rfl⟩ : ∃ k, lo = k + 1 := ⟨lo - 1, by omega⟩
    have := lc_mk r k hi n (by omega) h2
    show (dnI (k + 1)).take 1 ++ lcGo ((dnI (k + 1)).drop 1) _ r = (((k + 1 : Nat) : Int) - 1) :: mkGo (((k + 1 : Nat) : Int) - 1) _ r
    rw [show ((k + 1 : Nat) : Int) - 1 = k by omega, ← this]
    rfl
  | false :: r, lo, hi, n, h1, h2 => by
    rw [List.count_cons_of_ne (by decide)] at h1
    rw [List.count_cons_self] at h2
    have := lc_mk r lo (hi + 1) n h1 (by omega)
    obtain ⟨m, hm⟩ : ∃ m, n - hi = m + 1 := ⟨n - hi - 1, by omega⟩
    rw [hm, fromI_succ]
    show (hi : Int) :: lcGo (dnI lo) (fromI ((hi : Int) + 1) m) r = ((hi : Int) - 1 + 1) :: mkGo lo ((hi : Int) - 1 + 1) r
    rw [show n - (hi + 1) = m by omega, show ((hi + 1 : Nat) : Int) = (hi : Int) + 1 by omega] at this
    rw [show (hi : Int) - 1 + 1 = hi by omega, this, show (hi : Int) + 1 - 1 = hi by omega]
/-- a row is made by its cut's running: the first card, or the next, is the cut -/
theorem Part.mk {lo hi : Int} {l : List Int} (h : Part lo hi l) : ∃ f, l[0]? = some f ∧ ∀ (c : Int) (rest : List Bool), (c = f ∨ c = f + 1) → mkGo c (c - 1) ((l.map fun x => decide (x < c)) ++ rest) = l ++ mkGo lo hi rest := by
  induction h with
  | one f =>
    refine ⟨f, rfl, fun c rest hc => ?_⟩
    show (if decide (f < c) = true then _ else _) = _
    rcases hc with rfl | rfl
    · rw [if_neg (by simp), show c - 1 + 1 = c by omega]; rfl
    · rw [if_pos (by simp; omega), show f + 1 - 1 = f by omega]; rfl
  | @dn lo hi l h ih =>
    obtain ⟨f, h0, ih⟩ := ih
    have hp : 0 < l.length := List.length_pos_iff.mpr h.ne
    refine ⟨f, by rw [List.getElem?_append_left hp]; exact h0, fun c rest hc => ?_⟩
    have hf := (h.mem f).mp (List.mem_of_getElem? h0)
    rw [List.map_append, List.append_assoc, ih c _ hc, List.append_assoc]
    show l ++ (if decide (lo - 1 < c) = true then _ else _) = _
    rw [if_pos (decide_eq_true (by omega))]
    rfl
  | @up lo hi l h ih =>
    obtain ⟨f, h0, ih⟩ := ih
    have hp : 0 < l.length := List.length_pos_iff.mpr h.ne
    refine ⟨f, by rw [List.getElem?_append_left hp]; exact h0, fun c rest hc => ?_⟩
    have hf := (h.mem f).mp (List.mem_of_getElem? h0)
    rw [List.map_append, List.append_assoc, ih c _ hc, List.append_assoc]
    show l ++ (if decide (hi + 1 < c) = true then _ else _) = _
    rw [if_neg (by simp; omega)]
    rfl
theorem Part.cnt {lo hi : Int} {l : List Int} (h : Part lo hi l) : ∃ f, l[0]? = some f ∧ ∀ c : Int, (c = f ∨ c = f + 1) → (((l.map fun x => decide (x < c)).count true : Nat) : Int) = c - lo := by
  induction h with
  | one f =>
    refine ⟨f, rfl, fun c hc => ?_⟩
    rcases hc with rfl | rfl
    · simp
    · have : decide (f < f + 1) = true := decide_eq_true (by omega)
      simp [this]; omega
  | @dn lo hi l h ih =>
    obtain ⟨f, h0, ih⟩ := ih
    have hp : 0 < l.length := List.length_pos_iff.mpr h.ne
    refine ⟨f, by rw [List.getElem?_append_left hp]; exact h0, fun c hc => ?_⟩
    have hf := (h.mem f).mp (List.mem_of_getElem? h0)
    have := ih c hc
    have q : decide (lo - 1 < c) = true := decide_eq_true (by omega)
    rw [List.map_append, List.count_append, List.map_singleton, q]
    simp
    omega
  | @up lo hi l h ih =>
    obtain ⟨f, h0, ih⟩ := ih
    have hp : 0 < l.length := List.length_pos_iff.mpr h.ne
    refine ⟨f, by rw [List.getElem?_append_left hp]; exact h0, fun c hc => ?_⟩
    have hf := (h.mem f).mp (List.mem_of_getElem? h0)
    have := ih c hc
    have q : decide (hi + 1 < c) = false := decide_eq_false (by omega)
    rw [List.map_append, List.count_append, List.map_singleton, q]
    simp
    omega
theorem count_both (r : List Bool) : r.count true + r.count false = r.length := by
  induction r with
  | nil => rfl
  | cons b r ih => cases b <;> simp <;> omega
end Mlg
/-! Pl02: made, laced, running; the plain law of k02. -/
namespace Mlg
open PySem (PyData Str)
variable {tab : Nat → Option Def}
abbrev bD (l : List Bool) : List D := l.map .bool
/-! ### a drawn running together -/
def RnI (n cut : Nat) (i : Int) (ρ : Env) : Prop := ∃ l f x5 x6, Src l ∧ (f.length : Int) = i ∧ f.count true ≤ cut ∧ ((cut - f.count true : Nat) : Int) ≤ n - i ∧ (x6 = .un ∨ ∃ d, x6 = .val d) ∧ ρ = [.own (.lst (dI l)), .val (.int n), .val (.int cut), .val (.int ((cut - f.count true : Nat) : Int)), .own (.lst (bD f)), x5, x6]
theorem running_ok [Has tab 14 d14] [H : Has tab 28 d28] {k : Nat} {l : List Int} {n cut : Nat} (hs : Src l) (h0 : 0 < n) (h1 : n ≤ 100) (hc : cut ≤ n) :
    ∃ (r : List Bool) (l' : List Int), r.length = n ∧ r.count true = cut ∧ Src l' ∧ callF tab (k + 2) 28 [.own (.lst (dI l)), .val (.int n), .val (.int cut)] = .ok (.val (.tuple (bD r)), [.own (.lst (dI l')), .val (.int n), .val (.int cut)]) := by
  have key : Wp (callF tab (k + 1 + 1) 28 [.own (.lst (dI l)), .val (.int n), .val (.int cut)]) (fun p => ∃ (r : List Bool) (l' : List Int), r.length = n ∧ r.count true = cut ∧ Src l' ∧ p = (.val (.tuple (bD r)), [.own (.lst (dI l')), .val (.int n), .val (.int cut)])) (fun _ _ _ => False) := by
    refine callW H rfl rfl ?_
    have rg : rangeOk (n : Int) = true := rangeOk_of (by omega) (by omega)
    simp -implicitDefEqProofs [d28, rg]
    refine wp_loopR (RnI n cut) ⟨l, [], .un, .un, hs, rfl, by simp, by simp; omega, .inl rfl, by simp⟩ ?_ ?_
    · rintro i ρ i0 i1 ⟨l, f, x5, x6, hs, hf, hle, hr, hx6, rfl⟩
      obtain ⟨b, l1, b0, b1, hs1, e1⟩ := below_ok (tab := tab) (k := k) (m := (n : Int) - i) hs (by omega) (by omega)
      have sm : small (bD f) = true := small_of (by rw [List.length_map]; omega)
      obtain ⟨m, hm⟩ : ∃ m : Nat, cut - f.count true = m := ⟨_, rfl⟩
      rw [hm] at hr ⊢
      have yes : ∀ {l : List Int} {x5 : Slot} {d : D}, Src l → 0 < m → RnI n cut (i + 1) [.own (.lst (dI l)), .val (.int n), .val (.int cut), .val (.int ((m : Int) - 1)), .own (.lst (bD f ++ [.bool true])), x5, .val d] := fun {l x5 d} hl h => by
        have c : (f ++ [true]).count true = f.count true + 1 := by simp
        refine ⟨l, f ++ [true], x5, .val d, hl, by simp; omega, by rw [c]; omega, by rw [c]; omega, .inr ⟨d, rfl⟩, ?_⟩
        rw [c, show ((cut - (f.count true + 1) : Nat) : Int) = (m : Int) - 1 by omega]
        simp
      have no : ∀ {l : List Int} {x5 : Slot} {d : D}, Src l → (m : Int) ≤ n - i - 1 → RnI n cut (i + 1) [.own (.lst (dI l)), .val (.int n), .val (.int cut), .val (.int (m : Int)), .own (.lst (bD f ++ [.bool false])), x5, .val d] := fun {l x5 d} hl h => by
        have c : (f ++ [false]).count true = f.count true := by simp
        refine ⟨l, f ++ [false], x5, .val d, hl, by simp; omega, by rw [c]; omega, by rw [c]; omega, .inr ⟨d, rfl⟩, ?_⟩
        rw [c, hm]
        simp
      have bi1 : Mlg.b1 .int (.bool true) = some (.val (.int 1)) := rfl
      have bi0 : Mlg.b1 .int (.bool false) = some (.val (.int 0)) := rfl
      have hx6' : x6 = .un ∨ ∃ d, x6 = .val d := hx6
      by_cases c1 : 0 < m
      · have c1' : (0 : Int) < m := by omega
        by_cases c2 : (m : Int) = n - i
        · have q2 := eq_true c2
          rcases hx6' with rfl | ⟨d, rfl⟩ <;> (simp -implicitDefEqProofs [c1, c1', q2, bi1, sm]; exact yes hs c1)
        · by_cases c3 : b < m
          · rcases hx6' with rfl | ⟨d, rfl⟩ <;> (simp -implicitDefEqProofs [c1, c1', c2, e1, c3, bi1, sm]; exact yes hs1 c1)
          · rcases hx6' with rfl | ⟨d, rfl⟩ <;> (simp -implicitDefEqProofs [c1, c1', c2, e1, c3, bi0, sm]; exact no hs1 (by omega))
      · have c1' : ¬ (0 : Int) < m := by omega
        rcases hx6' with rfl | ⟨d, rfl⟩ <;> (simp -implicitDefEqProofs [c1, c1', bi0, sm]; exact no hs (by omega))
    · rintro ρ ⟨l, f, x5, x6, hs, hf, hle, hr, hx6, rfl⟩
      simp -implicitDefEqProofs
      exact ⟨f, by omega, by omega, l, hs, rfl, rfl⟩
  obtain ⟨p, e, r, l', h2, h3, h4, rfl⟩ := key.okk
  exact ⟨r, l', h2, h3, h4, e⟩
/-! ### made -/
def isB : D → Bool
  | .bool _ => true
  | _ => false
theorem isB_all : ∀ {ds : List D}, ds.all isB = true → ∃ r : List Bool, ds = bD r
  | [], _ => ⟨[], rfl⟩
  | d :: ds, h => by
    rw [List.all_cons, Bool.and_eq_true] at h
    obtain ⟨r, rfl⟩ := isB_all h.2
    cases d <;> first | (cases h.1; done) | skip
    rename_i b
    exact ⟨b :: r, rfl⟩
def MdI (n cut : Nat) (r : List Bool) (x3 : Slot) (i : Nat) (ρ : Env) : Prop := ∃ (lo hi : Int) (f : List Int) (x7 : Slot), f ++ mkGo lo hi (r.drop i) = mkGo cut ((cut : Int) - 1) r ∧ f.length = i ∧ ρ = [.val (.int n), .val (.int cut), .val (.tuple (bD r)), x3, .val (.int lo), .val (.int hi), .own (.lst (dI f)), x7]
theorem made_ok [Has tab 0 d0] [Has tab 1 d1] [Has tab 25 d25] [H : Has tab 26 d26] {k n cut : Nat} {r : List Bool} (h0 : 0 < n) (h1 : n ≤ 100) (hc : cut ≤ n) (hl : r.length = n) (ht : r.count true = cut) : callF tab (k + 4) 26 [.val (.int n), .val (.int cut), .val (.tuple (bD r))] = .ok (.val (.tuple (dI (mkGo cut ((cut : Int) - 1) r))), [.val (.int n), .val (.int cut), .val (.tuple (bD r))]) := by
  refine Wp.eq ?_
  refine callW H rfl rfl ?_
  have e1 := check_size_ok (tab := tab) (k := k) (.int n) 1 100
  have hf : fromB (.int n) 1 100 = true := by simp [fromB]; omega
  rw [hf, if_pos rfl] at e1
  have e2 := is_from_ok (tab := tab) (k := k + 1) (.int cut) 0 n
  have hf2 : fromB (.int cut) 0 n = true := by simp [fromB]; omega
  rw [hf2] at e2
  have lc1 : loopC (lcT (callF tab (k + 3)) (.b1 (.isi .bool) (.var 3)) (.nm 3) .no [3]) (bD r) [] [.val (.int n), .val (.int cut), .val (.tuple (bD r)), .un, .un, .un, .un, .un] = .ok (r.map fun _ => .bool true, [.val (.int n), .val (.int cut), .val (.tuple (bD r)), .un, .un, .un, .un, .un]) := by
    refine loopC_mp _ _ (fun b hb => ?_) (by omega)
    have q : b1 (.isi .bool) (.bool b) = some (.val (.bool true)) := rfl
    simp -implicitDefEqProofs [q]
  have ha : b1 .all (.list (r.map fun _ => .bool true)) = some (.val (.bool true)) := by
    show (bools _).map _ = _
    rw [bools_map (fun _ => true)]
    simp
  have lc2 : loopC (lcT (callF tab (k + 3)) (.var 3) (.nm 3) (.so (.var 3)) [3]) (bD r) [] [.val (.int n), .val (.int cut), .val (.tuple (bD r)), .un, .un, .un, .un, .un] = .ok ((r.filter id).map .bool, [.val (.int n), .val (.int cut), .val (.tuple (bD r)), .un, .un, .un, .un, .un]) := by
    refine loopC_fm _ _ _ (fun b hb => ?_) (by omega)
    cases b <;> simp -implicitDefEqProofs
  have hcnt : ((r.filter id).map PyData.bool).length = cut := by
    rw [List.length_map, ← ht, List.count, List.countP_eq_length_filter]
    congr 1
    exact List.filter_congr fun b _ => by cases b <;> rfl
  have hbl : (bD r).length = n := by rw [List.length_map]; exact hl
  obtain ⟨B, hB⟩ : ∃ B : List D, B = r.map fun _ => .bool true := ⟨_, rfl⟩
  obtain ⟨C, hC⟩ : ∃ C : List D, C = (r.filter id).map .bool := ⟨_, rfl⟩
  rw [← hB] at lc1 ha
  rw [← hC] at lc2 hcnt
  simp -implicitDefEqProofs [d26, e1, e2, isTy, hl, lc1, ha, lc2, hcnt]
  refine wp_loopF (MdI n cut r .un) ⟨cut, (cut : Int) - 1, [], .un, rfl, rfl, rfl⟩ ?_ ?_
  · rintro i d ρ hd ⟨lo, hi, f, x7, hb, hf, rfl⟩
    rw [List.getElem?_map] at hd
    obtain ⟨b, h2, rfl⟩ := Option.map_eq_some_iff.mp hd
    obtain ⟨hlt, hz⟩ := List.getElem?_eq_some_iff.mp h2
    rw [List.drop_eq_getElem_cons hlt, hz] at hb
    have sm : small (dI f) = true := small_of (by rw [List.length_map]; omega)
    cases b with
    | true =>
      simp -implicitDefEqProofs [sm]
      exact ⟨lo - 1, hi, f ++ [lo - 1], .val (.bool true), by rw [List.append_assoc]; exact hb, by simp [hf], by simp⟩
    | false =>
      simp -implicitDefEqProofs [sm]
      exact ⟨lo, hi + 1, f ++ [hi + 1], .val (.bool false), by rw [List.append_assoc]; exact hb, by simp [hf], by simp⟩
  · rintro ρ ⟨lo, hi, f, x7, hb, hf, rfl⟩
    rw [List.length_map] at hb
    rw [List.drop_length] at hb
    have hb : f ++ [] = _ := hb
    rw [List.append_nil] at hb
    rw [← hb]
    simp -implicitDefEqProofs
/-! ### laced, by two pieces -/
theorem cut_one (l : List Int) : cutL (dI l) none (some 1) = dI (l.take 1) := cut_take l 1
theorem cut_rest (l : List Int) : cutL (dI l) (some 1) none = dI (l.drop 1) := by
  cases l with
  | nil => rfl
  | cons a l =>
    show ((dI (a :: l)).drop (min 1 (dI (a :: l)).length)).take ((dI (a :: l)).length - min 1 (dI (a :: l)).length) = _
    have e : min 1 (dI (a :: l)).length = 1 := by simp
    rw [e]
    show (dI l).take ((dI l).length + 1 - 1) = dI l
    rw [Nat.add_sub_cancel, List.take_length]
theorem rev_range : ∀ c : Nat, (rangeL 0 c).reverse = dI (dnI c)
  | 0 => rfl
  | c + 1 => by
    have := rev_range c
    rw [rangeL_0] at this ⊢
    rw [List.range_succ, List.map_append, List.reverse_append, this]
    rfl
def LcI (n cut : Nat) (r : List Bool) (i : Nat) (ρ : Env) : Prop := ∃ (t o f : List Int) (x6 : Slot), f ++ lcGo t o (r.drop i) = lcGo (dnI cut) (fromI cut (n - cut)) r ∧ f.length ≤ i ∧ ρ = [.val (.int n), .val (.int cut), .val (.tuple (bD r)), .own (.lst (dI t)), .own (.lst (dI o)), .own (.lst (dI f)), x6]
theorem laced_ok [H : Has tab 27 d27] {k n cut : Nat} {r : List Bool} (h1 : n ≤ 100) (hc : cut ≤ n) (hl : r.length ≤ 1000) : callF tab (k + 1) 27 [.val (.int n), .val (.int cut), .val (.tuple (bD r))] = .ok (.val (.tuple (dI (lcGo (dnI cut) (fromI cut (n - cut)) r))), [.val (.int n), .val (.int cut), .val (.tuple (bD r))]) := by
  refine Wp.eq ?_
  refine callW H rfl rfl ?_
  have r1 : rangeOk (cut : Int) = true := rangeOk_of (by omega) (by omega)
  have r2 : rangeOk (n : Int) = true := rangeOk_of (by omega) (by omega)
  have e1 := rev_range cut
  have e2 : rangeL cut n = dI (fromI cut (n - cut)) := by rw [← rangeL_from, show (cut : Int) + ((n - cut : Nat) : Int) = n by omega]
  have e3 : revD (.list (rangeL 0 cut)) = some (.tmp (.lst (dI (dnI cut)))) := by
    show some (R.tmp (.lst (rangeL 0 cut).reverse)) = _
    rw [e1]
  simp -implicitDefEqProofs [d27, r1, r2, e3, e2]
  refine wp_loopF (LcI n cut r) ⟨dnI cut, fromI cut (n - cut), [], .un, rfl, Nat.le_refl _, rfl⟩ ?_ ?_
  · rintro i d ρ hd ⟨t, o, f, x6, hb, hf, rfl⟩
    rw [List.getElem?_map] at hd
    obtain ⟨b, h2, rfl⟩ := Option.map_eq_some_iff.mp hd
    obtain ⟨hlt, hz⟩ := List.getElem?_eq_some_iff.mp h2
    rw [List.drop_eq_getElem_cons hlt, hz] at hb
    have t1 := cut_one t
    have t2 := cut_rest t
    have o1 := cut_one o
    have o2 := cut_rest o
    have s1 : small (dI f ++ dI (t.take 1)) = true := small_of (by simp; omega)
    have s2 : small (dI f ++ dI (o.take 1)) = true := small_of (by simp; omega)
    cases b with
    | true =>
      have fin : LcI n cut r (i + 1) [.val (.int n), .val (.int cut), .val (.tuple (bD r)), .own (.lst (dI (t.drop 1))), .own (.lst (dI o)), .own (.lst (dI f ++ dI (t.take 1))), .val (.bool true)] :=
        ⟨t.drop 1, o, f ++ t.take 1, .val (.bool true), by rw [List.append_assoc]; exact hb, by simp; omega, by simp⟩
      generalize dI (t.take 1) = A at *
      generalize dI (t.drop 1) = B at *
      simp -implicitDefEqProofs [t1, t2, s1]
      exact fin
    | false =>
      have fin : LcI n cut r (i + 1) [.val (.int n), .val (.int cut), .val (.tuple (bD r)), .own (.lst (dI t)), .own (.lst (dI (o.drop 1))), .own (.lst (dI f ++ dI (o.take 1))), .val (.bool false)] :=
        ⟨t, o.drop 1, f ++ o.take 1, .val (.bool false), by rw [List.append_assoc]; exact hb, by simp; omega, by simp⟩
      generalize dI (o.take 1) = A at *
      generalize dI (o.drop 1) = B at *
      simp -implicitDefEqProofs [o1, o2, s2]
      exact fin
  · rintro ρ ⟨t, o, f, x6, hb, hf, rfl⟩
    rw [List.length_map, List.drop_length] at hb
    have hb : f ++ [] = _ := hb
    rw [List.append_nil] at hb
    rw [← hb]
    simp -implicitDefEqProofs
end Mlg
/-! Pl03b: the plain law of k03. -/
namespace Mlg
open PySem (PyData Str)
variable {tab : Nat → Option Def}
def d37_7 : Ss := (.cons (.loop (.nm 4) (.r1 (.bin .sub (.var 2) (.cst (.int 1))))
  (.cons (.asg 5 (.bin .mul (.cst (.int 2)) (.var 5)))
  .nil))
  (.cons (.cond (.not (.call 16 (.cons (.call 32 (.cons (.var 2) .nil)) (.cons (.var 5) .nil))))
  (.cons (.ret (.cst (.bool false)))
  .nil)
  .nil)
  (.cons (.asg 6 (.call 17 (.cons (.var 1) (.cons (.var 2) .nil))))
  (.cons (.asg 4 (.call 10 (.cons (.var 6) .nil)))
  (.cons (.cond (.or (.not (.b1 (.isi .int) (.var 4))) (.or (.not (.chn .le .lt (.cst (.int 0)) (.var 4) (.var 5))) (.not (.call 16 (.cons (.call 33 (.cons (.var 2) (.cons (.var 4) .nil))) (.cons (.var 6) .nil))))))
  (.cons (.ret (.cst (.bool false)))
  .nil)
  .nil)
  (.cons (.cond (.or (.and (.cmp .lt (.bin .add (.var 4) (.cst (.int 1))) (.var 5)) (.not (.cmp .gt (.call 33 (.cons (.var 2) (.cons (.bin .add (.var 4) (.cst (.int 1))) .nil))) (.var 6)))) (.cmp .ne (.call 10 (.cons (.b1 .tuple (.rev (.rg1 true (.var 2)))) .nil)) (.bin .sub (.var 5) (.cst (.int 1)))))
  (.cons (.ret (.cst (.bool false)))
  .nil)
  .nil)
  (.cons (.loop (.nm 7) (.val (.lst (.cons (.cst .none) (.cons (.neg (.cst (.int 1))) (.cons (.var 5) (.cons (.cst (.str ⟨#[48]⟩)) (.cons (.cst (.bool true)) .nil)))))))
  (.cons (.cond (.cmp .ne (.call 36 (.cons (.cst (.str ⟨#[107, 116, 104]⟩)) (.cons (.var 2) (.cons (.var 7) .nil)))) (.cst (.str ⟨#[110, 117, 109, 98, 101, 114]⟩)))
  (.cons (.ret (.cst (.bool false)))
  .nil)
  .nil)
  .nil))
  (.cons (.loop (.nm 8) (.val (.lst (.cons (.cst (.str ⟨#[109, 97, 110, 121]⟩)) (.cons (.cst (.str ⟨#[97, 108, 108]⟩)) (.cons (.cst (.str ⟨#[107, 116, 104]⟩)) .nil)))))
  (.cons (.loop (.nm 7) (.val (.lst (.cons (.cst .none) (.cons (.cst (.int 0)) (.cons (.cst (.int 101)) (.cons (.cst (.str ⟨#[51]⟩)) (.cons (.cst (.bool true)) .nil)))))))
  (.cons (.cond (.cmp .ne (.call 36 (.cons (.var 8) (.cons (.var 7) (.cons (.cst .none) .nil)))) (.cst (.str ⟨#[115, 105, 122, 101]⟩)))
  (.cons (.ret (.cst (.bool false)))
  .nil)
  .nil)
  .nil))
  .nil))
  (.cons (.ret (.cmp .eq (.call 36 (.cons (.cst (.str ⟨#[97, 108, 108]⟩)) (.cons (.cst (.int 11)) (.cons (.cst .none) .nil)))) (.cst (.str ⟨#[115, 105, 122, 101]⟩))))
  .nil)))))))))
def d37_4 : Ss := (.cons (.loop (.nm 4) (.r1 (.b1 .len (.var 3)))
  (.cons (.cond (.or (.and (.cmp .eq (.bin .mod (.var 4) (.cst (.int 7))) (.bin .mod (.b1 .len (.var 3)) (.cst (.int 7)))) (.not (.call 16 (.cons (.call 33 (.cons (.var 2) (.cons (.var 4) .nil))) (.cons (.ix (.var 3) (.var 4)) .nil))))) (.not (.call 16 (.cons (.call 10 (.cons (.ix (.var 3) (.var 4)) .nil)) (.cons (.var 4) .nil)))))
  (.cons (.ret (.cst (.bool false)))
  .nil)
  .nil)
  .nil))
  (.cons (.asg 2 (.bin .add (.cst (.int 1)) (.call 14 (.cons (.var 1) (.cons (.cst (.int 100)) .nil)))))
  (.cons (.asg 5 (.cst (.int 1)))
  d37_7)))
def d37_2 : Ss := (.cons (.asg 3 (.call 19 (.cons (.var 2) .nil)))
  (.cons (.cond (.or (.not (.call 16 (.cons (.call 35 (.cons (.var 2) .nil)) (.cons (.var 3) .nil)))) (.not (.call 16 (.cons (.call 32 (.cons (.var 2) .nil)) (.cons (.b1 .len (.var 3)) .nil)))))
  (.cons (.ret (.cst (.bool false)))
  .nil)
  .nil)
  d37_4))
theorem d37_cut : d37 = ⟨1, 8, [], (.cons (.asg 1 (.call 13 (.cons (.var 0) (.cons (.cst (.int 2403)) .nil))))
  (.cons (.asg 2 (.ite (.cmp .gt (.call 14 (.cons (.var 1) (.cons (.cst (.int 12)) .nil))) (.cst (.int 0))) (.bin .add (.cst (.int 1)) (.call 14 (.cons (.var 1) (.cons (.cst (.int 8)) .nil)))) (.bin .add (.cst (.int 9)) (.call 14 (.cons (.var 1) (.cons (.cst (.int 2)) .nil))))))
  d37_2))⟩ := rfl
section
variable [Has tab 0 d0] [Has tab 1 d1] [Has tab 25 d25]
def rowsR (n : Nat) : R := if n = 1 then .tmp (.lst ((rowsN n).map tD)) else .val (.list ((rowsN n).map tD))
theorem all_rows_ok [Has tab 34 d34] [H : Has tab 35 d35] {k n : Nat} (h0 : 0 < n) (h1 : n ≤ 10) : callF tab (k + 4) 35 [.val (.int n)] = .ok (rowsR n, [.val (.int n)]) := by
  refine Wp.eq ?_
  refine callW H rfl rfl ?_
  have e1 := check_size_ok (tab := tab) (k := k) (.int n) 1 10
  have hf : fromB (.int n) 1 10 = true := by simp [fromB]; omega
  rw [hf, if_pos rfl] at e1
  have e2 := rows_of_ok (tab := tab) (k := k + 2) (n := n) h0 (by omega)
  unfold rowsR
  by_cases c : n = 1
  · rw [if_pos c] at e2 ⊢
    simp -implicitDefEqProofs [d35, e1, e2]
  · rw [if_neg c] at e2 ⊢
    simp -implicitDefEqProofs [d35, e1, e2]
theorem all_rows_no [H : Has tab 35 d35] {k : Nat} {v : D} (hv : fromB v 1 10 = false) : callF tab (k + 4) 35 [.val v] = .exc 1 .none [.val v] := by
  refine Wp.ex ?_
  refine callW H rfl rfl ?_
  have e1 := check_size_ok (tab := tab) (k := k) v 1 10
  rw [hv, if_neg Bool.false_ne_true] at e1
  simp -implicitDefEqProofs [d35, e1]
abbrev sMany : D := .str ⟨#[109, 97, 110, 121]⟩
abbrev sAll : D := .str ⟨#[97, 108, 108]⟩
abbrev sKth : D := .str ⟨#[107, 116, 104]⟩
abbrev sNumber : D := .str ⟨#[110, 117, 109, 98, 101, 114]⟩
theorem c_mm : cmp .eq sMany sMany = some true := rfl
theorem c_am : cmp .eq sAll sMany = some false := rfl
theorem c_aa : cmp .eq sAll sAll = some true := rfl
theorem c_km : cmp .eq sKth sMany = some false := rfl
theorem c_ka : cmp .eq sKth sAll = some false := rfl
theorem t36_many [Has tab 32 d32] [H : Has tab 36 d36] {k : Nat} {u v : D} (hu : fromB u 1 100 = false) : callF tab (k + 5) 36 [.val sMany, .val u, .val v] = .ok (.val sSize, [.val sMany, .val u, .val v]) := by
  refine Wp.eq ?_
  refine callW H rfl rfl ?_
  have e1 := how_many_no (tab := tab) (k := k) hu
  simp -implicitDefEqProofs [d36, e1, c_mm]
theorem t36_all [Has tab 35 d35] [H : Has tab 36 d36] {k : Nat} {u v : D} (hu : fromB u 1 10 = false) : callF tab (k + 5) 36 [.val sAll, .val u, .val v] = .ok (.val sSize, [.val sAll, .val u, .val v]) := by
  refine Wp.eq ?_
  refine callW H rfl rfl ?_
  have e1 := all_rows_no (tab := tab) (k := k) hu
  simp -implicitDefEqProofs [d36, e1, c_am, c_aa]
theorem t36_kth [Has tab 33 d33] [H : Has tab 36 d36] {k : Nat} {u v : D} (hu : fromB u 1 100 = false) : callF tab (k + 5) 36 [.val sKth, .val u, .val v] = .ok (.val sSize, [.val sKth, .val u, .val v]) := by
  refine Wp.eq ?_
  refine callW H rfl rfl ?_
  have e1 := kth_size (tab := tab) (k := k) (v := v) hu
  simp -implicitDefEqProofs [d36, e1, c_km, c_ka]
theorem t36_no [Has tab 31 d31] [Has tab 33 d33] [H : Has tab 36 d36] {k n : Nat} {v : D} (h0 : 0 < n) (h1 : n ≤ 100) (hv : fromB v 0 (p2 (n - 1) - 1) = false) : callF tab (k + 5) 36 [.val sKth, .val (.int n), .val v] = .ok (.val sNumber, [.val sKth, .val (.int n), .val v]) := by
  refine Wp.eq ?_
  refine callW H rfl rfl ?_
  have e1 := kth_no (tab := tab) (k := k) h0 h1 hv
  simp -implicitDefEqProofs [d36, e1, c_km, c_ka]
end
theorem eqOk_row (r : List Int) (h : r.length < 1000000) : eqOk 1 (tD r) = true := by
  show (decide (_ < _) && eqOkAll 0 (dI r)) = true
  rw [decide_eq_true (by rw [List.length_map]; exact h), eqOkAll_of fun x hx => by obtain ⟨i, _, rfl⟩ := List.mem_map.mp hx; rfl]
  rfl
theorem eqOk_rows {ls : List (List Int)} (h : ls.length < 1000000) (hr : ∀ r ∈ ls, r.length < 1000000) : eqOk 2 (.list (ls.map tD)) = true := by
  show (decide (_ < _) && eqOkAll 1 (ls.map tD)) = true
  rw [decide_eq_true (by rw [List.length_map]; exact h), eqOkAll_of fun x hx => by obtain ⟨r, h1, rfl⟩ := List.mem_map.mp hx; exact eqOk_row r (hr r h1)]
  rfl
theorem rowsN_lt {n : Nat} (h0 : 0 < n) (h1 : n ≤ 12) : (rowsN n).length ≤ 2048 := by
  rw [rowsN_full h0]
  exact Nat.le_trans (Nat.pow_le_pow_right (by decide) (show n - 1 ≤ 11 by omega)) (by decide)
theorem rowsN_row_len {n : Nat} (h0 : 0 < n) {r : List Int} (h : r ∈ rowsN n) : r.length = n := by
  have := ((mem_rowsN h0).mp h).len
  omega
theorem equal_rows [Has tab 16 d16] {k n : Nat} {s : Slot} (h0 : 0 < n) (h1 : n ≤ 12) (hs : ArgD s (.list ((rowsN n).map tD))) : callF tab (k + 3) 16 [s, .own (.lst ((rowsN n).map tD))] = .ok (.val (.bool true), [s, .own (.lst ((rowsN n).map tD))]) := by
  have ok : eqOk 2 (.list ((rowsN n).map tD)) = true := eqOk_rows (by have := rowsN_lt h0 h1; omega) fun r hr => by have := rowsN_row_len h0 hr; omega
  have := equal_ok (tab := tab) 2 (k := k) hs (.own _) ok ok
  rw [sameD_refl ok] at this
  exact this
theorem gt_rows (a b : List Int) : cmp .gt (.tuple (dI a)) (.tuple (dI b)) = some (ltL b a) := by
  show gtT (dI a) (dI b) = _
  unfold gtT
  rw [intsD_dI, intsD_dI]
  show some (ltInts b a) = _
  rw [ltInts_is]
/-- the row from below is the last -/
theorem down_row : ∀ {n : Nat}, 0 < n → Part 0 ((n : Int) - 1) (dnI n) := by
  intro n
  have gen : ∀ (m : Nat) (lo : Int) (l : List Int) (hi : Int), Part lo hi l → lo = m → Part 0 hi (l ++ dnI m) := by
    intro m
    induction m with
    | zero => intro lo l hi h e; subst e; simpa [dnI] using h
    | succ m ih =>
      intro lo l hi h e
      have h2 := ih (lo - 1) (l ++ [lo - 1]) hi (.dn h) (by omega)
      rw [List.append_assoc] at h2
      rw [show lo - 1 = (m : Int) by omega] at h2
      exact h2
  intro h
  obtain ⟨m, rfl⟩ : ∃ m, n = m + 1 := ⟨n - 1, by omega⟩
  have := gen m (m : Int) [(m : Int)] m (.one _) rfl
  rw [show ((m + 1 : Nat) : Int) - 1 = m by omega]
  exact this
theorem chs_mono (n : Nat) : ∀ m : Nat, (chs n m).sum = ((List.range m).map fun j => (ch n j : Int)).sum := fun _ => rfl
theorem rk_down {n : Nat} : ∀ (m i : Nat) (lo : Int), lo = m → rkGo n lo i (dnI m) = 0
  | 0, i, lo, _ => rfl
  | m + 1, i, lo, h => by
    show (if (m : Int) < lo then rkGo n m (i + 1) (dnI m) else _) = 0
    rw [if_pos (by omega)]
    exact rk_down m (i + 1) m rfl
theorem dnI_len : ∀ n : Nat, (dnI n).length = n
  | 0 => rfl
  | n + 1 => by show (dnI n).length + 1 = _; rw [dnI_len n]
theorem rank_down {n : Nat} (h : 0 < n) : rankL (dnI n) = p2 (n - 1) - 1 := by
  obtain ⟨m, rfl⟩ : ∃ m, n = m + 1 := ⟨n - 1, by omega⟩
  show (chs ((dnI (m + 1)).length - 1) (m : Int).toNat).sum + rkGo (dnI (m + 1)).length m 0 ((m : Int) :: dnI m) = _
  rw [dnI_len, Int.toNat_natCast, chs_sum]
  show (sumC (m + 1) m : Int) + (if (m : Int) < m then _ else (if 0 < 0 ∧ (0 : Int) < m then _ else (0 : Int)) + rkGo (m + 1) m (0 + 1) (dnI m)) = _
  rw [if_neg (by omega), if_neg (by omega), rk_down m _ _ rfl]
  have h1 := sumC_full (n := m + 1) (by omega)
  have h2 : sumC (m + 1) (m + 1) = sumC (m + 1) m + ch m m := rfl
  have h3 : ch m m = 1 := by
    have : ∀ m, ch m m = 1 := by
      intro m
      induction m with
      | zero => rfl
      | succ m ih => show ch m m + ch m (m + 1) = 1; rw [ih, ch_over (by omega)]
    exact this m
  unfold p2
  omega
def B03 (xs : List Int) (n : Nat) (i : Int) (ρ : Env) : Prop := ∃ l x4, Src l ∧ ρ = [.ro (dI xs), .own (.lst (dI l)), .val (.int n), .own (.lst ((rowsN n).map tD)), x4, .un, .un, .un, .un]
section
variable [Has tab 0 d0] [Has tab 1 d1] [Has tab 2 d2] [Has tab 4 d4] [Has tab 6 d6] [Has tab 7 d7] [Has tab 9 d9] [Has tab 10 d10] [Has tab 13 d13] [Has tab 14 d14] [Has tab 16 d16] [Has tab 17 d17] [Has tab 19 d19] [Has tab 25 d25] [Has tab 31 d31] [Has tab 32 d32] [Has tab 33 d33] [Has tab 34 d34] [Has tab 35 d35] [Has tab 36 d36]
def PdI (n : Nat) (ρ0 : Int → Slot → Env) (i : Int) (ρ : Env) : Prop := ∃ x, ρ = ρ0 (p2 i.toNat) x
theorem k03_c {xs : List Int} {n : Nat} {l : List Int} {x3 x4 : Slot} (hs : Src l) (h0 : 0 < n) (h1 : n ≤ 100) : Wp (execs (callF tab 59) 1 d37_7 [.ro (dI xs), .own (.lst (dI l)), .val (.int n), x3, x4, .val (.int 1), .un, .un, .un]) (fun p => ∃ ρ, p = (ρ, some (.val (.bool true)))) (fun _ _ _ => False) := by
  unfold d37_7
  have rg : rangeOk ((n : Int) - 1) = true := rangeOk_of (by omega) (by omega)
  simp -implicitDefEqProofs [rg]
  refine wp_loopR (fun i ρ => ∃ x, ρ = [.ro (dI xs), .own (.lst (dI l)), .val (.int n), x3, x, .val (.int (p2 i.toNat)), .un, .un, .un]) ⟨x4, rfl⟩ ?_ ?_
  · rintro i ρ i0 i1 ⟨x, rfl⟩
    have e : 2 * p2 i.toNat = p2 (i + 1).toNat := by rw [show (i + 1).toNat = i.toNat + 1 by omega, p2_succ]; omega
    simp -implicitDefEqProofs [e]
  · rintro ρ ⟨x, rfl⟩
    rw [show (max (0 : Int) ((n : Int) - 1)).toNat = n - 1 by omega]
    have e1 := how_many_ok (tab := tab) (k := 55) h0 h1
    have e2 := equal_int (tab := tab) (k := 58) (p2 (n - 1)) (p2 (n - 1))
    obtain ⟨r, l1, hr, hs1, e3⟩ := row_ok (tab := tab) (k := 57) (n := n) hs (by omega) (by omega)
    have hrl := row_of hr h1
    have hlen : r.length = n := by have := hr.len; omega
    obtain ⟨kk, hk1, hk2, hk3⟩ := row_at h0 hr
    have e4 := rank_ok (tab := tab) (k := 53) hrl
    rw [hk3] at e4
    have e5 := kth_ok (tab := tab) (k := 55) h0 h1 hk2
    have e6 := equal_tup (tab := tab) (k := 57) (a := r) (by omega)
    have hp := p2_lt hk1
    have hge : (0 : Int) ≤ kk := by omega
    have dn := rank_ok (tab := tab) (k := 53) (row_of (n := n) (down_row h0) h1)
    rw [rank_down h0] at dn
    have rv : revD (.list (rangeL 0 n)) = some (.tmp (.lst (dI (dnI n)))) := by
      show some (R.tmp (.lst (rangeL 0 n).reverse)) = _
      rw [rev_range]
    have rgn : rangeOk (n : Int) = true := rangeOk_of (by omega) (by omega)
    have m1 := t36_no (tab := tab) (k := 54) (v := .none) h0 h1 rfl
    have m2 := t36_no (tab := tab) (k := 54) (v := .int (-1)) h0 h1 rfl
    have m3 := t36_no (tab := tab) (k := 54) (v := .int (p2 (n - 1))) h0 h1 (by simp [fromB]; omega)
    have m4 := t36_no (tab := tab) (k := 54) (v := .str ⟨#[48]⟩) h0 h1 rfl
    have m5 := t36_no (tab := tab) (k := 54) (v := .bool true) h0 h1 rfl
    have a1 := t36_many (tab := tab) (k := 54) (u := .none) (v := .none) rfl
    have a2 := t36_many (tab := tab) (k := 54) (u := .int 0) (v := .none) rfl
    have a3 := t36_many (tab := tab) (k := 54) (u := .int 101) (v := .none) rfl
    have a4 := t36_many (tab := tab) (k := 54) (u := .str ⟨#[51]⟩) (v := .none) rfl
    have a5 := t36_many (tab := tab) (k := 54) (u := .bool true) (v := .none) rfl
    have b1 := t36_all (tab := tab) (k := 54) (u := .none) (v := .none) rfl
    have b2 := t36_all (tab := tab) (k := 54) (u := .int 0) (v := .none) rfl
    have b3 := t36_all (tab := tab) (k := 54) (u := .int 101) (v := .none) rfl
    have b4 := t36_all (tab := tab) (k := 54) (u := .str ⟨#[51]⟩) (v := .none) rfl
    have b5 := t36_all (tab := tab) (k := 54) (u := .bool true) (v := .none) rfl
    have b6 := t36_all (tab := tab) (k := 54) (u := .int 11) (v := .none) rfl
    have c1 := t36_kth (tab := tab) (k := 54) (u := .none) (v := .none) rfl
    have c2 := t36_kth (tab := tab) (k := 54) (u := .int 0) (v := .none) rfl
    have c3 := t36_kth (tab := tab) (k := 54) (u := .int 101) (v := .none) rfl
    have c4 := t36_kth (tab := tab) (k := 54) (u := .str ⟨#[51]⟩) (v := .none) rfl
    have c5 := t36_kth (tab := tab) (k := 54) (u := .bool true) (v := .none) rfl
    have z1 : cmp .ne sNumber sNumber = some false := rfl
    have z2 : cmp .ne sSize sSize = some false := rfl
    have z3 : cmp .eq sSize sSize = some true := rfl
    have z4 : cmp .ne (.int (p2 (n - 1) - 1)) (.int (p2 (n - 1) - 1)) = some false := by simp
    by_cases c : (kk : Int) + 1 < p2 (n - 1)
    · have hk4 : kk + 1 < (rowsN n).length := by rw [rowsN_full h0]; unfold p2 at c; omega
      have g1 : (rowsN n)[kk + 1]? = some (rowsN n)[kk + 1] := List.getElem?_eq_getElem hk4
      have e7 := kth_ok (tab := tab) (k := 55) h0 h1 g1
      have lt : ltL r (rowsN n)[kk + 1] = true := by
        have hkk : kk < (rowsN n).length := by omega
        have := List.pairwise_iff_getElem.mp (rowsN_sorted n) kk (kk + 1) hkk hk4 (by omega)
        rw [(List.getElem?_eq_some_iff.mp hk2).2] at this
        exact this
      have gt := gt_rows (rowsN n)[kk + 1] r
      rw [lt] at gt
      rw [show ((kk + 1 : Nat) : Int) = (kk : Int) + 1 by omega] at e7
      generalize (rowsN n)[kk + 1] = nx at *
      simp -implicitDefEqProofs [e1, e2, e3, e4, e5, e6, isTy, hge, hp, c, e7, gt, rgn, rv, dn, z4, m1, m2, m3, m4, m5, a1, a2, a3, a4, a5, b1, b2, b3, b4, b5, b6, c1, c2, c3, c4, c5, z1, z2, z3]
    · simp -implicitDefEqProofs [e1, e2, e3, e4, e5, e6, isTy, hge, hp, c, rgn, rv, dn, z4, m1, m2, m3, m4, m5, a1, a2, a3, a4, a5, b1, b2, b3, b4, b5, b6, c1, c2, c3, c4, c5, z1, z2, z3]
/-- kept from being run by the elaborator -/
structure Hld (p : Prop) : Prop where
  get : p
theorem k03_b {xs : List Int} {n : Nat} {l : List Int} (hs : Src l) (h0 : 0 < n) (h1 : n ≤ 10) : Hld (Wp (execs (callF tab 59) 1 d37_4 [.ro (dI xs), .own (.lst (dI l)), .val (.int n), .own (.lst ((rowsN n).map tD)), .un, .un, .un, .un, .un]) (fun p => ∃ ρ, p = (ρ, some (.val (.bool true)))) (fun _ _ _ => False)) := by
  refine ⟨?_⟩
  unfold d37_4
  have hL := rowsN_lt h0 (show n ≤ 12 by omega)
  have rg : rangeOk ((rowsN n).length : Int) = true := rangeOk_of (by omega) (by omega)
  simp -implicitDefEqProofs [rg]
  refine wp_loopR (B03 xs n) ⟨l, .un, hs, rfl⟩ ?_ ?_
  · rintro i ρ i0 i1 ⟨l, x4, hs, rfl⟩
    obtain ⟨j, rfl⟩ : ∃ j : Nat, i = j := ⟨i.toNat, by omega⟩
    have hj : j < (rowsN n).length := by omega
    obtain ⟨r, hr⟩ := get_at hj
    have hr2 := (mem_rowsN h0).mp (List.mem_of_getElem? hr)
    have hlen : r.length = n := by have := hr2.len; omega
    have p : place (rowsN n).length (j : Int) = some j := by rw [place_nn (by omega) (by omega)]; congr 1
    have e1 := kth_ok (tab := tab) (k := 55) h0 (by omega) hr
    have e2 := equal_tup (tab := tab) (k := 57) (a := r) (by omega)
    have e3 := rank_ok (tab := tab) (k := 53) (row_of hr2 (by omega))
    rw [rank_at h0 hr] at e3
    have e4 := equal_int (tab := tab) (k := 58) (j : Int) (j : Int)
    have fin : B03 xs n ((j : Int) + 1) [.ro (dI xs), .own (.lst (dI l)), .val (.int n), .own (.lst ((rowsN n).map tD)), .val (.int j), .un, .un, .un, .un] := ⟨l, _, hs, rfl⟩
    by_cases c : (j : Int) % 7 = ((rowsN n).length : Int) % 7
    · have c' := eq_true c
      simp -implicitDefEqProofs [p, hr, e1, e2, e3, e4, c', tD]
      exact fin
    · simp -implicitDefEqProofs [p, hr, e1, e2, e3, e4, c, tD]
      exact fin
  · rintro ρ ⟨l, x4, hs, rfl⟩
    obtain ⟨b, l1, b0, b1, hs1, e1⟩ := below_ok (tab := tab) (k := 58) (m := 100) hs (by decide) (by decide)
    obtain ⟨m, hm⟩ : ∃ m : Nat, (1 : Int) + b = m := ⟨(1 + b).toNat, by omega⟩
    simp -implicitDefEqProofs [e1, hm]
    exact k03_c hs1 (by omega) (by omega)
theorem k03_a {xs : List Int} {n : Nat} {l : List Int} (hs : Src l) (h0 : 0 < n) (h1 : n ≤ 10) : Wp (execs (callF tab 59) 1 d37_2 [.ro (dI xs), .own (.lst (dI l)), .val (.int n), .un, .un, .un, .un, .un, .un]) (fun p => ∃ ρ, p = (ρ, some (.val (.bool true)))) (fun _ _ _ => False) := by
  unfold d37_2
  obtain ⟨fb⟩ := k03_b (tab := tab) (xs := xs) (n := n) (l := l) hs h0 h1
  have e1 := every_ok (tab := tab) (k := 58) h0 h1
  have e2 := all_rows_ok (tab := tab) (k := 55) h0 h1
  have e3 := how_many_ok (tab := tab) (k := 55) h0 (show n ≤ 100 by omega)
  have hL := rowsN_full h0
  have e4 := equal_int (tab := tab) (k := 58) (p2 (n - 1)) ((rowsN n).length : Int)
  have hd : p2 (n - 1) = ((rowsN n).length : Int) := by rw [hL]; rfl
  rw [decide_eq_true hd] at e4
  unfold rowsR at e2
  by_cases c : n = 1
  · rw [if_pos c] at e2
    have e5 := equal_rows (tab := tab) (k := 56) h0 (show n ≤ 12 by omega) (.own _)
    simp -implicitDefEqProofs [e1, e2, e3, e4, e5, fb]
  · rw [if_neg c] at e2
    have e5 := equal_rows (tab := tab) (k := 56) h0 (show n ≤ 12 by omega) (.val _)
    simp -implicitDefEqProofs [e1, e2, e3, e4, e5, fb]
theorem k03_plain [H : Has tab 37 d37] {xs : List Int} (hx : xs.length ≤ 63) : ∃ s, callF tab 60 37 [.ro (dI xs)] = .ok (.val (.bool true), s) := by
  have key : Wp (callF tab (59 + 1) 37 [.ro (dI xs)]) (fun p => ∃ s, p = (.val (.bool true), s)) (fun _ _ _ => False) := by
    rw [d37_cut] at H
    refine callW H rfl rfl ?_
    obtain ⟨l0, hs0, e0⟩ := random_ok (tab := tab) (k := 58) (m := 2403) hx (by decide)
    obtain ⟨b, l1, b0, b1, hs1, e1⟩ := below_ok (tab := tab) (k := 58) (m := 12) hs0 (by decide) (by decide)
    have fin : ∀ {n : Nat} {l : List Int}, Src l → 0 < n → n ≤ 10 → Wp (execs (callF tab 59) 1 d37_2 [.ro (dI xs), .own (.lst (dI l)), .val (.int n), .un, .un, .un, .un, .un, .un]) (fun p => ∃ s, (p.2.getD (.val .none), mask [] 0 (p.1.take 1)) = (R.val (.bool true), s)) (fun _ _ _ => False) := by
      intro n l hs h0 h1
      refine (k03_a hs h0 h1).wk ?_
      rintro p ⟨ρ, rfl⟩
      exact ⟨_, rfl⟩
    by_cases c : 0 < b
    · obtain ⟨b2, l2, c0, c1, hs2, e2⟩ := below_ok (tab := tab) (k := 58) (m := 8) hs1 (by decide) (by decide)
      obtain ⟨n, hn⟩ : ∃ n : Nat, (1 : Int) + b2 = n := ⟨(1 + b2).toNat, by omega⟩
      simp -implicitDefEqProofs [e0, e1, c, e2, hn]
      have := fin (n := n) hs2 (by omega) (by omega)
      simpa using this
    · obtain ⟨b2, l2, c0, c1, hs2, e2⟩ := below_ok (tab := tab) (k := 58) (m := 2) hs1 (by decide) (by decide)
      obtain ⟨n, hn⟩ : ∃ n : Nat, (9 : Int) + b2 = n := ⟨(9 + b2).toNat, by omega⟩
      simp -implicitDefEqProofs [e0, e1, c, e2, hn]
      have := fin (n := n) hs2 (by omega) (by omega)
      simpa using this
  obtain ⟨p, e, s, rfl⟩ := key.okk
  exact ⟨s, e⟩
end
end Mlg
set_option maxHeartbeats 0
namespace Lk03
open PySem PySem.Spec PyProof.Rows L2 Mlg Msd
def top (i : Nat) : Stmt := PySem.Challenge.pw_turnlaced_k03_whole_numbers_of_rows.main.body.getD i (.Pass ⟨0, 0, 0, 0⟩)
def r0 : Rc := ⟨0, "is_integer", d0, ["value"], top 8⟩
def r1 : Rc := ⟨1, "is_from", d1, ["value", "low", "high"], top 9⟩
def r25 : Rc := ⟨25, "check_size", d25, ["n", "low", "high"], top 10⟩
def r2 : Rc := ⟨2, "is_order", d2, ["value", "card"], top 11⟩
def r4 : Rc := ⟨4, "bar_of", d4, ["order", "low", "high", "at", "card"], top 12⟩
def r6 : Rc := ⟨6, "is_row", d6, ["value"], top 13⟩
def r7 : Rc := ⟨7, "check_row", d7, ["row"], top 14⟩
def r9 : Rc := ⟨9, "choose", d9, ["all_things", "some", "found", "number"], top 15⟩
def r31 : Rc := ⟨31, "power_of_two", d31, ["times", "found", "lap"], top 16⟩
def r32 : Rc := ⟨32, "how_many", d32, ["n"], top 17⟩
def r33 : Rc := ⟨33, "kth", d33, ["n", "k", "first", "found", "low", "high", "many"], top 18⟩
def r10 : Rc := ⟨10, "rank", d10, ["row", "n", "low", "found", "first", "at", "card"], top 19⟩
def r34 : Rc := ⟨34, "rows_of", d34, ["n", "found", "card", "lap", "longer", "row"], top 20⟩
def r35 : Rc := ⟨35, "all_rows", d35, ["n"], top 21⟩
def r13 : Rc := ⟨13, "_law_random", d13, ["_law_script", "_law_salt", "_law_seed", "_law_cell"], top 23⟩
def r14 : Rc := ⟨14, "_law_below", d14, ["_law_d", "_law_size", "_law_result"], top 24⟩
def r16 : Rc := ⟨16, "_law_equal", d16, ["_law_actual", "_law_expected", "_law_key", "_law_k"], top 26⟩
def r17 : Rc := ⟨17, "_law_row", d17, ["_law_d", "_law_n", "_law_low", "_law_found", "_law_high", "_law_k"], top 27⟩
def r19 : Rc := ⟨19, "_law_every", d19, ["_law_n", "_law_found", "_law_card", "_law_lap", "_law_longer", "_law_row_here"], top 29⟩
def r36 : Rc := ⟨36, "_law_told", d36, ["_law_name", "_law_n", "_law_k", "_law_found"], top 30⟩
def r37 : Rc := ⟨37, "law", d37, ["_law_script", "_law_d", "_law_n", "_law_every_here", "_law_k", "_law_whole_so", "_law_row_here", "_law_value", "_law_name"], top 31⟩
def recs : List Rc := [r0, r1, r25, r2, r4, r6, r7, r9, r31, r32, r33, r10, r34, r35, r13, r14, r16, r17, r19, r36, r37]
def gs : List Nat := [0, 1]
def cs : List Nat := [1, 3, 6]
theorem b0 : BindP r0 := fun _ _ _ _ _ _ us hl => match us, hl with | [_], _ => rfl
theorem b1 : BindP r1 := fun _ _ _ _ _ _ us hl => match us, hl with | [_, _, _], _ => rfl
theorem b25 : BindP r25 := fun _ _ _ _ _ _ us hl => match us, hl with | [_, _, _], _ => rfl
theorem b2 : BindP r2 := fun _ _ _ _ _ _ us hl => match us, hl with | [_], _ => rfl
theorem b4 : BindP r4 := fun _ _ _ _ _ _ us hl => match us, hl with | [_], _ => rfl
theorem b6 : BindP r6 := fun _ _ _ _ _ _ us hl => match us, hl with | [_], _ => rfl
theorem b7 : BindP r7 := fun _ _ _ _ _ _ us hl => match us, hl with | [_], _ => rfl
theorem b9 : BindP r9 := fun _ _ _ _ _ _ us hl => match us, hl with | [_, _], _ => rfl
theorem b31 : BindP r31 := fun _ _ _ _ _ _ us hl => match us, hl with | [_], _ => rfl
theorem b32 : BindP r32 := fun _ _ _ _ _ _ us hl => match us, hl with | [_], _ => rfl
theorem b33 : BindP r33 := fun _ _ _ _ _ _ us hl => match us, hl with | [_, _], _ => rfl
theorem b10 : BindP r10 := fun _ _ _ _ _ _ us hl => match us, hl with | [_], _ => rfl
theorem b34 : BindP r34 := fun _ _ _ _ _ _ us hl => match us, hl with | [_], _ => rfl
theorem b35 : BindP r35 := fun _ _ _ _ _ _ us hl => match us, hl with | [_], _ => rfl
theorem b13 : BindP r13 := fun _ _ _ _ _ _ us hl => match us, hl with | [_, _], _ => rfl
theorem b14 : BindP r14 := fun _ _ _ _ _ _ us hl => match us, hl with | [_, _], _ => rfl
theorem b16 : BindP r16 := fun _ _ _ _ _ _ us hl => match us, hl with | [_, _], _ => rfl
theorem b17 : BindP r17 := fun _ _ _ _ _ _ us hl => match us, hl with | [_, _], _ => rfl
theorem b19 : BindP r19 := fun _ _ _ _ _ _ us hl => match us, hl with | [_], _ => rfl
theorem b36 : BindP r36 := fun _ _ _ _ _ _ us hl => match us, hl with | [_, _, _], _ => rfl
theorem b37 : BindP r37 := fun _ _ _ _ _ _ us hl => match us, hl with | [_], _ => rfl
theorem binds : AllB recs := .cons b0 (.cons b1 (.cons b25 (.cons b2 (.cons b4 (.cons b6 (.cons b7 (.cons b9 (.cons b31 (.cons b32 (.cons b33 (.cons b10 (.cons b34 (.cons b35 (.cons b13 (.cons b14 (.cons b16 (.cons b17 (.cons b19 (.cons b36 (.cons b37 (.nil)))))))))))))))))))))
theorem m0 : defB (fnmOf recs gs) (ernOf cs) r0.d r0.N r0.st = true := by decide +kernel
theorem m1 : defB (fnmOf recs gs) (ernOf cs) r1.d r1.N r1.st = true := by decide +kernel
theorem m25 : defB (fnmOf recs gs) (ernOf cs) r25.d r25.N r25.st = true := by decide +kernel
theorem m2 : defB (fnmOf recs gs) (ernOf cs) r2.d r2.N r2.st = true := by decide +kernel
theorem m4 : defB (fnmOf recs gs) (ernOf cs) r4.d r4.N r4.st = true := by decide +kernel
theorem m6 : defB (fnmOf recs gs) (ernOf cs) r6.d r6.N r6.st = true := by decide +kernel
theorem m7 : defB (fnmOf recs gs) (ernOf cs) r7.d r7.N r7.st = true := by decide +kernel
theorem m9 : defB (fnmOf recs gs) (ernOf cs) r9.d r9.N r9.st = true := by decide +kernel
theorem m31 : defB (fnmOf recs gs) (ernOf cs) r31.d r31.N r31.st = true := by decide +kernel
theorem m32 : defB (fnmOf recs gs) (ernOf cs) r32.d r32.N r32.st = true := by decide +kernel
theorem m33 : defB (fnmOf recs gs) (ernOf cs) r33.d r33.N r33.st = true := by decide +kernel
theorem m10 : defB (fnmOf recs gs) (ernOf cs) r10.d r10.N r10.st = true := by decide +kernel
theorem m34 : defB (fnmOf recs gs) (ernOf cs) r34.d r34.N r34.st = true := by decide +kernel
theorem m35 : defB (fnmOf recs gs) (ernOf cs) r35.d r35.N r35.st = true := by decide +kernel
theorem m13 : defB (fnmOf recs gs) (ernOf cs) r13.d r13.N r13.st = true := by decide +kernel
theorem m14 : defB (fnmOf recs gs) (ernOf cs) r14.d r14.N r14.st = true := by decide +kernel
theorem m16 : defB (fnmOf recs gs) (ernOf cs) r16.d r16.N r16.st = true := by decide +kernel
theorem m17 : defB (fnmOf recs gs) (ernOf cs) r17.d r17.N r17.st = true := by decide +kernel
theorem m19 : defB (fnmOf recs gs) (ernOf cs) r19.d r19.N r19.st = true := by decide +kernel
theorem m36 : defB (fnmOf recs gs) (ernOf cs) r36.d r36.N r36.st = true := by decide +kernel
theorem m37 : defB (fnmOf recs gs) (ernOf cs) r37.d r37.N r37.st = true := by decide +kernel
theorem match_ : AllM (fnmOf recs gs) (ernOf cs) recs := .cons m0 (.cons m1 (.cons m25 (.cons m2 (.cons m4 (.cons m6 (.cons m7 (.cons m9 (.cons m31 (.cons m32 (.cons m33 (.cons m10 (.cons m34 (.cons m35 (.cons m13 (.cons m14 (.cons m16 (.cons m17 (.cons m19 (.cons m36 (.cons m37 (.nil)))))))))))))))))))))
abbrev fn : List He.DefD := recs.map Rc.dd
abbrev fa : List He.Fa := faOf recs gs cs
abbrev R : PySem.W.OpenRow := PySem.W.OpenLaw.row PySem.Challenge.rw_turnlaced_k03_whole_numbers_of_rows
abbrev hk : PySem.W.Hook := He.hookD 4 fa fn
def ob (s : PySem.W.SharedT) : He.AlD := He.obsDG 4 fa fn (HandSHeadRun.getT s)
theorem ob_eq (s : PySem.W.SharedT) : ob s = hk.obs s.abs := He.obsDG_eq (HandSHeadRun.getT_eq s)
def loose : List PySem.Str := (["LaceError", "BadSize", "BadRow", "BadNumber", "MOST_CARDS", "MOST_LISTED", "is_integer", "is_from", "check_size", "is_order", "bar_of", "is_row", "check_row", "choose", "power_of_two", "how_many", "kth", "rank", "rows_of", "all_rows", "_law_random", "_law_below", "_law_pick", "_law_equal", "_law_row", "_law_order", "_law_every", "_law_told"] : List PySem.Str)
theorem run (w : World) : HandSHeadRun.RunEq R (PySem.W.view R.prog [31]) hk ob 8000 loose w := by
  intro os
  kernel_rfl
instance : Has (tabOf recs) 0 d0 := ⟨rfl⟩
instance : Has (tabOf recs) 1 d1 := ⟨rfl⟩
instance : Has (tabOf recs) 2 d2 := ⟨rfl⟩
instance : Has (tabOf recs) 4 d4 := ⟨rfl⟩
instance : Has (tabOf recs) 6 d6 := ⟨rfl⟩
instance : Has (tabOf recs) 7 d7 := ⟨rfl⟩
instance : Has (tabOf recs) 9 d9 := ⟨rfl⟩
instance : Has (tabOf recs) 10 d10 := ⟨rfl⟩
instance : Has (tabOf recs) 13 d13 := ⟨rfl⟩
instance : Has (tabOf recs) 14 d14 := ⟨rfl⟩
instance : Has (tabOf recs) 16 d16 := ⟨rfl⟩
instance : Has (tabOf recs) 17 d17 := ⟨rfl⟩
instance : Has (tabOf recs) 19 d19 := ⟨rfl⟩
instance : Has (tabOf recs) 25 d25 := ⟨rfl⟩
instance : Has (tabOf recs) 31 d31 := ⟨rfl⟩
instance : Has (tabOf recs) 32 d32 := ⟨rfl⟩
instance : Has (tabOf recs) 33 d33 := ⟨rfl⟩
instance : Has (tabOf recs) 34 d34 := ⟨rfl⟩
instance : Has (tabOf recs) 35 d35 := ⟨rfl⟩
instance : Has (tabOf recs) 36 d36 := ⟨rfl⟩
instance : Has (tabOf recs) 37 d37 := ⟨rfl⟩
theorem plain : ∀ xs : List Int, xs.length ≤ 63 → ∃ s, callF (tabOf recs) (59 + 1) r37.id [.ro (xs.map .int)] = .ok (.val (.bool true), s) := fun xs hx => k03_plain hx
end Lk03
open PySem PySem.W PySem.Calls PyProof.Rows
theorem PySem.Challenge.cw_turnlaced_k03_whole_numbers_of_rows_holds : PySem.Challenge.rw_turnlaced_k03_whole_numbers_of_rows.Holds := by
  w_on; o_law
  refine HandSHeadRun.head_any (r := OpenLaw.row PySem.Challenge.rw_turnlaced_k03_whole_numbers_of_rows) (q := view (OpenLaw.row PySem.Challenge.rw_turnlaced_k03_whole_numbers_of_rows).prog [31]) (H := Lk03.hk) (ob := Lk03.ob) (M := 8000) (loose := Lk03.loose) (d := HandSHeadRun.topDef (OpenLaw.row PySem.Challenge.rw_turnlaced_k03_whole_numbers_of_rows).prog 31) (kwd := []) Lk03.ob_eq
    (by kernel_rfl) (fun s => by kernel_rfl) Lk03.run (by kernel_rfl) (by kernel_rfl) (by kernel_rfl) (by rfl) (by first | assumption | decide +kernel) (by decide +kernel) ⟨rfl, rfl, rfl, rfl, rfl, by decide +kernel⟩ ?hw ?hc
  case hw => w_witness2
  case hc =>
    refine Msd.walk_ofW (l := PySem.Challenge.rw_turnlaced_k03_whole_numbers_of_rows) (n := 63) (k := 60) (x := "_law_script") rfl (by decide) (by kernel_rfl) ⟨rfl, by decide, by decide⟩ ?F
    case F =>
      intro w mg fa h Y G hmg0
      obtain ⟨K, KX, c⟩ := Y
      have hmg : mg ("law" : PySem.Str) = some (.ref fa) := by
        have e : (HandSHeadRun.topDef (OpenLaw.row PySem.Challenge.rw_turnlaced_k03_whole_numbers_of_rows).prog 31).name = ("law" : PySem.Str) := by kernel_rfl
        rw [← e]
        exact hmg0
      obtain ⟨fd, sp, h1, h2, h3⟩ := Msd.law_end (P := (PySem.Challenge.rw_turnlaced_k03_whole_numbers_of_rows).prog) (w := w) (r := Lk03.r37) (x := "_law_script") (n := 59) rfl rfl Lk03.plain KX G c Lk03.binds Lk03.match_ hmg
      exact ⟨K, fd, sp, KX, h1, h2, h3⟩
