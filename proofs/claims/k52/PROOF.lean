import PyProof.Rows.All
import Wide.All
import OpenK.AllK
import Wide.FinOn
import HandS.ForMost
import HandS.ForExc
import HandS.More
import HandS.Conv
import HandS.TupAny
import HandS.TupMul
import HandS.TupLe
import HandS.IsInst
import HandS.Zip
import HandS.Walk
import HandS.SortInts
import HandS.Style
import HandS.Deep
import HandS.Codes
import HandS.RaiseMore
import HandS.SetFor
import HandS.Text
import HandS.Lambda
import HandS.WordsExc
import HandS.Defaults
import KE.KStateDown
import Lean
import HandS.Head0
import HandS.Head1
import HandS.Head2
import HandS.HeadEnd
import HandS.HeadHook1
import HandS.HeadHook2
import HandS.HeadHook3
import HandS.HeadHook4
import PySem.Challenge.RW_orchardrows_k52_whole_yields
section
/-! PL0: a small language of data, expressions and commands, and what they yield. Core Lean alone. -/
set_option linter.all false
namespace PL

/-- data -/
inductive D where
  | non | bl (b : Bool) | int (i : Int) | str (l : List Nat) | lst (xs : List D) | tup (xs : List D)
  | dic (ks vs : List D) | cup | fn (n : Nat) | ty (n : Nat)
  deriving Inhabited

/-- the state: the cup of draws -/
structure S where
  cup : Option (Int × Int)
/-- an error: its class, its fields -/
structure Er where
  cls : Nat
  fs : List (List Nat × D)
inductive Out (α : Type) where
  | ok (a : α) (s : S) | er (e : Er) (s : S) | no
abbrev M (α : Type) := S → Out α
def ret {α : Type} (a : α) : M α := fun s => .ok a s
def fail {α : Type} : M α := fun _ => .no
def bnd {α β : Type} (x : M α) (f : α → M β) : M β := fun s => match x s with
  | .ok a s' => f a s'
  | .er e s' => .er e s'
  | .no => .no
def lift {α : Type} : Option α → M α
  | some a => ret a
  | none => fail

def BIG : Nat := 100000

/-! ### equality, order -/
mutual
def deq : D → D → Bool
  | .non, .non => true
  | .bl a, .bl b => a == b
  | .bl a, .int j => (if a then 1 else 0) == j
  | .int i, .bl b => i == (if b then 1 else 0)
  | .int i, .int j => i == j
  | .str a, .str b => a == b
  | .lst a, .lst b => deqs a b
  | .tup a, .tup b => deqs a b
  | _, _ => false
def deqs : List D → List D → Bool
  | [], [] => true
  | x :: xs, y :: ys => deq x y && deqs xs ys
  | _, _ => false
end
/-- plain data, nested at most so deep -/
def dok : Nat → D → Bool
  | _, .non => true
  | _, .bl _ => true
  | _, .int _ => true
  | _, .str _ => true
  | n + 1, .lst xs => xs.all (dok n)
  | n + 1, .tup xs => xs.all (dok n)
  | _, _ => false
/-! a < b of ints, texts, tuples of such -/
mutual
def dlt : D → D → Option Bool
  | .int i, .int j => some (decide (i < j))
  | .str a, .str b => some (decide (a < b))
  | .tup a, .tup b => dlts a b
  | _, _ => none
def dlts : List D → List D → Option Bool
  | [], [] => some false
  | [], _ :: _ => some true
  | _ :: _, [] => some false
  | x :: xs, y :: ys => if deq x y then dlts xs ys else dlt x y
end

/-! ### operators -/
inductive Bop where | add | sub | mul | fdiv | mod | pow
  deriving DecidableEq
inductive Cop where | eq | ne | lt | le | gt | ge | inn | nin | is | isn
  deriving DecidableEq

def small (i : Int) : Bool := decide (-(2 ^ 64) < i) && decide (i < 2 ^ 64)
def addD : D → D → Option D
  | .int i, .int j => some (.int (i + j))
  | .str a, .str b => if a.length + b.length ≤ BIG then some (.str (a ++ b)) else none
  | .lst a, .lst b => if a.length + b.length ≤ BIG then some (.lst (a ++ b)) else none
  | .tup a, .tup b => if a.length + b.length ≤ BIG then some (.tup (a ++ b)) else none
  | _, _ => none
def subD : D → D → Option D
  | .int i, .int j => some (.int (i - j))
  | _, _ => none
def mulD : D → D → Option D
  | .int i, .int j => if small i = true ∨ small j = true then some (.int (i * j)) else none
  | .str a, .int k => if a.length ≤ 100 ∧ 0 ≤ k ∧ k ≤ 20000 then some (.str (List.replicate k.toNat a).flatten) else none
  | .tup a, .int k => if a.length ≤ 1000 ∧ 1 ≤ a.length ∧ 1 ≤ k ∧ k ≤ 1000 then some (.tup (List.replicate k.toNat a).flatten) else none
  | .lst a, .int k => if a.length ≤ 1000 ∧ 0 ≤ k ∧ k ≤ 1000 then some (.lst (List.replicate k.toNat a).flatten) else none
  | _, _ => none
def fdivD : D → D → Option D
  | .int i, .int j => if 0 < j ∧ j < 1073741824 then some (.int (i / j)) else none
  | _, _ => none
def modD : D → D → Option D
  | .int i, .int j => if 0 < j then some (.int (i % j)) else none
  | _, _ => none
def powD : D → D → Option D
  | .int i, .int j => if 0 ≤ j ∧ j ≤ 1000 ∧ i.natAbs < 1000 then some (.int (i ^ j.toNat)) else none
  | _, _ => none
def bopD : Bop → D → D → Option D
  | .add => addD
  | .sub => subD
  | .mul => mulD
  | .fdiv => fdivD
  | .mod => modD
  | .pow => powD

def inD : D → D → Option Bool
  | .str [c], .str b => some (decide (c ∈ b))
  | x, .lst ys => if dok 60 x = true ∧ ys.all (dok 60) = true then some (ys.any fun y => deq y x) else none
  | x, .tup ys => if dok 60 x = true ∧ ys.all (dok 60) = true then some (ys.any fun y => deq y x) else none
  | _, _ => none
def isD : D → D → Option Bool
  | .non, .non => some true
  | .bl a, .bl b => some (a == b)
  | .bl _, .non => some false
  | .int _, .non => some false
  | .str _, .non => some false
  | .lst _, .non => some false
  | .tup _, .non => some false
  | .dic _ _, .non => some false
  | .non, .bl _ => some false
  | .int _, .bl _ => some false
  | .str _, .bl _ => some false
  | .lst _, .bl _ => some false
  | .tup _, .bl _ => some false
  | _, _ => none
def eqD (a b : D) : Option Bool := if dok 60 a = true ∧ dok 60 b = true then some (deq a b) else none
def ltD : D → D → Option Bool
  | .int i, .int j => some (decide (i < j))
  | .str i, .str j => some (decide (i < j))
  | _, _ => none
def leD : D → D → Option Bool
  | .int i, .int j => some (decide (i ≤ j))
  | .str i, .str j => some (!decide (j < i))
  | _, _ => none
def copD : Cop → D → D → Option Bool
  | .eq, a, b => eqD a b
  | .ne, a, b => (eqD a b).map (!·)
  | .lt, a, b => ltD a b
  | .le, a, b => leD a b
  | .gt, a, b => ltD b a
  | .ge, a, b => leD b a
  | .inn, a, b => inD a b
  | .nin, a, b => (inD a b).map (!·)
  | .is, a, b => isD a b
  | .isn, a, b => (isD a b).map (!·)

/-! ### items, slices -/
def ixN (n : Nat) (i : Int) : Option Nat := if 0 ≤ i then (if i < n then some i.toNat else none) else if -(n : Int) ≤ i then some (i + n).toNat else none
def atI {α : Type} (xs : List α) (i : Int) : Option α := (ixN xs.length i).bind fun j => xs[j]?
/-- the value of a key -/
def look (k : D) : List D → List D → Option D
  | x :: xs, v :: vs => if deq x k then some v else look k xs vs
  | _, _ => none
def idxD : D → D → Option D
  | .lst xs, .int i => atI xs i
  | .tup xs, .int i => atI xs i
  | .str l, .int i => (atI l i).map fun c => .str [c]
  | _, _ => none
/-- a slice's end -/
def sIx (n d : Nat) : Option Int → Nat
  | none => d
  | some v => if v < 0 then (v + (n : Int)).toNat else min v.toNat n
def cutL {α : Type} (xs : List α) (lo hi : Option Int) : List α := (xs.drop (sIx xs.length 0 lo)).take (sIx xs.length xs.length hi - sIx xs.length 0 lo)
def slcD : D → Option Int → Option Int → Option D
  | .lst xs, lo, hi => some (.lst (cutL xs lo hi))
  | .tup xs, lo, hi => some (.tup (cutL xs lo hi))
  | .str l, lo, hi => some (.str (cutL l lo hi))
  | _, _, _ => none
def revD : D → Option D
  | .lst xs => some (.lst xs.reverse)
  | .tup xs => some (.tup xs.reverse)
  | .str l => some (.str l.reverse)
  | _ => none

/-! ### built-in functions, methods -/
def allInt : List D → Option (List Int)
  | [] => some []
  | .int i :: r => (allInt r).map (i :: ·)
  | _ => none
def allBl : List D → Option (List Bool)
  | [] => some []
  | .bl i :: r => (allBl r).map (i :: ·)
  | _ => none
def allStr : List D → Option (List (List Nat))
  | [] => some []
  | .str i :: r => (allStr r).map (i :: ·)
  | _ => none
def itemsD : D → Option (List D)
  | .lst xs => some xs
  | .tup xs => some xs
  | .str l => some (l.map fun c => .str [c])
  | _ => none
def insI (i : Int) : List Int → List Int
  | [] => [i]
  | j :: r => if i ≤ j then i :: j :: r else j :: insI i r
def sortI : List Int → List Int
  | [] => []
  | i :: r => insI i (sortI r)
def dedI : List Int → List Int
  | [] => []
  | i :: r => if i ∈ r then dedI r else i :: dedI r
def maxI : Int → List Int → Int
  | m, [] => m
  | m, i :: r => maxI (if i > m then i else m) r
def minI : Int → List Int → Int
  | m, [] => m
  | m, i :: r => minI (if i < m then i else m) r
def joinS (sep : List Nat) : List (List Nat) → List Nat
  | [] => []
  | [x] => x
  | x :: y :: r => x ++ (sep ++ joinS sep (y :: r))

inductive Bf where
  | len | abs | int | str | tuple | list | sum | max | min | max2 | min2 | all | any | sorted | sortedSet | lenSet
  deriving DecidableEq
def tyOf : D → Option Nat
  | .non => some 9
  | .bl _ => some 1
  | .int _ => some 0
  | .str _ => some 2
  | .tup _ => some 3
  | .lst _ => some 4
  | _ => none
/-- isinstance(x, T): T 0 int, 1 bool, 2 str, 3 tuple, 4 list -/
def isiD (t : Nat) (x : D) : Option Bool := (tyOf x).map fun k => k == t || (k == 1 && t == 0)
def lenD : D → Option D
  | .lst xs => some (.int xs.length)
  | .tup xs => some (.int xs.length)
  | .str l => some (.int l.length)
  | _ => none
def absD : D → Option D
  | .int i => some (.int (if i < 0 then -i else i))
  | _ => none
def intD : D → Option D
  | .int i => some (.int i)
  | _ => none
def strD : D → Option D
  | .str l => some (.str l)
  | _ => none
def tupleD : D → Option D
  | .lst xs => some (.tup xs)
  | .tup xs => some (.tup xs)
  | _ => none
def listD : D → Option D
  | .lst xs => some (.lst xs)
  | .tup xs => some (.lst xs)
  | _ => none
def intsD (f : List Int → Option D) : D → Option D
  | .lst xs => (allInt xs).bind f
  | .tup xs => (allInt xs).bind f
  | _ => none
def intsL (f : List Int → Option D) : D → Option D
  | .lst xs => (allInt xs).bind f
  | _ => none
def maxF : List Int → Option D
  | [] => none
  | m :: r => some (.int (maxI m r))
def minF : List Int → Option D
  | [] => none
  | m :: r => some (.int (minI m r))
def blsD (f : List Bool → Bool) : D → Option D
  | .lst xs => (allBl xs).map fun bs => .bl (f bs)
  | _ => none
def max2D : D → D → Option D
  | .int i, .int j => some (.int (if j > i then j else i))
  | _, _ => none
def min2D : D → D → Option D
  | .int i, .int j => some (.int (if j < i then j else i))
  | _, _ => none
def lenSetD : D → Option D
  | .tup xs => (allInt xs).map fun ns => .int (dedI ns).length
  | _ => none
def bif1 : Bf → D → Option D
  | .len => lenD
  | .abs => absD
  | .int => intD
  | .str => strD
  | .tuple => tupleD
  | .list => listD
  | .sum => intsD fun ns => some (.int ns.sum)
  | .max => intsD maxF
  | .min => intsD minF
  | .all => blsD fun bs => bs.all id
  | .any => blsD fun bs => bs.any id
  | .sorted => intsL fun ns => some (.lst ((sortI ns).map .int))
  | .sortedSet => intsL fun ns => if (dedI ns).length < 64 then some (.lst ((sortI (dedI ns)).map .int)) else none
  | .lenSet => lenSetD
  | .max2 => fun _ => none
  | .min2 => fun _ => none
def bif2 : Bf → D → D → Option D
  | .max2 => max2D
  | .min2 => min2D
  | _ => fun _ _ => none
def bifD (b : Bf) : List D → Option D
  | [x] => bif1 b x
  | [x, y] => bif2 b x y
  | _ => none
inductive Mf where
  | join | count | upper
  deriving DecidableEq
def joinD (sep : List Nat) (xs : List D) : Option D := (allStr xs).bind fun ls => if (ls.map List.length).sum + ls.length * sep.length ≤ BIG then some (.str (joinS sep ls)) else none
/-- the receiver -/
def recD : Mf → D → Option Unit
  | .join, .str _ => some ()
  | .count, .lst _ => some ()
  | _, _ => none
def metD : Mf → D → List D → Option D
  | .join, .str sep, [.lst xs] => joinD sep xs
  | .join, .str sep, [.tup xs] => joinD sep xs
  | .count, .lst xs, [.int i] => (allInt xs).map fun ns => .int (ns.count i)
  | _, _, _ => none

/-! ### the language -/
inductive Tg where
  | nm (i : Nat) | tp (is : List Nat)
mutual
inductive E where
  | non | bl (b : Bool) | int (i : Int) | str (l : List Nat)
  | var (i : Nat) | own (i : Nat) | glo (n : Nat)
  | tup (es : Es) | lst (es : Es)
  | bin (o : Bop) (a b : E) | neg (a : E) | not (a : E) | and (es : Es) | or (es : Es)
  | ite (c a b : E) | cmp (o : Cop) (a b : E) | chn (o p : Cop) (a b c : E)
  | idx (a i : E) | slc (a : E) (lo hi : OE) | rev (a : E)
  | isi (t : Nat) (a : E) | bif (b : Bf) (es : Es) | call (f : Nat) (es : Es) | met (m : Mf) (o : E) (es : Es)
  | lc (elt : E) (tg : Tg) (it : I) (c : OE) (own : List Nat)
  | lc2 (elt : E) (tg : Tg) (it : I) (c : OE) (tg1 : Tg) (it1 : I) (c1 : OE) (own own1 : List Nat)
inductive OE where
  | no | so (e : E)
inductive I where
  | e (a : E) | r1 (a : E) | r2 (a b : E) | zp (a b : E) | en (a : E)
inductive Es where
  | nil | cons (e : E) (es : Es)
end
inductive Sl where
  | val (d : D) | own (xs : List D) | owd (ks vs : List D)
abbrev Env := List (Option Sl)
inductive Fl where
  | nx (ρ : Env) | rt (d : D)
mutual
inductive C where
  | set (i : Nat) (e : E) | setO (i : Nat) (e : E) | unp (is : List Nat) (e : E)
  | par (is : List (Nat × Bool)) (es : Es)
  | aug (i : Nat) (o : Bop) (e : E)
  | app (i : Nat) (e : E) | setI (i : Nat) (k e : E) | cupS (i : Nat) (k e : E)
  | exp (e : E) | ret (e : E) | retN
  | ifs (c : E) (a b : Cs) | for_ (tg : Tg) (it : I) (b : Cs) | whl (c : E) (b : Cs)
  | rse (c : Nat) (l : List Nat) | frz (i : Nat) | pass | nev
inductive Cs where
  | nil | cons (c : C) (cs : Cs)
end

/-! ### what they yield -/
def asB : D → M Bool
  | .bl b => ret b
  | _ => fail
def get (ρ : Env) (i : Nat) : M D := match ρ[i]? with
  | some (some (.val d)) => ret d
  | _ => fail
def getO (ρ : Env) (i : Nat) : M D := match ρ[i]? with
  | some (some (.own xs)) => ret (.lst xs)
  | some (some (.owd ks vs)) => ret (.dic ks vs)
  | some (some (.val d)) => ret d
  | _ => fail
def setAll : List Nat → List D → Env → Env
  | i :: is, d :: ds, ρ => setAll is ds (ρ.set i (some (.val d)))
  | _, _, ρ => ρ
def asg : Tg → D → Env → M Env
  | .nm i, d, ρ => ret (ρ.set i (some (.val d)))
  | .tp is, .tup ds, ρ => if ds.length = is.length then ret (setAll is ds ρ) else fail
  | _, _, _ => fail
def wipeE (ρ : Env) : List Nat → Env
  | [] => ρ
  | v :: vs => (wipeE ρ vs).set v none
/-- no error -/
def nr {α : Type} (x : M α) : M α := fun s => match x s with
  | .ok a s' => .ok a s'
  | _ => .no
def catM (turn : D → M (List D)) : List D → M (List D)
  | [] => ret []
  | x :: xs => bnd (turn x) fun l => bnd (catM turn xs) fun r => ret (l ++ r)
def rangeD (lo : Int) (n : Nat) : List D := (List.range n).map fun (i : Nat) => .int (lo + (i : Int))
def zipD : List D → List D → List D
  | x :: xs, y :: ys => .tup [x, y] :: zipD xs ys
  | _, _ => []
def enumD : Nat → List D → List D
  | _, [] => []
  | n, x :: xs => .tup [.int n, x] :: enumD (n + 1) xs
def zipI : D → D → Option (List D)
  | .lst xs, .lst ys => some (zipD xs ys)
  | .tup xs, .tup ys => some (zipD xs ys)
  | _, _ => none
def enumI : D → Option (List D)
  | .lst xs => some (enumD 0 xs)
  | _ => none
def asI : D → M Int
  | .int i => ret i
  | _ => fail
def asIo : Option D → M (Option Int)
  | none => ret none
  | some (.int i) => ret (some i)
  | _ => fail
def cupGet (i : D) : M D := fun s => match s.cup, i with
  | some (a, _), .int 0 => .ok (.int a) s
  | some (_, b), .int 1 => .ok (.int b) s
  | _, _ => .no
def cupPut (i : D) (d : D) : M Unit := fun s => match s.cup, i, d with
  | some (_, b), .int 0, .int a => .ok () { s with cup := some (a, b) }
  | some (a, _), .int 1, .int b => .ok () { s with cup := some (a, b) }
  | _, _, _ => .no
def idxM : D → D → M D
  | .cup, i => cupGet i
  | a, i => lift (idxD a i)

structure Ct where
  /-- a call -/
  cf : Nat → List D → M D
  /-- the constants -/
  cs : Nat → Option D

section
variable (T : Ct)
mutual
def evE : E → Env → M D
  | .non, _ => ret .non
  | .bl b, _ => ret (.bl b)
  | .int i, _ => ret (.int i)
  | .str l, _ => ret (.str l)
  | .var i, ρ => get ρ i
  | .own i, ρ => getO ρ i
  | .glo n, _ => lift (T.cs n)
  | .tup es, ρ => bnd (evEs es ρ) fun ds => ret (.tup ds)
  | .lst es, ρ => bnd (evEs es ρ) fun ds => ret (.lst ds)
  | .bin o a b, ρ => bnd (evE a ρ) fun x => bnd (evE b ρ) fun y => lift (bopD o x y)
  | .neg a, ρ => bnd (evE a ρ) fun x => bnd (asI x) fun i => ret (.int (-i))
  | .not a, ρ => bnd (evE a ρ) fun x => bnd (asB x) fun b => ret (.bl (!b))
  | .and es, ρ => evAnd es ρ
  | .or es, ρ => evOr es ρ
  | .ite c a b, ρ => bnd (evE c ρ) fun x => bnd (asB x) fun k => if k = true then evE a ρ else evE b ρ
  | .cmp o a b, ρ => bnd (evE a ρ) fun x => bnd (evE b ρ) fun y => bnd (lift (copD o x y)) fun k => ret (.bl k)
  | .chn o p a b c, ρ => bnd (evE a ρ) fun x => bnd (evE b ρ) fun y => bnd (lift (copD o x y)) fun k =>
      if k = true then bnd (evE c ρ) fun z => bnd (lift (copD p y z)) fun k2 => ret (.bl k2) else ret (.bl false)
  | .idx a i, ρ => bnd (evE a ρ) fun x => bnd (evE i ρ) fun y => idxM x y
  | .slc a lo hi, ρ => bnd (evE a ρ) fun x => bnd (evO lo ρ) fun l => bnd (asIo l) fun l => bnd (evO hi ρ) fun h => bnd (asIo h) fun h => lift (slcD x l h)
  | .rev a, ρ => bnd (evE a ρ) fun x => lift (revD x)
  | .isi t a, ρ => bnd (evE a ρ) fun x => bnd (lift (isiD t x)) fun k => ret (.bl k)
  | .bif b es, ρ => bnd (evEs es ρ) fun ds => lift (bifD b ds)
  | .call f es, ρ => bnd (evEs es ρ) fun ds => T.cf f ds
  | .met m o es, ρ => bnd (evE o ρ) fun x => bnd (lift (recD m x)) fun _ => bnd (evEs es ρ) fun ds => lift (metD m x ds)
  | .lc elt tg it c own, ρ => bnd (evI it ρ) fun xs =>
      bnd (catM (fun x => nr (bnd (asg tg x (wipeE ρ own)) fun ρ1 => bnd (evTs c ρ1) fun k =>
        if k = true then bnd (evE elt ρ1) fun d => ret [d] else ret [])) xs) fun ys => ret (.lst ys)
  | .lc2 elt tg it c tg1 it1 c1 own own1, ρ => bnd (evI it ρ) fun xs =>
      bnd (catM (fun x => nr (bnd (asg tg x (wipeE ρ own)) fun ρ1 => bnd (evTs c ρ1) fun k =>
        if k = true then bnd (evI it1 ρ1) fun zs => catM (fun z => bnd (asg tg1 z (wipeE ρ1 own1)) fun ρ2 => bnd (evTs c1 ρ2) fun k =>
          if k = true then bnd (evE elt ρ2) fun d => ret [d] else ret []) zs else ret [])) xs) fun ys => if ys.length ≤ BIG then ret (.lst ys) else fail
def evTs : OE → Env → M Bool
  | .no, _ => ret true
  | .so e, ρ => bnd (evE e ρ) asB
def evO : OE → Env → M (Option D)
  | .no, _ => ret none
  | .so e, ρ => bnd (evE e ρ) fun d => ret (some d)
def evI : I → Env → M (List D)
  | .e a, ρ => bnd (evE a ρ) fun x => lift (itemsD x)
  | .r1 a, ρ => bnd (evE a ρ) fun x => bnd (asI x) fun j => if -1000000 ≤ j ∧ j ≤ BIG then ret (rangeD 0 j.toNat) else fail
  | .r2 a b, ρ => bnd (evE a ρ) fun x => bnd (evE b ρ) fun y => bnd (asI x) fun i => bnd (asI y) fun j =>
      if -1000000 ≤ i ∧ i ≤ 1000000 ∧ -1000000 ≤ j ∧ j ≤ 1000000 ∧ (j - i) ≤ BIG then ret (rangeD i (j - i).toNat) else fail
  | .zp a b, ρ => bnd (evE a ρ) fun x => bnd (evE b ρ) fun y => bnd (lift (zipI x y)) ret
  | .en a, ρ => bnd (evE a ρ) fun x => bnd (lift (enumI x)) ret
def evEs : Es → Env → M (List D)
  | .nil, _ => ret []
  | .cons e es, ρ => bnd (evE e ρ) fun d => bnd (evEs es ρ) fun ds => ret (d :: ds)
def evAnd : Es → Env → M D
  | .nil, _ => fail
  | .cons e .nil, ρ => evE e ρ
  | .cons e es, ρ => bnd (evE e ρ) fun x => bnd (asB x) fun b => if b = true then evAnd es ρ else ret (.bl false)
def evOr : Es → Env → M D
  | .nil, _ => fail
  | .cons e .nil, ρ => evE e ρ
  | .cons e es, ρ => bnd (evE e ρ) fun x => bnd (asB x) fun b => if b = true then ret (.bl true) else evOr es ρ
end

/-- x op= y -/
def augD : Bop → D → D → Option D
  | .pow, _, _ => none
  | o, .int i, .int j => bopD o (.int i) (.int j)
  | .add, .str a, .str b => addD (.str a) (.str b)
  | _, _, _ => none
def loopFuel : Nat := 1000000
def forM (body : Env → M Fl) (tg : Tg) : List D → Env → M Fl
  | [], ρ => ret (.nx ρ)
  | x :: xs, ρ => bnd (asg tg x ρ) fun ρ1 => bnd (body ρ1) fun f => match f with
    | .nx ρ2 => forM body tg xs ρ2
    | .rt d => ret (.rt d)
def whileM (c : Env → M Bool) (body : Env → M Fl) : Nat → Env → M Fl
  | 0, _ => fail
  | n + 1, ρ => bnd (c ρ) fun b => if b = true then bnd (body ρ) fun f => (match f with
      | .nx ρ2 => whileM c body n ρ2
      | .rt d => ret (.rt d)) else ret (.nx ρ)
def toOwn : D → Option Sl
  | .lst xs => some (.own xs)
  | .dic ks vs => some (.owd ks vs)
  | _ => none
def setPar : List (Nat × Bool) → List D → Env → Option Env
  | [], [], ρ => some ρ
  | (i, false) :: is, d :: ds, ρ => setPar is ds (ρ.set i (some (.val d)))
  | (i, true) :: is, d :: ds, ρ => (toOwn d).bind fun o => setPar is ds (ρ.set i (some o))
  | _, _, _ => none
/-- a dict with a value put -/
def putL (k v : D) : List D → List D → List D × List D
  | x :: xs, y :: ys => if deq x k then (x :: xs, v :: ys) else ((x :: (putL k v xs ys).1), (y :: (putL k v xs ys).2))
  | _, _ => ([k], [v])
def appE (ρ : Env) (i : Nat) (d : D) : Option Env := match ρ[i]? with
  | some (some (.own xs)) => if xs.length < BIG then some (ρ.set i (some (.own (xs ++ [d])))) else none
  | _ => none
def ownd (ρ : Env) (i : Nat) : M Unit := match ρ[i]? with
  | some (some (.own _)) => ret ()
  | _ => fail
def setIE (ρ : Env) (i : Nat) (k d : D) : Option Env := match ρ[i]?, k with
  | some (some (.own xs)), .int j => (ixN xs.length j).map fun j => ρ.set i (some (.own (xs.set j d)))
  | _, _ => none
def frzE (ρ : Env) (i : Nat) : Env := match ρ[i]? with
  | some (some (.own xs)) => ρ.set i (some (.val (.lst xs)))
  | some (some (.owd ks vs)) => ρ.set i (some (.val (.dic ks vs)))
  | _ => ρ
mutual
def evC : C → Env → M Fl
  | .set i e, ρ => bnd (evE T e ρ) fun d => ret (.nx (ρ.set i (some (.val d))))
  | .setO i e, ρ => bnd (evE T e ρ) fun d => bnd (lift (toOwn d)) fun o => ret (.nx (ρ.set i (some o)))
  | .unp is e, ρ => bnd (evE T e ρ) fun d => bnd (asg (.tp is) d ρ) fun ρ1 => ret (.nx ρ1)
  | .par is es, ρ => bnd (evEs T es ρ) fun ds => bnd (lift (setPar is ds ρ)) fun ρ1 => ret (.nx ρ1)
  | .aug i o e, ρ => bnd (get ρ i) fun x => bnd (evE T e ρ) fun y => bnd (lift (augD o x y)) fun z => ret (.nx (ρ.set i (some (.val z))))
  | .app i e, ρ => bnd (ownd ρ i) fun _ => bnd (evE T e ρ) fun d => bnd (lift (appE ρ i d)) fun ρ1 => ret (.nx ρ1)
  | .setI i k e, ρ => bnd (ownd ρ i) fun _ => bnd (evE T e ρ) fun d => bnd (evE T k ρ) fun k => bnd (lift (setIE ρ i k d)) fun ρ1 => ret (.nx ρ1)
  | .cupS i k e, ρ => bnd (evE T e ρ) fun d => bnd (get ρ i) fun c => bnd (evE T k ρ) fun k => (match c with
      | .cup => bnd (cupPut k d) fun _ => ret (.nx ρ)
      | _ => fail)
  | .exp e, ρ => bnd (evE T e ρ) fun _ => ret (.nx ρ)
  | .ret e, ρ => bnd (evE T e ρ) fun d => ret (.rt d)
  | .retN, _ => ret (.rt .non)
  | .ifs c a b, ρ => bnd (evE T c ρ) fun x => bnd (asB x) fun k => if k = true then evCs a ρ else evCs b ρ
  | .for_ tg it b, ρ => bnd (evI T it ρ) fun xs => forM (fun ρ => evCs b ρ) tg xs ρ
  | .whl c b, ρ => whileM (fun ρ => bnd (evE T c ρ) asB) (fun ρ => evCs b ρ) loopFuel ρ
  | .rse c l, ρ => fun s => .er ⟨c, []⟩ s
  | .frz i, ρ => ret (.nx (frzE ρ i))
  | .pass, ρ => ret (.nx ρ)
  | .nev, _ => fail
def evCs : Cs → Env → M Fl
  | .nil, ρ => ret (.nx ρ)
  | .cons c cs, ρ => bnd (evC c ρ) fun f => match f with
    | .nx ρ1 => evCs cs ρ1
    | .rt d => ret (.rt d)
end
end

/-- a def: how many slots, its body -/
structure Fn where
  ps : Nat
  sl : Nat
  body : Cs
def startE (n : Nat) (ds : List D) : Env := ds.map (fun d => some (.val d)) ++ List.replicate (n - ds.length) none
def runF (T : Ct) (f : Fn) (ds : List D) : M D := if ds.length = f.ps then bnd (evCs T f.body (startE f.sl ds)) fun r => (match r with
  | .nx _ => ret .non
  | .rt d => ret d) else fail
/-- the calls, so many deep -/
def calls (P : Nat → Option Fn) (cs : Nat → Option D) : Nat → Nat → List D → M D
  | 0 => fun _ _ => fail
  | n + 1 => fun f ds => match P f with
    | some d => runF ⟨calls P cs n, cs⟩ d ds
    | none => fail
end PL
end

section
set_option Elab.async false
set_option linter.all false
set_option maxRecDepth 100000
set_option maxHeartbeats 4000000
/-! PL1: how data lie in the abstract heap; readings of what PL0 yields. -/
namespace PL
open PySem PySem.Spec PyProof.Rows L2

def sS (l : List Nat) : Str := ⟨l.toArray⟩
def okS (l : List Nat) : Prop := l.length ≤ sizeLine ∧ ∀ c ∈ l, c < 1114112
theorem big_line : BIG < sizeLine := by rw [sizeLine_eq]; decide

structure Wd where
  F : Addr → Prop
  cup : Option Addr
  dis : ∀ a, F a → cup ≠ some a

def keyD : Key → D
  | .inl i => .int i
  | .inr x => .str x.cps.toList
def okK : Key → Prop
  | .inl _ => True
  | .inr x => okS x.cps.toList

mutual
inductive Rp (K : PySem.W.Frag) (Ω : Wd) (H : Hp) : V → D → Prop
  | non : Rp K Ω H .non .non
  | bl (b : Bool) : Rp K Ω H (.bl b) (.bl b)
  | int (i : Int) : Rp K Ω H (.int i) (.int i)
  | str {l : List Nat} : okS l → Rp K Ω H (.str (sS l)) (.str l)
  | lst {a : Addr} {xs : List V} {ds : List D} : Ω.F a → H a = some (.lst xs) → RpA K Ω H xs ds → Rp K Ω H (.ref a) (.lst ds)
  | tup {a : Addr} {xs : List V} {ds : List D} : SqT K H a xs → RpA K Ω H xs ds → Rp K Ω H (.ref a) (.tup ds)
  | dic {a : Addr} {kvs : List (Key × V)} {vs : List D} : Ω.F a → Rd H a (.dK kvs) → (∀ p ∈ kvs, okK p.1) → RpA K Ω H (kvs.map (·.2)) vs → Rp K Ω H (.ref a) (.dic (kvs.map fun p => keyD p.1) vs)
  | cup {a : Addr} : Ω.cup = some a → Rp K Ω H (.ref a) .cup
inductive RpA (K : PySem.W.Frag) (Ω : Wd) (H : Hp) : List V → List D → Prop
  | nil : RpA K Ω H [] []
  | cons {v : V} {vs : List V} {d : D} {ds : List D} : Rp K Ω H v d → RpA K Ω H vs ds → RpA K Ω H (v :: vs) (d :: ds)
end

def isLst : HO → Bool
  | .lst _ => true
  | _ => false
/-- what stood stands: all but the cup -/
structure Le (Ω : Wd) (H : Hp) (Ω' : Wd) (H' : Hp) : Prop where
  F : ∀ a, Ω.F a → Ω'.F a
  new : ∀ a, Ω'.F a → Ω.F a ∨ H a = none
  cup : Ω'.cup = Ω.cup
  keep : ∀ a o, H a = some o → (Ω.cup = some a → isLst o = false) → H' a = some o
  there : ∀ a o, H a = some o → ∃ o', H' a = some o'

theorem Le.refl (Ω : Wd) (H : Hp) : Le Ω H Ω H := ⟨fun _ h => h, fun _ h => .inl h, rfl, fun _ _ h _ => h, fun _ o h => ⟨o, h⟩⟩
theorem Le.trans {Ω Ω1 Ω2 : Wd} {H H1 H2 : Hp} (a : Le Ω H Ω1 H1) (b : Le Ω1 H1 Ω2 H2) : Le Ω H Ω2 H2 where
  F := fun x h => b.F x (a.F x h)
  new := fun x h => by
    rcases b.new x h with h | h
    · exact a.new x h
    · right
      cases q : H x with
      | none => rfl
      | some o =>
        obtain ⟨o', e⟩ := a.there x o q
        rw [h] at e; cases e
  cup := b.cup.trans a.cup
  keep := fun x o h c => b.keep x o (a.keep x o h c) (fun e => c (a.cup ▸ e))
  there := fun x o h => by
    obtain ⟨o', e⟩ := a.there x o h
    exact b.there x o' e
theorem Le.free {Ω Ω' : Wd} {H H' : Hp} (a : Le Ω H Ω' H') {p : Addr} (h : H' p = none) : H p = none := by
  cases q : H p with
  | none => rfl
  | some o =>
    obtain ⟨o', e⟩ := a.there p o q
    rw [h] at e; cases e
/-- one more frozen -/
def Wd.add (Ω : Wd) (p : Addr) (h : Ω.cup ≠ some p) : Wd := ⟨fun a => Ω.F a ∨ a = p, Ω.cup, fun a q => by
  rcases q with q | q
  · exact Ω.dis a q
  · rw [q]; exact h⟩
theorem Le.new_at {Ω : Wd} {H : Hp} {p : Addr} {o : HO} (hp : H p = none) (h : Ω.cup ≠ some p) : Le Ω H (Ω.add p h) (upd H p o) where
  F := fun a q => .inl q
  new := fun a q => by
    rcases q with q | q
    · exact .inl q
    · right; rw [q]; exact hp
  cup := rfl
  keep := fun a u q _ => by rw [upd_ne (ne_of_none q hp)]; exact q
  there := fun a u q => ⟨u, by rw [upd_ne (ne_of_none q hp)]; exact q⟩
theorem Le.upd_new {Ω : Wd} {H : Hp} {p : Addr} {o : HO} (hp : H p = none) : Le Ω H Ω (upd H p o) where
  F := fun a q => q
  new := fun a q => .inl q
  cup := rfl
  keep := fun a u q _ => by rw [upd_ne (ne_of_none q hp)]; exact q
  there := fun a u q => ⟨u, by rw [upd_ne (ne_of_none q hp)]; exact q⟩
theorem Le.rd {Ω Ω' : Wd} {H H' : Hp} (e : Le Ω H Ω' H') {a : Addr} {u : HO} (h : Rd H a u) (n : isLst u = false) : Rd H' a u := by
  rcases h with h | ⟨o, h⟩
  · exact .inl (e.keep a u h fun _ => n)
  · exact .inr ⟨o, e.keep a _ h fun _ => rfl⟩
theorem Le.sqT {K : PySem.W.Frag} {Ω Ω' : Wd} {H H' : Hp} (e : Le Ω H Ω' H') {a : Addr} {xs : List V} (h : SqT K H a xs) : SqT K H' a xs := by
  rcases h with h | h
  · exact .inl (e.rd h rfl)
  · exact .inr h

section
variable {K : PySem.W.Frag} {Ω Ω' : Wd} {H H' : Hp}
mutual
theorem Rp.mono (e : Le Ω H Ω' H') : ∀ {v : V} {d : D}, Rp K Ω H v d → Rp K Ω' H' v d
  | _, _, .non => .non
  | _, _, .bl b => .bl b
  | _, _, .int i => .int i
  | _, _, .str h => .str h
  | _, _, .lst f h r => .lst (e.F _ f) (e.keep _ _ h fun q => absurd q (Ω.dis _ f)) (RpA.mono e r)
  | _, _, .tup h r => .tup (e.sqT h) (RpA.mono e r)
  | _, _, .dic f h k r => .dic (e.F _ f) (e.rd h rfl) k (RpA.mono e r)
  | _, _, .cup h => .cup (e.cup.trans h)
theorem RpA.mono (e : Le Ω H Ω' H') : ∀ {v : List V} {d : List D}, RpA K Ω H v d → RpA K Ω' H' v d
  | _, _, .nil => .nil
  | _, _, .cons h r => .cons (Rp.mono e h) (RpA.mono e r)
end
theorem RpA.length : ∀ {v : List V} {d : List D}, RpA K Ω H v d → v.length = d.length
  | _, _, .nil => rfl
  | _, _, .cons _ r => congrArg Nat.succ (RpA.length r)
theorem RpA.get : ∀ {vs : List V} {ds : List D} {i : Nat} {d : D}, RpA K Ω H vs ds → ds[i]? = some d → ∃ v, vs[i]? = some v ∧ Rp K Ω H v d
  | _, _, _, _, .nil, h => by simp at h
  | _, _, 0, _, .cons r _, h => by simp at h; subst h; exact ⟨_, rfl, r⟩
  | _, _, i + 1, _, .cons _ t, h => by
    obtain ⟨v, h1, h2⟩ := RpA.get (i := i) t (by simpa using h)
    exact ⟨v, by simpa using h1, h2⟩
theorem RpA.get' : ∀ {vs : List V} {ds : List D} {i : Nat} {v : V}, RpA K Ω H vs ds → vs[i]? = some v → ∃ d, ds[i]? = some d ∧ Rp K Ω H v d
  | _, _, _, _, .nil, h => by simp at h
  | _, _, 0, _, .cons r _, h => by simp at h; subst h; exact ⟨_, rfl, r⟩
  | _, _, i + 1, _, .cons _ t, h => by
    obtain ⟨v, h1, h2⟩ := RpA.get' (i := i) t (by simpa using h)
    exact ⟨v, by simpa using h1, h2⟩
theorem RpA.append : ∀ {vs ws : List V} {ds es : List D}, RpA K Ω H vs ds → RpA K Ω H ws es → RpA K Ω H (vs ++ ws) (ds ++ es)
  | _, _, _, _, .nil, s => s
  | _, _, _, _, .cons r t, s => .cons r (RpA.append t s)
theorem RpA.take : ∀ {vs : List V} {ds : List D} (n : Nat), RpA K Ω H vs ds → RpA K Ω H (vs.take n) (ds.take n)
  | _, _, 0, _ => .nil
  | _, _, _ + 1, .nil => .nil
  | _, _, n + 1, .cons r t => .cons r (RpA.take n t)
theorem RpA.drop : ∀ {vs : List V} {ds : List D} (n : Nat), RpA K Ω H vs ds → RpA K Ω H (vs.drop n) (ds.drop n)
  | _, _, 0, r => r
  | _, _, _ + 1, .nil => .nil
  | _, _, n + 1, .cons _ t => RpA.drop n t
theorem RpA.reverse {vs : List V} {ds : List D} (h : RpA K Ω H vs ds) : RpA K Ω H vs.reverse ds.reverse := by
  induction vs generalizing ds with
  | nil => cases h; exact .nil
  | cons v vs ih =>
    cases h with
    | cons r t =>
      rw [List.reverse_cons, List.reverse_cons]
      exact (ih t).append (.cons r .nil)
theorem RpA.rep {vs : List V} {ds : List D} (h : RpA K Ω H vs ds) : ∀ k : Nat, RpA K Ω H (List.replicate k vs).flatten (List.replicate k ds).flatten
  | 0 => .nil
  | k + 1 => by
    rw [List.replicate_succ, List.replicate_succ, List.flatten_cons, List.flatten_cons]
    exact h.append (RpA.rep h k)
theorem RpA.set {v : V} {d : D} (r : Rp K Ω H v d) : ∀ {vs : List V} {ds : List D} (i : Nat), RpA K Ω H vs ds → RpA K Ω H (vs.set i v) (ds.set i d)
  | _, _, _, .nil => .nil
  | _, _, 0, .cons _ t => .cons r t
  | _, _, i + 1, .cons q t => .cons q (RpA.set r i t)
theorem RpA.ints : ∀ {vs : List V} {ds : List D} {ns : List Int}, RpA K Ω H vs ds → allInt ds = some ns → vs = ns.map V.int
  | _, _, _, .nil, h => by cases h; rfl
  | _, _, _, .cons r t, h => by
    cases r with
    | int i =>
      unfold allInt at h
      obtain ⟨ms, h1, h2⟩ := Option.map_eq_some_iff.mp h
      subst h2
      rw [RpA.ints t h1]; rfl
    | _ => cases h
theorem RpA.bls : ∀ {vs : List V} {ds : List D} {ns : List Bool}, RpA K Ω H vs ds → allBl ds = some ns → vs = ns.map V.bl
  | _, _, _, .nil, h => by cases h; rfl
  | _, _, _, .cons r t, h => by
    cases r with
    | bl i =>
      unfold allBl at h
      obtain ⟨ms, h1, h2⟩ := Option.map_eq_some_iff.mp h
      subst h2
      rw [RpA.bls t h1]; rfl
    | _ => cases h
theorem RpA.strs : ∀ {vs : List V} {ds : List D} {ns : List (List Nat)}, RpA K Ω H vs ds → allStr ds = some ns → vs = ns.map (fun l => V.str (sS l)) ∧ ∀ l ∈ ns, okS l
  | _, _, _, .nil, h => by cases h; exact ⟨rfl, fun _ h => nomatch h⟩
  | _, _, _, .cons r t, h => by
    cases r with
    | str ok =>
      unfold allStr at h
      obtain ⟨ms, h1, h2⟩ := Option.map_eq_some_iff.mp h
      subst h2
      obtain ⟨e, q⟩ := RpA.strs t h1
      refine ⟨by rw [e]; rfl, fun l hl => ?_⟩
      rcases List.mem_cons.mp hl with z | z
      · rw [z]; exact ok
      · exact q l z
    | _ => cases h
theorem RpA.ofInts (ns : List Int) : RpA K Ω H (ns.map V.int) (ns.map D.int) := by
  induction ns with
  | nil => exact .nil
  | cons i r ih => exact .cons (.int i) ih
end

/-! ### shallow: the list itself need not be frozen -/
def Sh (K : PySem.W.Frag) (Ω : Wd) (H : Hp) (v : V) : D → Prop
  | .lst ds => ∃ a xs, v = .ref a ∧ Ω.cup ≠ some a ∧ H a = some (.lst xs) ∧ RpA K Ω H xs ds
  | .dic ks vs => ∃ a kvs, v = .ref a ∧ Ω.cup ≠ some a ∧ Rd H a (.dK kvs) ∧ (∀ p ∈ kvs, okK p.1) ∧ ks = (kvs.map fun p => keyD p.1) ∧ RpA K Ω H (kvs.map (·.2)) vs
  | d => Rp K Ω H v d
section
variable {K : PySem.W.Frag} {Ω Ω' : Wd} {H H' : Hp}
theorem Rp.sh {v : V} {d : D} (r : Rp K Ω H v d) : Sh K Ω H v d := by
  cases r with
  | lst f h r => exact ⟨_, _, rfl, Ω.dis _ f, h, r⟩
  | dic f h k r => exact ⟨_, _, rfl, Ω.dis _ f, h, k, rfl, r⟩
  | non => exact .non
  | bl b => exact .bl b
  | int i => exact .int i
  | str h => exact .str h
  | tup h r => exact .tup h r
  | cup h => exact .cup h

/-! ### the state -/
def SRel0 (Ω : Wd) (s : S) (H : Hp) : Prop := match Ω.cup, s.cup with
  | none, none => True
  | some a, some (x, y) => H a = some (.lst [.int x, .int y])
  | _, _ => False
structure SRel (Ω : Wd) (s : S) (H : Hp) : Prop where
  c : SRel0 Ω s H
  st : ∀ a, Ω.F a → ∃ o, H a = some o
theorem SRel.cupT {s : S} {a : Addr} (h : SRel Ω s H) (e : Ω.cup = some a) : ∃ x y, s.cup = some (x, y) ∧ H a = some (.lst [.int x, .int y]) := by
  have h := h.c
  unfold SRel0 at h
  rw [e] at h
  cases q : s.cup with
  | none => rw [q] at h; exact h.elim
  | some p => rw [q] at h; exact ⟨p.1, p.2, rfl, h⟩
theorem SRel.ne {s : S} {p : Addr} (h : SRel Ω s H) (hp : H p = none) : Ω.cup ≠ some p := fun e => by
  obtain ⟨x, y, _, q⟩ := h.cupT e
  rw [hp] at q; cases q
theorem SRel.nf {s : S} {p : Addr} (h : SRel Ω s H) (hp : H p = none) : ¬ Ω.F p := fun e => by
  obtain ⟨o, q⟩ := h.st p e
  rw [hp] at q; cases q
theorem SRel.of {s : S} (h : SRel Ω s H) (hc : Ω'.cup = Ω.cup) (k : ∀ a o, Ω.cup = some a → H a = some o → H' a = some o) (hf : ∀ a, Ω'.F a → ∃ o, H' a = some o) : SRel Ω' s H' := by
  refine ⟨?_, hf⟩
  have h := h.c
  unfold SRel0 at h ⊢
  rw [hc]
  cases e : Ω.cup with
  | none =>
    rw [e] at h
    cases q : s.cup with
    | none => trivial
    | some p => rw [q] at h; exact h.elim
  | some a =>
    rw [e] at h
    cases q : s.cup with
    | none => rw [q] at h; exact h.elim
    | some p => rw [q] at h; exact k a _ e h
theorem there_upd {p : Addr} {o : HO} {a : Addr} (h : ∃ u, H a = some u) : ∃ u, upd H p o a = some u := by
  by_cases e : a = p
  · exact ⟨o, by rw [e, upd_same]⟩
  · obtain ⟨u, h⟩ := h
    exact ⟨u, by rw [upd_ne e]; exact h⟩
theorem SRel.upd_new {s : S} {p : Addr} {o : HO} (h : SRel Ω s H) (hp : H p = none) : SRel Ω s (upd H p o) :=
  h.of rfl (fun a u _ e => by rw [upd_ne (ne_of_none e hp)]; exact e) fun a f => there_upd (h.st a f)
theorem SRel.new_at {s : S} {p : Addr} {o : HO} (h : SRel Ω s H) (hp : H p = none) : SRel (Ω.add p (h.ne hp)) s (upd H p o) :=
  h.of rfl (fun a u _ e => by rw [upd_ne (ne_of_none e hp)]; exact e) fun a f => by
    rcases f with f | f
    · exact there_upd (h.st a f)
    · exact ⟨o, by rw [f, upd_same]⟩
theorem Sh.mono {v : V} (e : Le Ω H Ω' H') : ∀ {d : D}, Sh K Ω H v d → Sh K Ω' H' v d
  | .lst ds, ⟨a, xs, h1, h0, h2, h3⟩ => ⟨a, xs, h1, by rw [e.cup]; exact h0, e.keep _ _ h2 fun q => absurd q h0, h3.mono e⟩
  | .dic ks vs, ⟨a, kvs, h1, h0, h2, h3, h4, h5⟩ => ⟨a, kvs, h1, by rw [e.cup]; exact h0, e.rd h2 rfl, h3, h4, h5.mono e⟩
  | .non, h => Rp.mono e h
  | .bl _, h => Rp.mono e h
  | .int _, h => Rp.mono e h
  | .str _, h => Rp.mono e h
  | .tup _, h => Rp.mono e h
  | .cup, h => Rp.mono e h
  | .fn _, h => Rp.mono e h
  | .ty _, h => Rp.mono e h
end

/-! ### what is wanted behind an outcome -/
def Po {α : Type} (o : Out α) (Ω : Wd) (H : Hp) (k : α → S → Wd → Hp → Prop) (ke : Er → S → Wd → Hp → Prop) : Prop := match o with
  | .ok a s' => ∀ Ω' H', Le Ω H Ω' H' → SRel Ω' s' H' → k a s' Ω' H'
  | .er e s' => ∀ Ω' H', Le Ω H Ω' H' → SRel Ω' s' H' → ke e s' Ω' H'
  | .no => False
section
variable {α β : Type} {Ω : Wd} {H : Hp} {k k' : α → S → Wd → Hp → Prop} {ke ke' : Er → S → Wd → Hp → Prop}
theorem Po.mono {o : Out α} (h : Po o Ω H k ke) (hk : ∀ a s' Ω' H', Le Ω H Ω' H' → SRel Ω' s' H' → k a s' Ω' H' → k' a s' Ω' H') (he : ∀ e s' Ω' H', Le Ω H Ω' H' → SRel Ω' s' H' → ke e s' Ω' H' → ke' e s' Ω' H') : Po o Ω H k' ke' := by
  cases o with
  | ok a s' => exact fun Ω' H' l r => hk a s' Ω' H' l r (h Ω' H' l r)
  | er e s' => exact fun Ω' H' l r => he e s' Ω' H' l r (h Ω' H' l r)
  | no => exact h
theorem Po.bnd {x : M α} {f : α → M β} {s : S} {k : β → S → Wd → Hp → Prop} (h : Po (PL.bnd x f s) Ω H k ke) : Po (x s) Ω H (fun a s1 Ω1 H1 => Po (f a s1) Ω1 H1 k ke) ke := by
  unfold PL.bnd at h
  cases e : x s with
  | no => rw [e] at h; exact h
  | er q s' => rw [e] at h; exact h
  | ok a s' =>
    rw [e] at h
    intro Ω1 H1 l r
    have h : Po (f a s') Ω H k ke := h
    cases e2 : f a s' with
    | no => rw [e2] at h; exact h
    | er q s2 => rw [e2] at h; exact fun Ω2 H2 l2 r2 => h Ω2 H2 (l.trans l2) r2
    | ok b s2 => rw [e2] at h; exact fun Ω2 H2 l2 r2 => h Ω2 H2 (l.trans l2) r2
theorem Po.ret {a : α} {s : S} (h : Po (PL.ret a s) Ω H k ke) (r : SRel Ω s H) : k a s Ω H := h Ω H (Le.refl Ω H) r
theorem Po.lift {x : Option α} {s : S} (h : Po (PL.lift x s) Ω H k ke) : ∃ a, x = some a ∧ ∀ Ω' H', Le Ω H Ω' H' → SRel Ω' s H' → k a s Ω' H' := by
  cases x with
  | none => exact h.elim
  | some a => exact ⟨a, rfl, h⟩
theorem Po.asB {d : D} {s : S} {k : Bool → S → Wd → Hp → Prop} (h : Po (PL.asB d s) Ω H k ke) (r : SRel Ω s H) : ∃ b, d = .bl b ∧ k b s Ω H := by
  cases d with
  | bl b => exact ⟨b, rfl, h Ω H (Le.refl Ω H) r⟩
  | _ => exact h.elim
theorem Po.asI {d : D} {s : S} {k : Int → S → Wd → Hp → Prop} (h : Po (PL.asI d s) Ω H k ke) (r : SRel Ω s H) : ∃ b, d = .int b ∧ k b s Ω H := by
  cases d with
  | int b => exact ⟨b, rfl, h Ω H (Le.refl Ω H) r⟩
  | _ => exact h.elim
theorem Po.if_ {c : Prop} [Decidable c] {x y : M α} {s : S} (h : Po ((if c then x else y) s) Ω H k ke) : (c ∧ Po (x s) Ω H k ke) ∨ (¬ c ∧ Po (y s) Ω H k ke) := by
  by_cases q : c
  · rw [if_pos q] at h; exact .inl ⟨q, h⟩
  · rw [if_neg q] at h; exact .inr ⟨q, h⟩
theorem Po.fail {s : S} (h : Po (PL.fail s : Out α) Ω H k ke) : False := h
end
end PL
end

section
set_option Elab.async false
set_option linter.all false
set_option maxRecDepth 100000
set_option maxHeartbeats 4000000
/-! PLT: sum, max, min of a tuple of ints. -/
namespace PL
open PySem PySem.Spec PyProof.Rows L2
section
variable {prog : Program} {w : World} {A : Around} {E : Value → Shared → Prop} {s : Shared} {l : Addr} {xs : Array (Int × Tok)}
theorem iter_intTup {Q : Value → Shared → Prop} (hl : s.heap.IsTuple l (intItems xs))
    (h : ∀ s₂ : Shared, s₂ = { s with heap := s.heap.push { cls := .type "tuple_iterator", data := .fields #[.ref l, .int 0 0] } } →
      (s₂.heap.IsTupleIter s.heap.objs.size l 0 ∧ s₂.heap.IsTuple l (intItems xs)) → (∀ b ∈ [s.heap.objs.size, l], b < s₂.heap.objs.size) → l ≠ s.heap.objs.size → Q (.ref s.heap.objs.size) s₂) :
    wpAny (model prog w) A (pyIter (.ref l)) Q E s := by
  have hlt : l < s.heap.objs.size := by obtain ⟨_, e, _⟩ := hl; exact Heap.lt_size e
  refine wpAny_pyIter_tuple hl (h _ rfl ⟨⟨_, Heap.get?_push_size _ rfl, rfl, rfl⟩, hl.push _⟩ (fun b hb => ?_) (Nat.ne_of_lt hlt))
  show b < (s.heap.push _).objs.size
  rw [Heap.size_push]
  rcases List.mem_cons.mp hb with rfl | hb
  · exact Nat.lt_succ_self _
  · rcases List.mem_cons.mp hb with rfl | hb
    · exact Nat.lt_succ_of_lt hlt
    · cases hb
theorem old_keptT {o₀ : Obj} {h' : Heap} (hk : ∀ b o, b ∉ [s.heap.objs.size] → (s.heap.push o₀).get? b = some o → h'.get? b = some o) :
    ∀ b o, s.heap.get? b = some o → h'.get? b = some o := fun b o e => by
  refine hk b o (fun hm => ?_) (Heap.get?_push_of_some _ e)
  rcases List.mem_cons.mp hm with e1 | hm
  · exact absurd (e1 ▸ Heap.lt_size e) (Nat.lt_irrefl _)
  · cases hm
theorem sum_intTup {Q : Value → Shared → Prop} (hh : A.handled = none) (hl : s.heap.IsTuple l (intItems xs))
    (h : ∀ h' tk t', (∀ b o, s.heap.get? b = some o → h'.get? b = some o) → Q (.int (preSum (numAt xs) xs.size) t') { s with heap := h', toks := tk }) :
    wpAny (model prog w) A (call (.builtin "sum") [.ref l]) Q E s := by
  refine call_sum_walkG (iter_intTup hl fun s₂ e st hfp hlI => ?_)
  subst e
  refine ⟨_, _, _, _, _, _, numAt xs, rfl, Walks.tuple (A := A.in1) hh _ l hlI (intItems xs), st, hfp, (fun _ _ => intItems_at), fun h' tk t' hk => ?_⟩
  have := h h' tk t' (old_keptT hk)
  simpa [intItems] using this
theorem max_intTup {Q : Value → Shared → Prop} (hh : A.handled = none) (hl : s.heap.IsTuple l (intItems xs)) (hne : 0 < xs.size)
    (h : ∀ v h' tk, (intItems xs)[argBest (fun i j => decide (numAt xs i > numAt xs j)) (xs.size - 1)]? = some v → (∀ b o, s.heap.get? b = some o → h'.get? b = some o) → Q v { s with heap := h', toks := tk }) :
    wpAny (model prog w) A (call (.builtin "max") [.ref l]) Q E s := by
  refine call_max_walk (iter_intTup hl fun s₂ e st hfp hlI => ?_)
  subst e
  refine ⟨_, _, _, _, _, _, _, rfl, Walks.tuple (A := A.in1) hh _ l hlI (intItems xs), st, hfp, by simpa [intItems] using hne, CmpOf.ints_gt (numAt xs) (fun _ _ => intItems_at), fun v h' tk hP hk => ?_⟩
  exact h v h' tk (by simpa [intItems] using hP) (old_keptT hk)
theorem min_intTup {Q : Value → Shared → Prop} (hh : A.handled = none) (hl : s.heap.IsTuple l (intItems xs)) (hne : 0 < xs.size)
    (h : ∀ v h' tk, (intItems xs)[argBest (fun i j => decide (numAt xs i < numAt xs j)) (xs.size - 1)]? = some v → (∀ b o, s.heap.get? b = some o → h'.get? b = some o) → Q v { s with heap := h', toks := tk }) :
    wpAny (model prog w) A (call (.builtin "min") [.ref l]) Q E s := by
  refine call_min_walk (iter_intTup hl fun s₂ e st hfp hlI => ?_)
  subst e
  refine ⟨_, _, _, _, _, _, _, rfl, Walks.tuple (A := A.in1) hh _ l hlI (intItems xs), st, hfp, by simpa [intItems] using hne, CmpOf.ints_lt (numAt xs) (fun _ _ => intItems_at), fun v h' tk hP hk => ?_⟩
  exact h v h' tk (by simpa [intItems] using hP) (old_keptT hk)
end
section
variable {prog : Program} {w : World} {A : Around} {E : Value → Shared → Prop} {s : Shared} {l : Addr} {its : List Value} {ns : List Int} {Q : Value → Shared → Prop}
theorem sum_rawT (hh : A.handled = none) (hl : s.heap.IsTuple l its.toArray) (hi : IntsAre its ns)
    (h : ∀ h' tk t', (∀ b o, s.heap.get? b = some o → h'.get? b = some o) → Q (.int ns.sum t') { s with heap := h', toks := tk }) : wpAny (model prog w) A (call (.builtin "sum") [.ref l]) Q E s := by
  obtain ⟨xs, e⟩ := hi.allInts.items
  have hn : numsOf (intItems xs).toList = ns := by rw [← e]; exact hi.numsOf
  rw [nums_intItems] at hn
  rw [e] at hl
  refine sum_intTup hh hl fun h' tk t' hk => ?_
  have := h h' tk t' hk
  rw [preSum_eq, List.take_of_length_le (by simp), hn]; exact this
theorem max_rawT (hh : A.handled = none) (hl : s.heap.IsTuple l its.toArray) (hi : IntsAre its ns) (hne : 0 < ns.length)
    (h : ∀ h' tk M t', (∀ b o, s.heap.get? b = some o → h'.get? b = some o) → M ∈ ns → (∀ a, a ∈ ns → a ≤ M) → Q (.int M t') { s with heap := h', toks := tk }) : wpAny (model prog w) A (call (.builtin "max") [.ref l]) Q E s := by
  obtain ⟨xs, e⟩ := hi.allInts.items
  have hn : numsOf (intItems xs).toList = ns := by rw [← e]; exact hi.numsOf
  rw [nums_intItems] at hn
  subst hn
  rw [e] at hl
  have hsz : 0 < xs.size := by simpa using hne
  refine max_intTup hh hl hsz fun v h' tk hv hk => ?_
  obtain ⟨t, rfl⟩ := intItems_at hv
  obtain ⟨h1, h2⟩ := argBest_gt (numAt xs) (xs.size - 1)
  refine h h' tk _ t hk ?_ fun a ha => ?_
  · rw [numAt_eq]; exact PySem.getD_mem (by rw [List.length_map, Array.length_toList]; omega)
  · obtain ⟨j, hj, rfl⟩ := mem_getD ha
    rw [List.length_map, Array.length_toList] at hj
    rw [← numAt_eq]; exact h2 j (by omega)
theorem min_rawT (hh : A.handled = none) (hl : s.heap.IsTuple l its.toArray) (hi : IntsAre its ns) (hne : 0 < ns.length)
    (h : ∀ h' tk M t', (∀ b o, s.heap.get? b = some o → h'.get? b = some o) → M ∈ ns → (∀ a, a ∈ ns → M ≤ a) → Q (.int M t') { s with heap := h', toks := tk }) : wpAny (model prog w) A (call (.builtin "min") [.ref l]) Q E s := by
  obtain ⟨xs, e⟩ := hi.allInts.items
  have hn : numsOf (intItems xs).toList = ns := by rw [← e]; exact hi.numsOf
  rw [nums_intItems] at hn
  subst hn
  rw [e] at hl
  have hsz : 0 < xs.size := by simpa using hne
  refine min_intTup hh hl hsz fun v h' tk hv hk => ?_
  obtain ⟨t, rfl⟩ := intItems_at hv
  obtain ⟨h1, h2⟩ := argBest_lt (numAt xs) (xs.size - 1)
  refine h h' tk _ t hk ?_ fun a ha => ?_
  · rw [numAt_eq]; exact PySem.getD_mem (by rw [List.length_map, Array.length_toList]; omega)
  · obtain ⟨j, hj, rfl⟩ := mem_getD ha
    rw [List.length_map, Array.length_toList] at hj
    rw [← numAt_eq]; exact h2 j (by omega)
end
/-! ### of a list or of a tuple -/
def SqA (K : PySem.W.Frag) (H : Hp) (a : Addr) (xs : List V) : Prop := SqL K H a xs ∨ SqT K H a xs
section
variable {X : Cx}
theorem crU_sum (hc : X.calm = true) : CallR X (.builtin "sum") (fun vs H Q => ∃ (a : Addr) (ns : List Int), vs = [V.ref a] ∧ SqA X.K H a (ns.map V.int) ∧ Q (.int ns.sum) H) := by
  intro pins s σ H vs us Q I r ⟨a, ns, e, hs, q⟩
  rcases hs with hs | hs
  · exact cr_sum hc pins s σ H vs us Q I r ⟨a, ns, e, hs, q⟩
  · subst e
    obtain ⟨its, rv, hl, _⟩ := I.tuple hs
    rw [Vals.ref1 r]
    exact sum_rawT (I.ok.hd hc) (show s.heap.IsTuple a its.toArray from hl) rv.ints fun h' tk t' hk => ⟨.int _, H, I.kept hk, ⟨_, rfl⟩, q⟩
theorem crU_max (hc : X.calm = true) : CallR X (.builtin "max") (fun vs H Q => ∃ (a : Addr) (ns : List Int), vs = [V.ref a] ∧ SqA X.K H a (ns.map V.int) ∧ 0 < ns.length ∧ ∀ m, m ∈ ns → (∀ y, y ∈ ns → y ≤ m) → Q (.int m) H) := by
  intro pins s σ H vs us Q I r ⟨a, ns, e, hs, hne, q⟩
  rcases hs with hs | hs
  · exact cr_max hc pins s σ H vs us Q I r ⟨a, ns, e, hs, hne, q⟩
  · subst e
    obtain ⟨its, rv, hl, _⟩ := I.tuple hs
    rw [Vals.ref1 r]
    exact max_rawT (I.ok.hd hc) (show s.heap.IsTuple a its.toArray from hl) rv.ints hne fun h' tk m t' hk h1 h2 => ⟨.int _, H, I.kept hk, ⟨_, rfl⟩, q m h1 h2⟩
theorem crU_min (hc : X.calm = true) : CallR X (.builtin "min") (fun vs H Q => ∃ (a : Addr) (ns : List Int), vs = [V.ref a] ∧ SqA X.K H a (ns.map V.int) ∧ 0 < ns.length ∧ ∀ m, m ∈ ns → (∀ y, y ∈ ns → m ≤ y) → Q (.int m) H) := by
  intro pins s σ H vs us Q I r ⟨a, ns, e, hs, hne, q⟩
  rcases hs with hs | hs
  · exact cr_min hc pins s σ H vs us Q I r ⟨a, ns, e, hs, hne, q⟩
  · subst e
    obtain ⟨its, rv, hl, _⟩ := I.tuple hs
    rw [Vals.ref1 r]
    exact min_rawT (I.ok.hd hc) (show s.heap.IsTuple a its.toArray from hl) rv.ints hne fun h' tk m t' hk h1 h2 => ⟨.int _, H, I.kept hk, ⟨_, rfl⟩, q m h1 h2⟩
end
end PL
end

section
set_option Elab.async false
set_option linter.all false
set_option maxRecDepth 100000
set_option maxHeartbeats 4000000
/-! PL2: operators on values. -/
namespace PL
open PySem PySem.Spec PyProof.Rows L2

/-! ### data as the library's data -/
mutual
def py : D → PyData
  | .non => .none
  | .bl b => .bool b
  | .int i => .int i
  | .str l => .str (sS l)
  | .lst xs => .list (pys xs)
  | .tup xs => .tuple (pys xs)
  | .dic _ _ => .none
  | .cup => .none
  | .fn _ => .none
  | .ty _ => .none
def pys : List D → List PyData
  | [] => []
  | x :: xs => py x :: pys xs
end
theorem pys_map : ∀ xs : List D, pys xs = xs.map py
  | [] => rfl
  | x :: xs => by rw [pys, pys_map xs, List.map_cons]
theorem sS_inj {a b : List Nat} (h : sS a = sS b) : a = b := by
  have := congrArg (fun z : Str => z.cps.toList) h
  simpa [sS] using this
theorem sS_beq (a b : List Nat) : (sS a == sS b) = (a == b) := by
  by_cases e : a = b
  · subst e; simp
  · have : ¬ sS a = sS b := fun h => e (sS_inj h)
    rw [beq_eq_false_iff_ne.mpr this, beq_eq_false_iff_ne.mpr e]
mutual
theorem deq_py : ∀ (n m : Nat) (a b : D), dok n a = true → dok m b = true → PyData.eqv (py a) (py b) = deq a b
  | n, m, a, b, ha, hb => by
    cases a with
    | non => cases b <;> first | (simp [py, deq, PyData.eqv, sS_beq]; done) | (cases m <;> simp [dok] at hb)
    | bl x => cases b <;> first | (simp [py, deq, PyData.eqv, sS_beq]; done) | (cases m <;> simp [dok] at hb)
    | int i => cases b <;> first | (simp [py, deq, PyData.eqv, sS_beq]; done) | (cases m <;> simp [dok] at hb)
    | str l => cases b <;> first | (simp [py, deq, PyData.eqv, sS_beq]; done) | (cases m <;> simp [dok] at hb)
    | lst xs =>
      cases n with
      | zero => simp [dok] at ha
      | succ n =>
        cases b with
        | lst ys =>
          cases m with
          | zero => simp [dok] at hb
          | succ m =>
            simp only [py, deq, PyData.eqv]
            exact deqs_py n m xs ys (by simpa [dok] using ha) (by simpa [dok] using hb)
        | _ => first | (simp [py, deq, PyData.eqv]; done) | (cases m <;> simp [dok] at hb)
    | tup xs =>
      cases n with
      | zero => simp [dok] at ha
      | succ n =>
        cases b with
        | tup ys =>
          cases m with
          | zero => simp [dok] at hb
          | succ m =>
            simp only [py, deq, PyData.eqv]
            exact deqs_py n m xs ys (by simpa [dok] using ha) (by simpa [dok] using hb)
        | _ => first | (simp [py, deq, PyData.eqv]; done) | (cases m <;> simp [dok] at hb)
    | _ => cases n <;> simp [dok] at ha
theorem deqs_py : ∀ (n m : Nat) (a b : List D), (∀ x ∈ a, dok n x = true) → (∀ x ∈ b, dok m x = true) → PyData.eqvAll (pys a) (pys b) = deqs a b
  | n, m, [], [], _, _ => by simp [pys, deqs, PyData.eqvAll]
  | n, m, [], _ :: _, _, _ => by simp [pys, deqs, PyData.eqvAll]
  | n, m, _ :: _, [], _, _ => by simp [pys, deqs, PyData.eqvAll]
  | n, m, x :: xs, y :: ys, ha, hb => by
    simp only [pys, deqs, PyData.eqvAll]
    rw [deq_py n m x y (ha x List.mem_cons_self) (hb y List.mem_cons_self), deqs_py n m xs ys (fun z h => ha z (List.mem_cons_of_mem _ h)) (fun z h => hb z (List.mem_cons_of_mem _ h))]
end
theorem strOk_sS {l : List Nat} (h : okS l) : PyData.canLay0 (.str (sS l)) = true := by
  simp only [PyData.canLay0, PyData.strOk, sS]
  rw [Array.all_eq_true]
  intro i hi
  simp only [List.getElem_toArray, decide_eq_true_eq]
  exact h.2 _ (List.getElem_mem _)
section
variable {K : PySem.W.Frag} {Ω : Wd} {H : Hp}
mutual
theorem Rp.dp : ∀ {v : V} {d : D} (n : Nat), Rp K Ω H v d → dok n d = true → Dp K H v (py d) ∧ PyData.canLay0 (py d) = true ∧ PyData.depth (py d) ≤ n
  | _, _, _, .non, _ => ⟨by rw [py]; exact .non, by simp [py, PyData.canLay0], by simp [py, PyData.depth]⟩
  | _, _, _, .bl b, _ => ⟨by rw [py]; exact .bl b, by simp [py, PyData.canLay0], by simp [py, PyData.depth]⟩
  | _, _, _, .int i, _ => ⟨by rw [py]; exact .int i, by simp [py, PyData.canLay0], by simp [py, PyData.depth]⟩
  | _, _, _, .str h, _ => ⟨by rw [py]; exact .str _, by rw [py]; exact strOk_sS h, by simp [py, PyData.depth]⟩
  | _, _, 0, .lst _ _ _, k => by simp [dok] at k
  | _, _, n + 1, .lst _ h r, k => by
    obtain ⟨a, b, c⟩ := RpA.dp n r (by simpa [dok] using k)
    refine ⟨by rw [py]; exact .lst (SqL.of h) a, by rw [py, PyData.canLay0]; exact b, ?_⟩
    rw [py, PyData.depth]; omega
  | _, _, 0, .tup _ _, k => by simp [dok] at k
  | _, _, n + 1, .tup h r, k => by
    obtain ⟨a, b, c⟩ := RpA.dp n r (by simpa [dok] using k)
    refine ⟨by rw [py]; exact .tup h a, by rw [py, PyData.canLay0]; exact b, ?_⟩
    rw [py, PyData.depth]; omega
  | _, _, 0, .dic _ _ _ _, k => by simp [dok] at k
  | _, _, _ + 1, .dic _ _ _ _, k => by simp [dok] at k
  | _, _, 0, .cup _, k => by simp [dok] at k
  | _, _, _ + 1, .cup _, k => by simp [dok] at k
theorem RpA.dp : ∀ {v : List V} {d : List D} (n : Nat), RpA K Ω H v d → (∀ x ∈ d, dok n x = true) → DpAll K H v (pys d) ∧ PyData.canLayAll0 (pys d) = true ∧ PyData.depthAll (pys d) ≤ n
  | _, _, _, .nil, _ => ⟨by rw [pys]; exact .nil, by simp [pys, PyData.canLayAll0], by simp [pys, PyData.depthAll]⟩
  | _, _, n, .cons r t, k => by
    obtain ⟨a, b, c⟩ := Rp.dp n r (k _ List.mem_cons_self)
    obtain ⟨a', b', c'⟩ := RpA.dp n t (fun x h => k x (List.mem_cons_of_mem _ h))
    refine ⟨by rw [pys]; exact .cons a a', by rw [pys, PyData.canLayAll0, b, b']; rfl, ?_⟩
    rw [pys, PyData.depthAll]; omega
end
theorem Sh.dp {v : V} : ∀ {d : D} {n : Nat}, Sh K Ω H v d → dok n d = true → Dp K H v (py d) ∧ PyData.canLay0 (py d) = true ∧ PyData.depth (py d) ≤ n
  | .lst ds, n, ⟨a, xs, e, _, h, r⟩, k => by
    subst e
    cases n with
    | zero => simp [dok] at k
    | succ n =>
      obtain ⟨a, b, c⟩ := RpA.dp n r (by simpa [dok] using k)
      refine ⟨by rw [py]; exact .lst (SqL.of h) a, by rw [py, PyData.canLay0]; exact b, ?_⟩
      rw [py, PyData.depth]; omega
  | .dic _ _, n, _, k => by cases n <;> simp [dok] at k
  | .non, n, h, k => Rp.dp n h k
  | .bl _, n, h, k => Rp.dp n h k
  | .int _, n, h, k => Rp.dp n h k
  | .str _, n, h, k => Rp.dp n h k
  | .tup _, n, h, k => Rp.dp n h k
  | .cup, n, h, k => Rp.dp n h k
  | .fn _, n, h, k => Rp.dp n h k
  | .ty _, n, h, k => Rp.dp n h k
theorem shaped_of {d : PyData} (h1 : d.canLay0 = true) (h2 : d.depth ≤ 60) : SeqAt.shaped d = true := by
  unfold SeqAt.shaped
  rw [h1, Bool.true_and]
  exact decide_eq_true (by omega)
end

/-! ### new objects -/
/-- what is wanted of an answer that is the data d -/
abbrev Wt (K : PySem.W.Frag) (Ω : Wd) (s : S) (H : Hp) (d : D) (Q : VK) : Prop := ∀ Ω' H', Le Ω H Ω' H' → SRel Ω' s H' → ∀ v, Rp K Ω' H' v d → Q v H'
section
variable {K : PySem.W.Frag} {Ω : Wd} {H : Hp} {s : S} {Q : VK}
theorem Wt.here {v : V} {d : D} (q : Wt K Ω s H d Q) (sr : SRel Ω s H) (r : Rp K Ω H v d) : Q v H := q Ω H (Le.refl Ω H) sr v r
theorem Wt.tup {xs : List V} {ds : List D} (q : Wt K Ω s H (.tup ds) Q) (sr : SRel Ω s H) (r : RpA K Ω H xs ds) {p : Addr} (hp : H p = none) : Q (.ref p) (upd H p (.tup xs)) :=
  q Ω _ (Le.upd_new hp) (sr.upd_new hp) _ (.tup (SqT.of upd_same) (r.mono (Le.upd_new hp)))
theorem Wt.lst {xs : List V} {ds : List D} (q : Wt K Ω s H (.lst ds) Q) (sr : SRel Ω s H) (r : RpA K Ω H xs ds) {p : Addr} (hp : H p = none) : Q (.ref p) (upd H p (.lst xs)) :=
  q _ _ (Le.new_at hp (sr.ne hp)) (sr.new_at hp) _ (.lst (.inr rfl) upd_same (r.mono (Le.new_at hp (sr.ne hp))))
end

/-! ### two-place operators -/
def opB : Bop → Operator
  | .add => .Add
  | .sub => .Sub
  | .mul => .Mult
  | .fdiv => .FloorDiv
  | .mod => .Mod
  | .pow => .Pow
def rB (K : PySem.W.Frag) (f : D → D → Option D) : R2 := fun x y H Q => ∃ Ω s dx dy d, SRel Ω s H ∧ Sh K Ω H x dx ∧ Sh K Ω H y dy ∧ f dx dy = some d ∧ Wt K Ω s H d Q
section
variable {K : PySem.W.Frag} {Ω : Wd} {H : Hp}
theorem Sh.int {v : V} {i : Int} (h : Sh K Ω H v (.int i)) : v = .int i := by cases h; rfl
theorem Sh.bl {v : V} {i : Bool} (h : Sh K Ω H v (.bl i)) : v = .bl i := by cases h; rfl
theorem Sh.non {v : V} (h : Sh K Ω H v .non) : v = .non := by cases h; rfl
theorem Sh.str {v : V} {l : List Nat} (h : Sh K Ω H v (.str l)) : v = .str (sS l) ∧ okS l := by cases h; exact ⟨rfl, by assumption⟩
theorem Sh.tup {v : V} {l : List D} (h : Sh K Ω H v (.tup l)) : ∃ a xs, v = .ref a ∧ SqT K H a xs ∧ RpA K Ω H xs l := by
  cases h with
  | tup h r => exact ⟨_, _, rfl, h, r⟩
end
theorem okS_append {a b : List Nat} (ha : okS a) (hb : okS b) (h : a.length + b.length ≤ BIG) : okS (a ++ b) := by
  refine ⟨?_, fun c hc => ?_⟩
  · rw [List.length_append]; exact Nat.le_trans h (Nat.le_of_lt big_line)
  · rcases List.mem_append.mp hc with z | z
    · exact ha.2 c z
    · exact hb.2 c z
theorem okS_flat {a : List Nat} (ha : okS a) {k : Nat} (h : k * a.length ≤ 2000000) : okS (List.replicate k a).flatten := by
  refine ⟨?_, fun c hc => ?_⟩
  · rw [PyProof.Rows.lm_len_rep_flat, sizeLine_eq]; omega
  · obtain ⟨l, h1, h2⟩ := List.mem_flatten.mp hc
    rw [List.eq_of_mem_replicate h1] at h2
    exact ha.2 c h2
theorem sS_append (a b : List Nat) : sS (a ++ b) = sS a ++ sS b := by
  show (⟨(a ++ b).toArray⟩ : Str) = Str.append ⟨a.toArray⟩ ⟨b.toArray⟩
  unfold Str.append
  simp
theorem sS_length (a : List Nat) : (sS a).length = a.length := by simp [sS, Str.length]
theorem sS_toList (a : List Nat) : (sS a).cps.toList = a := by simp [sS]
theorem txt_mul (a : List Nat) (k : Int) (h : 0 ≤ k) : Txt.mul (sS a) k = sS (List.replicate k.toNat a).flatten := by
  unfold Txt.mul
  by_cases h1 : k < 1
  · rw [if_pos h1]
    have : k.toNat = 0 := by omega
    rw [this]; rfl
  · rw [if_neg h1]
    by_cases h2 : (k == 1 || (sS a).length == 0) = true
    · rw [if_pos h2]
      rcases Bool.or_eq_true_iff.mp h2 with z | z
      · have e : k = 1 := beq_iff_eq.mp z
        subst e
        show sS a = sS (a ++ [])
        rw [List.append_nil]
      · rw [sS_length] at z
        have e : a = [] := List.eq_nil_of_length_eq_zero (beq_iff_eq.mp z)
        subst e
        congr 1
        induction k.toNat with
        | zero => rfl
        | succ n ih => rw [List.replicate_succ, List.flatten_cons, ← ih]; rfl
    · rw [if_neg h2]
      have go : ∀ (n : Nat) (acc : List Nat), (List.replicate n (sS a).cps).foldl (· ++ ·) acc.toArray = (acc ++ (List.replicate n a).flatten).toArray := by
        intro n
        induction n with
        | zero => intro acc; simp
        | succ n ih =>
          intro acc
          rw [List.replicate_succ, List.foldl_cons, List.replicate_succ, List.flatten_cons, ← List.append_assoc, ← ih]
          congr 1
          simp [sS]
      have := go k.toNat []
      unfold sS at this ⊢
      congr 1
end PL
end

section
set_option Elab.async false
set_option linter.all false
set_option maxRecDepth 100000
set_option maxHeartbeats 4000000
/-! PL3: operators, comparisons, items, slices keep their readings. -/
namespace PL
open PySem PySem.Spec PyProof.Rows L2

section
variable {X : Cx}
theorem add_ok : OpR X (binaryOp .Add) (rB X.K addD) := by
  intro pins s σ H x y v u Q I rx ry ⟨Ω, st, dx, dy, d, sr, hx, hy, e, q⟩
  unfold addD at e
  split at e
  · cases e
    exact op_add pins s σ H x y v u Q I rx ry ⟨_, _, hx.int, hy.int, q.here sr (.int _)⟩
  · split at e
    · rename_i a b h
      cases e
      obtain ⟨ex, ox⟩ := hx.str
      obtain ⟨ey, oy⟩ := hy.str
      refine op_add_str pins s σ H x y v u Q I rx ry ⟨_, _, ex, ey, ?_, ?_⟩
      · rw [sS_length, sS_length]; exact Nat.le_trans h (Nat.le_of_lt big_line)
      · rw [← sS_append]
        exact q.here sr (.str (okS_append ox oy h))
    · cases e
  · split at e
    · rename_i a b h
      cases e
      obtain ⟨p, xs, ex, _, hx, rx'⟩ := hx
      obtain ⟨r, ys, ey, _, hy, ry'⟩ := hy
      refine op_cat pins s σ H x y v u Q I rx ry ⟨p, r, xs, ys, ex, ey, hx, hy, ?_, fun z hz => q.lst sr (rx'.append ry') hz⟩
      rw [rx'.length, ry'.length]; exact Nat.le_trans h (Nat.le_of_lt big_line)
    · cases e
  · split at e
    · rename_i a b h
      cases e
      obtain ⟨p, xs, ex, hx, rx'⟩ := hx.tup
      obtain ⟨r, ys, ey, hy, ry'⟩ := hy.tup
      refine op_catA pins s σ H x y v u Q I rx ry ⟨p, r, xs, ys, ex, ey, hx, hy, ?_, fun z => ?_, fun _ z => ?_, fun _ _ z hz => q.tup sr (rx'.append ry') hz⟩
      · rw [rx'.length, ry'.length]; exact Nat.le_trans h (Nat.le_of_lt big_line)
      · subst z
        cases rx'
        exact q.here sr (.tup hy ry')
      · subst z
        cases ry'
        rw [List.append_nil] at q
        exact q.here sr (.tup hx rx')
    · cases e
  · cases e
theorem sub_ok : OpR X (binaryOp .Sub) (rB X.K subD) := by
  intro pins s σ H x y v u Q I rx ry ⟨Ω, st, dx, dy, d, sr, hx, hy, e, q⟩
  unfold subD at e
  split at e
  · cases e
    exact op_sub pins s σ H x y v u Q I rx ry ⟨_, _, hx.int, hy.int, q.here sr (.int _)⟩
  · cases e
theorem fdiv_ok : OpR X (binaryOp .FloorDiv) (rB X.K fdivD) := by
  intro pins s σ H x y v u Q I rx ry ⟨Ω, st, dx, dy, d, sr, hx, hy, e, q⟩
  unfold fdivD at e
  split at e
  · split at e
    · rename_i h
      cases e
      exact op_fdiv pins s σ H x y v u Q I rx ry ⟨_, _, hx.int, hy.int, h, q.here sr (.int _)⟩
    · cases e
  · cases e
theorem mod_ok : OpR X (binaryOp .Mod) (rB X.K modD) := by
  intro pins s σ H x y v u Q I rx ry ⟨Ω, st, dx, dy, d, sr, hx, hy, e, q⟩
  unfold modD at e
  split at e
  · split at e
    · rename_i h
      cases e
      exact op_mod pins s σ H x y v u Q I rx ry ⟨_, _, hx.int, hy.int, h, q.here sr (.int _)⟩
    · cases e
  · cases e
theorem pow_ok : OpR X (binaryOp .Pow) (rB X.K powD) := by
  intro pins s σ H x y v u Q I rx ry ⟨Ω, st, dx, dy, d, sr, hx, hy, e, q⟩
  unfold powD at e
  split at e
  · split at e
    · rename_i h
      cases e
      exact op_pow pins s σ H x y v u Q I rx ry ⟨_, _, hx.int, hy.int, ⟨h.1, by omega, by omega⟩, q.here sr (.int _)⟩
    · cases e
  · cases e
theorem small_of {i : Int} (h : small i = true) : -(2 ^ 64) < i ∧ i < 2 ^ 64 := by
  unfold small at h
  obtain ⟨a, b⟩ := Bool.and_eq_true_iff.mp h
  exact ⟨of_decide_eq_true a, of_decide_eq_true b⟩
/-- a tuple once is itself -/
theorem tuple_mul1 (l : Addr) (items : Array Value) (n : Nat) (dd : Option Addr) (sl : Array (Option Value)) (u : Tok) :
    Meets (Builtin.«tuple.__mul__» ⟨[.ref l, .int 1 u], []⟩) (fun _ R s => s.heap.get? l = some { cls := .type "tuple", dict := dd, data := .seq items n, slots := sl } ∧ R (.ok (.ret (Value.ref l))) s) :=
  .of_wp fun prog w A R s h => by
    obtain ⟨hp, g, d, tk, os⟩ := s
    obtain ⟨hl, h⟩ := h
    have f1 := AutoSeq1.idx_int
    have c0 : (decide ((1 : Int) < -(2 ^ 63)) || decide ((1 : Int) ≥ 2 ^ 63)) = false := by decide
    have c1 : (items.isEmpty || (1 : Int) == 1) = true := by simp
    wp_walk using wpAny_loadPart' hl
    repeat (first
      | (refine wpAny_ite_false (decide_eq_false (by rw [c0]; exact Bool.false_ne_true)) ?_; wp_walk using wpAny_loadPart' hl)
      | (refine wpAny_ite_true (decide_eq_true c1) ?_; wp_walk using wpAny_loadPart' hl))
    exact ⟨_, rfl, h⟩
theorem op_rep1 : OpR X (binaryOp .Mult) (fun x y H Q => ∃ l xs, x = .ref l ∧ y = .int 1 ∧ SqT X.K H l xs ∧ Q (.ref l) H) := by
  intro pins s σ H x y v u Q I rx ry h
  obtain ⟨l, xs, rfl, rfl, hT, q⟩ := h
  cases rx
  obtain ⟨t, rfl⟩ := ry
  obtain ⟨its, r, ⟨⟨cls, dd, data, sl⟩, ho, hc, n, hd⟩, hs⟩ := I.tuple hT
  simp only at hc hd
  subst hc hd
  refine wpAny_binaryOp_repeat_ref (T := "tuple") (U := "int") (by decide) ⟨_, ho, rfl⟩ (fun s' => typeIs_int s' 1 t) noFill_tuple_mul F.fills_int_mul F.slot_int_rmul repeat_tuple F.slot_int_index.lookup
    (call_meets F.slot_int_rmul (typeIs_int s 1 t) F.entry_int_rmul (F.args_int_rmul_2 _ _) (int_rmul_tuple 1 t l its.toArray n dd sl)
      ⟨ho, rfl, ⟨_, ho, rfl⟩, call_meets F.slot_tuple_mul ⟨_, ho, rfl⟩ F.entry_tuple_mul (F.args_tuple_mul_2 _ _) (tuple_mul1 l its.toArray n dd sl t) ⟨ho, ?_⟩⟩)
  exact ⟨.ref l, H, I, rfl, q⟩
theorem mul_ok : OpR X (binaryOp .Mult) (rB X.K mulD) := by
  intro pins s σ H x y v u Q I rx ry ⟨Ω, st, dx, dy, d, sr, hx, hy, e, q⟩
  unfold mulD at e
  split at e
  · split at e
    · rename_i h
      cases e
      exact op_mul pins s σ H x y v u Q I rx ry ⟨_, _, hx.int, hy.int, h.imp small_of small_of, q.here sr (.int _)⟩
    · cases e
  · split at e
    · rename_i a k h
      cases e
      obtain ⟨ex, ox⟩ := hx.str
      have ey := hy.int
      subst ex ey
      obtain ⟨t, rfl⟩ := rx
      obtain ⟨t', rfl⟩ := ry
      have hb : k.toNat * a.length ≤ 20000 * 100 := Nat.mul_le_mul (by omega) (by omega)
      refine SB.mul ⟨?_, fun h1 _ => ?_, fun h1 _ => ?_⟩ fun t' k' => ⟨.str (sS (List.replicate k.toNat a).flatten), H, I.tok _, ⟨t', by rw [txt_mul a k (by omega)]⟩, q.here sr (.str (okS_flat ox (by omega)))⟩
      · rw [decide_eq_false (by omega), decide_eq_false (by omega)]; rfl
      · rw [sS_length]
        have h3 : ((a.length : Nat) : Int) * k ≤ 100 * 20000 := Int.mul_le_mul (by omega) (by omega) (by omega) (by omega)
        have h2 : (a.length : Int) ≤ (2 ^ 63 - 1) / k := Int.le_ediv_of_mul_le (by omega) (by omega)
        omega
      · unfold Builtin.Str.tooLong
        rw [sS_length, sizeLine_eq]
        have h3 : a.length * k.toNat ≤ 100 * 20000 := Nat.mul_le_mul (by omega) (by omega)
        exact decide_eq_false (by omega)
    · cases e
  · split at e
    · rename_i a k h
      cases e
      obtain ⟨p, xs, ex, hx, rx'⟩ := hx.tup
      have ey := hy.int
      have hl := rx'.length
      by_cases h1 : k = 1
      · subst h1
        have z : (List.replicate (1 : Int).toNat a).flatten = a := by
          show a ++ [] = a
          rw [List.append_nil]
        rw [z] at q
        exact op_rep1 pins s σ H x y v u Q I rx ry ⟨p, xs, ex, ey, hx, q.here sr (.tup hx rx')⟩
      · refine op_repT pins s σ H x y v u Q I rx ry ⟨p, k, xs, ex, ey, hx, fun z => ?_, by omega, by omega, by omega, fun z hz => q.tup sr (rx'.rep k.toNat) hz⟩
        subst z
        simp at hl
        omega
    · cases e
  · split at e
    · rename_i a k h
      cases e
      obtain ⟨p, xs, ex, _, hx, rx'⟩ := hx
      have ey := hy.int
      have hl := rx'.length
      have h3 : xs.length * k.toNat ≤ 1000 * 1000 := Nat.mul_le_mul (by omega) (by omega)
      exact op_rep pins s σ H x y v u Q I rx ry ⟨p, k, xs, ex, ey, hx, by omega, by omega, by rw [sizeLine_eq]; omega, fun z hz => q.lst sr (rx'.rep k.toNat) hz⟩
    · cases e
  · cases e
theorem bop_ok (o : Bop) : OpR X (binaryOp (opB o)) (rB X.K (bopD o)) := by
  cases o
  · exact add_ok
  · exact sub_ok
  · exact mul_ok
  · exact fdiv_ok
  · exact mod_ok
  · exact pow_ok

/-! ### comparisons -/
def opC : Cop → CmpOp
  | .eq => .Eq
  | .ne => .NotEq
  | .lt => .Lt
  | .le => .LtE
  | .gt => .Gt
  | .ge => .GtE
  | .inn => .In
  | .nin => .NotIn
  | .is => .Is
  | .isn => .IsNot
def rC (K : PySem.W.Frag) (f : D → D → Option Bool) : R2 := fun x y H Q => ∃ Ω dx dy b, Sh K Ω H x dx ∧ Sh K Ω H y dy ∧ f dx dy = some b ∧ Q (.bl b) H
theorem eq_ok (hu : X.A.units + 64 < cLine) : OpR X (compareOp .Eq) (rC X.K eqD) := by
  intro pins s σ H x y v u Q I rx ry ⟨Ω, dx, dy, b, hx, hy, e, q⟩
  unfold eqD at e
  split at e
  · rename_i h
    cases e
    obtain ⟨a1, a2, a3⟩ := hx.dp h.1
    obtain ⟨b1, b2, b3⟩ := hy.dp h.2
    refine op_eqD hu pins s σ H x y v u Q I rx ry ⟨_, _, a1, b1, shaped_of a2 a3, shaped_of b2 b3, ?_⟩
    rw [deq_py 60 60 dx dy h.1 h.2]
    exact q
  · cases e
theorem ne_ok (hu : X.A.units + 64 < cLine) : OpR X (compareOp .NotEq) (rC X.K fun a b => (eqD a b).map (!·)) := by
  intro pins s σ H x y v u Q I rx ry ⟨Ω, dx, dy, b, hx, hy, e, q⟩
  simp only at e
  unfold eqD at e
  split at e
  · rename_i h
    cases e
    obtain ⟨a1, a2, a3⟩ := hx.dp h.1
    obtain ⟨b1, b2, b3⟩ := hy.dp h.2
    refine op_neD hu pins s σ H x y v u Q I rx ry ⟨_, _, a1, b1, shaped_of a2 a3, shaped_of b2 b3, ?_⟩
    rw [deq_py 60 60 dx dy h.1 h.2]
    exact q
  · cases e
theorem lt_ok : OpR X (compareOp .Lt) (rC X.K ltD) := by
  intro pins s σ H x y v u Q I rx ry ⟨Ω, dx, dy, b, hx, hy, e, q⟩
  unfold ltD at e
  split at e
  · cases e
    exact op_lt pins s σ H x y v u Q I rx ry ⟨_, _, hx.int, hy.int, q⟩
  · cases e
    refine op_lt_str pins s σ H x y v u Q I rx ry ⟨_, _, hx.str.1, hy.str.1, ?_⟩
    rw [sS_toList, sS_toList]; exact q
  · cases e
theorem gt_ok : OpR X (compareOp .Gt) (rC X.K fun a b => ltD b a) := by
  intro pins s σ H x y v u Q I rx ry ⟨Ω, dx, dy, b, hx, hy, e, q⟩
  simp only at e
  unfold ltD at e
  split at e
  · cases e
    exact op_gt pins s σ H x y v u Q I rx ry ⟨_, _, hx.int, hy.int, q⟩
  · cases e
    refine op_gt_str pins s σ H x y v u Q I rx ry ⟨_, _, hx.str.1, hy.str.1, ?_⟩
    rw [sS_toList, sS_toList]; exact q
  · cases e
theorem le_ok : OpR X (compareOp .LtE) (rC X.K leD) := by
  intro pins s σ H x y v u Q I rx ry ⟨Ω, dx, dy, b, hx, hy, e, q⟩
  unfold leD at e
  split at e
  · cases e
    exact op_le pins s σ H x y v u Q I rx ry ⟨_, _, hx.int, hy.int, q⟩
  · cases e
    refine op_le_str pins s σ H x y v u Q I rx ry ⟨_, _, hx.str.1, hy.str.1, ?_⟩
    rw [sS_toList, sS_toList]; exact q
  · cases e
theorem ge_ok : OpR X (compareOp .GtE) (rC X.K fun a b => leD b a) := by
  intro pins s σ H x y v u Q I rx ry ⟨Ω, dx, dy, b, hx, hy, e, q⟩
  simp only at e
  unfold leD at e
  split at e
  · cases e
    exact op_ge pins s σ H x y v u Q I rx ry ⟨_, _, hx.int, hy.int, q⟩
  · cases e
    refine op_ge_str pins s σ H x y v u Q I rx ry ⟨_, _, hx.str.1, hy.str.1, ?_⟩
    rw [sS_toList, sS_toList]; exact q
  · cases e
/-! in -/
theorem any_py (n : Nat) (x : D) (hx : dok n x = true) : ∀ ys : List D, ys.all (dok n) = true → ((pys ys).any fun z => PyData.eqv z (py x)) = ys.any fun y => deq y x
  | [], _ => rfl
  | y :: ys, h => by
    obtain ⟨h1, h2⟩ := Bool.and_eq_true_iff.mp (show (dok n y && ys.all (dok n)) = true from h)
    rw [pys, List.any_cons, List.any_cons, deq_py n n y x h1 hx, any_py n x hx ys h2]
theorem dok_lst {n : Nat} {ys : List D} (h : ys.all (dok n) = true) : dok (n + 1) (.lst ys) = true := by rw [dok]; exact h
theorem dok_tup {n : Nat} {ys : List D} (h : ys.all (dok n) = true) : dok (n + 1) (.tup ys) = true := by rw [dok]; exact h
def rInT (K : PySem.W.Frag) (neg : Bool) : R2 := fun x y H Q => ∃ d ds, Dp K H x d ∧ Dp K H y (.tuple ds) ∧ SeqAt.shaped d = true ∧ SeqAt.shaped (.tuple ds) = true ∧ Q (.bl (if neg then !(ds.any fun z => PyData.eqv z d) else ds.any fun z => PyData.eqv z d)) H
theorem op_inT (hu : X.A.units + 65 < cLine) : OpR X (compareOp .In) (rInT X.K false) := by
  intro pins s σ H x y v u Q I rx ry h
  obtain ⟨d, ds, hd, he, sd, se, q⟩ := h
  obtain ⟨as, r1⟩ := Dp.reads I d x v hd rx
  obtain ⟨bs, r2⟩ := Dp.reads I (.tuple ds) y u he ry
  exact SeqAt.in_tuple_reads r2 r1 (SeqAt.canLay_of_shaped se) (SeqAt.canLay_of_shaped sd) (room_in_shaped sd hu) ⟨.bl _, H, I, rfl, q⟩
theorem op_notInT (hu : X.A.units + 65 < cLine) : OpR X (compareOp .NotIn) (rInT X.K true) := by
  intro pins s σ H x y v u Q I rx ry h
  obtain ⟨d, ds, hd, he, sd, se, q⟩ := h
  obtain ⟨as, r1⟩ := Dp.reads I d x v hd rx
  obtain ⟨bs, r2⟩ := Dp.reads I (.tuple ds) y u he ry
  exact SeqAt.notIn_tuple_reads r2 r1 (SeqAt.canLay_of_shaped se) (SeqAt.canLay_of_shaped sd) (room_in_shaped sd hu) ⟨.bl _, H, I, rfl, q⟩
theorem shaped61 {d : PyData} (h1 : d.canLay0 = true) (h2 : d.depth ≤ 61) : SeqAt.shaped d = true := by
  unfold SeqAt.shaped
  rw [h1, Bool.true_and]
  exact decide_eq_true (by omega)
theorem in_ok (hu : X.A.units + 65 < cLine) : OpR X (compareOp .In) (rC X.K inD) := by
  intro pins s σ H x y v u Q I rx ry ⟨Ω, dx, dy, b, hx, hy, e, q⟩
  unfold inD at e
  split at e
  · cases e
    refine op_in_sign pins s σ H x y v u Q I rx ry ⟨_, _, hx.str.1, hy.str.1, ?_⟩
    rw [sS_toList]; exact q
  · split at e
    · rename_i h
      cases e
      obtain ⟨a1, a2, a3⟩ := hx.dp h.1
      obtain ⟨b1, b2, b3⟩ := hy.dp (dok_lst h.2)
      rw [py] at b1 b2 b3
      refine op_inD hu pins s σ H x y v u Q I rx ry ⟨_, _, a1, b1, shaped_of a2 a3, shaped61 b2 b3, ?_⟩
      rw [any_py 60 _ h.1 _ h.2]; exact q
    · cases e
  · split at e
    · rename_i h
      cases e
      obtain ⟨a1, a2, a3⟩ := hx.dp h.1
      obtain ⟨b1, b2, b3⟩ := hy.dp (dok_tup h.2)
      rw [py] at b1 b2 b3
      refine op_inT hu pins s σ H x y v u Q I rx ry ⟨_, _, a1, b1, shaped_of a2 a3, shaped61 b2 b3, ?_⟩
      rw [if_neg Bool.false_ne_true, any_py 60 _ h.1 _ h.2]; exact q
    · cases e
  · cases e
theorem notIn_ok (hu : X.A.units + 65 < cLine) : OpR X (compareOp .NotIn) (rC X.K fun a b => (inD a b).map (!·)) := by
  intro pins s σ H x y v u Q I rx ry ⟨Ω, dx, dy, b, hx, hy, e, q⟩
  simp only at e
  unfold inD at e
  split at e
  · cases e
    refine op_notIn_sign pins s σ H x y v u Q I rx ry ⟨_, _, hx.str.1, hy.str.1, ?_⟩
    rw [sS_toList]; exact q
  · split at e
    · rename_i h
      cases e
      obtain ⟨a1, a2, a3⟩ := hx.dp h.1
      obtain ⟨b1, b2, b3⟩ := hy.dp (dok_lst h.2)
      rw [py] at b1 b2 b3
      refine op_notInD hu pins s σ H x y v u Q I rx ry ⟨_, _, a1, b1, shaped_of a2 a3, shaped61 b2 b3, ?_⟩
      rw [any_py 60 _ h.1 _ h.2]; exact q
    · cases e
  · split at e
    · rename_i h
      cases e
      obtain ⟨a1, a2, a3⟩ := hx.dp h.1
      obtain ⟨b1, b2, b3⟩ := hy.dp (dok_tup h.2)
      rw [py] at b1 b2 b3
      refine op_notInT hu pins s σ H x y v u Q I rx ry ⟨_, _, a1, b1, shaped_of a2 a3, shaped61 b2 b3, ?_⟩
      rw [if_pos rfl, any_py 60 _ h.1 _ h.2]; exact q
    · cases e
  · cases e
/-! is -/
theorem is_plain {pins : List (Addr × Obj)} {σ : L2.St} {H : Hp} {s : Shared} {v u : Value} {Q : VK} {b : Bool} (I : Inv X pins σ H s) (hp : plainIs v u = true) (e : (v == u) = b) (q : Q (.bl b) H) :
    wpAny (model X.prog X.w) X.A (compareOp .Is v u) (EP X pins σ Q) X.xe s := wpAny_is_plain hp (by rw [e]; exact ⟨.bl b, H, I, rfl, q⟩)
theorem isn_plain {pins : List (Addr × Obj)} {σ : L2.St} {H : Hp} {s : Shared} {v u : Value} {Q : VK} {b : Bool} (I : Inv X pins σ H s) (hp : plainIs v u = true) (e : (v == u) = b) (q : Q (.bl (!b)) H) :
    wpAny (model X.prog X.w) X.A (compareOp .IsNot v u) (EP X pins σ Q) X.xe s := wpAny_isNot_plain hp (by rw [e]; exact ⟨.bl (!b), H, I, rfl, q⟩)
theorem isD_val {K : PySem.W.Frag} {Ω : Wd} {H : Hp} {x y : V} {v u : Value} {dx dy : D} {b : Bool} (hx : Sh K Ω H x dx) (hy : Sh K Ω H y dy) (rx : RelV x v) (ry : RelV y u) (e : isD dx dy = some b) : plainIs v u = true ∧ (v == u) = b := by
  unfold isD at e
  split at e <;> first
    | (cases e; done)
    | (cases e
       have hyv := hy
       first
         | have z := hy.non
         | have z := hy.bl
       subst z
       cases ry
       first
         | (have z := hx.non; subst z; cases rx; exact ⟨rfl, by first | rfl | simp⟩)
         | (have z := hx.bl; subst z; cases rx; exact ⟨rfl, by first | rfl | (simp; done) | (cases ‹Bool› <;> cases ‹Bool› <;> rfl)⟩)
         | (have z := hx.int; subst z; obtain ⟨t, rfl⟩ := rx; exact ⟨rfl, by first | rfl | simp⟩)
         | (have z := hx.str.1; subst z; obtain ⟨t, rfl⟩ := rx; exact ⟨rfl, by first | rfl | simp⟩)
         | (obtain ⟨a, xs, z, _⟩ := hx.tup; subst z; cases rx; exact ⟨rfl, by first | rfl | simp⟩)
         | (obtain ⟨a, xs, z, _⟩ := hx; subst z; cases rx; exact ⟨rfl, by first | rfl | simp⟩))
theorem is_ok : OpR X (compareOp .Is) (rC X.K isD) := by
  intro pins s σ H x y v u Q I rx ry ⟨Ω, dx, dy, b, hx, hy, e, q⟩
  obtain ⟨h1, h2⟩ := isD_val hx hy rx ry e
  exact is_plain I h1 h2 q
theorem isn_ok : OpR X (compareOp .IsNot) (rC X.K fun a b => (isD a b).map (!·)) := by
  intro pins s σ H x y v u Q I rx ry ⟨Ω, dx, dy, b, hx, hy, e, q⟩
  obtain ⟨c, h1, h2⟩ := Option.map_eq_some_iff.mp e
  subst h2
  obtain ⟨h1, h2⟩ := isD_val hx hy rx ry h1
  exact isn_plain I h1 h2 q
theorem cop_ok (hu : X.A.units + 65 < cLine) (o : Cop) : OpR X (compareOp (opC o)) (rC X.K (copD o)) := by
  have hu' : X.A.units + 64 < cLine := by omega
  cases o
  · exact eq_ok hu'
  · exact ne_ok hu'
  · exact lt_ok
  · exact le_ok
  · exact gt_ok
  · exact ge_ok
  · exact in_ok hu
  · exact notIn_ok hu
  · exact is_ok
  · exact isn_ok
end
end PL
end

section
set_option Elab.async false
set_option linter.all false
set_option maxRecDepth 100000
set_option maxHeartbeats 4000000
/-! PL4: items, slices, built-in functions, methods. -/
namespace PL
open PySem PySem.Spec PyProof.Rows L2

section
variable {K : PySem.W.Frag} {Ω : Wd} {H : Hp}
theorem RpA.atI {xs : List V} {ds : List D} {i : Int} {d : D} (r : RpA K Ω H xs ds) (h : PL.atI ds i = some d) : ∃ v, L2.atI xs i = some v ∧ Rp K Ω H v d := by
  unfold PL.atI at h
  unfold L2.atI
  rw [r.length]
  obtain ⟨j, h1, h2⟩ := Option.bind_eq_some_iff.mp h
  obtain ⟨v, h3, h4⟩ := r.get h2
  exact ⟨v, Option.bind_eq_some_iff.mpr ⟨j, h1, h3⟩, h4⟩
theorem RpA.cut {xs : List V} {ds : List D} (r : RpA K Ω H xs ds) (lo hi : Option Int) : RpA K Ω H (cutV xs lo hi) (cutL ds lo hi) := by
  unfold cutV cutL
  rw [r.length]
  exact (r.drop _).take _
theorem okS_mem {a b : List Nat} (h : okS a) (hl : b.length ≤ a.length) (hm : ∀ c ∈ b, c ∈ a) : okS b := ⟨Nat.le_trans hl h.1, fun c hc => h.2 c (hm c hc)⟩
theorem okS_one {a : List Nat} {c : Nat} (h : okS a) (hc : c ∈ a) : okS [c] := okS_mem h (by cases a with | nil => cases hc | cons _ _ => simp) (fun d hd => by rw [List.mem_singleton.mp hd]; exact hc)
theorem mem_atI {α : Type} {xs : List α} {i : Int} {c : α} (h : PL.atI xs i = some c) : c ∈ xs := by
  unfold PL.atI at h
  obtain ⟨j, _, h2⟩ := Option.bind_eq_some_iff.mp h
  exact List.mem_of_getElem? h2
theorem cut_len {α : Type} (xs : List α) (lo hi : Option Int) : (cutL xs lo hi).length ≤ xs.length := by
  unfold cutL
  rw [List.length_take, List.length_drop]
  omega
theorem cut_mem {α : Type} {xs : List α} {lo hi : Option Int} {c : α} (h : c ∈ cutL xs lo hi) : c ∈ xs := by
  unfold cutL at h
  exact List.mem_of_mem_drop (List.mem_of_mem_take h)
theorem okS_cut {a : List Nat} (h : okS a) (lo hi : Option Int) : okS (cutL a lo hi) := okS_mem h (cut_len a lo hi) fun _ hc => cut_mem hc
end

/-! ### items -/
def rIdx (K : PySem.W.Frag) : R2 := fun x y H Q => ∃ Ω s dx dy d, SRel Ω s H ∧ Sh K Ω H x dx ∧ Sh K Ω H y dy ∧ idxM dx dy s = .ok d s ∧ Wt K Ω s H d Q
theorem lift_ok {α : Type} {o : Option α} {s : S} {a : α} (h : PL.lift o s = .ok a s) : o = some a := by
  cases o with
  | none => cases h
  | some b => injection h with h1 _; rw [h1]
section
variable {X : Cx}
theorem idx_ok : IxR X (rIdx X.K) := by
  intro value slice pins s σ H x y v u Q I rx ry ⟨Ω, st, dx, dy, d, sr, hx, hy, e, q⟩ hs
  cases dx with
  | cup =>
    have e : cupGet dy st = .ok d st := e
    unfold cupGet at e
    cases hx with
    | cup hc =>
      obtain ⟨a, b, h1, h2⟩ := sr.cupT hc
      rw [h1] at e
      split at e
      · cases e
        cases ‹some (a, b) = some _›
        exact ix_list value slice pins s σ H _ y v u Q I rx ry ⟨_, _, 0, .int _, rfl, hy.int, SqL.of h2, rfl, q.here sr (.int _)⟩ hs
      · cases e
        cases ‹some (a, b) = some _›
        exact ix_list value slice pins s σ H _ y v u Q I rx ry ⟨_, _, 1, .int _, rfl, hy.int, SqL.of h2, rfl, q.here sr (.int _)⟩ hs
      · cases e
  | lst xs =>
    have e := lift_ok (show PL.lift (idxD (.lst xs) dy) st = .ok d st from e)
    obtain ⟨p, vs, ex, _, hp, r⟩ := hx
    cases dy with
    | int i =>
      obtain ⟨w, h1, h2⟩ := r.atI (show PL.atI xs i = some d from e)
      exact ix_list value slice pins s σ H x y v u Q I rx ry ⟨p, vs, i, w, ex, hy.int, SqL.of hp, h1, q.here sr h2⟩ hs
    | _ => cases e
  | tup xs =>
    have e := lift_ok (show PL.lift (idxD (.tup xs) dy) st = .ok d st from e)
    obtain ⟨p, vs, ex, hp, r⟩ := hx.tup
    cases dy with
    | int i =>
      obtain ⟨w, h1, h2⟩ := r.atI (show PL.atI xs i = some d from e)
      exact ix_tup value slice pins s σ H x y v u Q I rx ry ⟨p, vs, i, w, ex, hy.int, hp, h1, q.here sr h2⟩ hs
    | _ => cases e
  | str l =>
    have e := lift_ok (show PL.lift (idxD (.str l) dy) st = .ok d st from e)
    obtain ⟨ex, ok⟩ := hx.str
    cases dy with
    | int i =>
      obtain ⟨c, h1, h2⟩ := Option.map_eq_some_iff.mp (show (PL.atI l i).map (fun c => D.str [c]) = some d from e)
      subst h2
      refine ix_str value slice pins s σ H x y v u Q I rx ry ⟨sS l, i, c, ex, hy.int, ?_, ?_, q.here sr (.str (okS_one ok (mem_atI h1)))⟩ hs
      · rw [sS_length]; exact ok.1
      · rw [sS_toList]; exact h1
    | _ => cases e
  | dic ks vs => cases e
  | non => cases e
  | bl _ => cases e
  | int _ => cases e
  | fn _ => cases e
  | ty _ => cases e

/-! ### slices -/
def rSl (K : PySem.W.Frag) : V → Option Int → Option Int → Hp → VK → Prop := fun x lo hi H Q => ∃ Ω s dx d, SRel Ω s H ∧ Sh K Ω H x dx ∧ slcD dx lo hi = some d ∧ Wt K Ω s H d Q
theorem slc_ok : SlR X (rSl X.K) := by
  intro pins s σ H x v vl vu lo hi sl Q I rx hs pl pu ⟨Ω, st, dx, d, sr, hx, e, q⟩
  cases dx with
  | lst xs =>
    obtain ⟨p, vs, ex, _, hp, r⟩ := hx
    cases e
    exact sl_list pins s σ H x v vl vu lo hi sl Q I rx hs pl pu ⟨p, vs, ex, SqL.of hp, fun z hz => q.lst sr (r.cut lo hi) hz⟩
  | tup xs =>
    obtain ⟨p, vs, ex, hp, r⟩ := hx.tup
    cases e
    refine sl_tupA pins s σ H x v vl vu lo hi sl Q I rx hs pl pu ⟨p, vs, ex, hp, fun hw => ?_, fun _ z hz => q.tup sr (r.cut lo hi) hz⟩
    have r' := r.cut lo hi
    have e1 : cutV vs lo hi = vs := by
      unfold cutV
      rw [hw.1, hw.2]; simp
    have e2 : cutL xs lo hi = xs := by
      have h1 : PL.sIx xs.length 0 lo = 0 := by rw [← r.length]; exact hw.1
      have h2 : PL.sIx xs.length xs.length hi = xs.length := by rw [← r.length]; exact hw.2
      unfold cutL
      rw [h1, h2]; simp
    rw [e2] at q
    exact q.here sr (by rw [ex] at hx; subst ex; exact .tup hp r)
  | str l =>
    obtain ⟨ex, ok⟩ := hx.str
    cases e
    refine sl_str pins s σ H x v vl vu lo hi sl Q I rx hs pl pu ⟨sS l, ex, by rw [sS_length]; exact ok.1, ?_⟩
    have e1 : cutS (sS l) lo hi = sS (cutL l lo hi) := by
      unfold cutS cutL
      rw [sS_toList, sS_length]; rfl
    rw [e1]
    exact q.here sr (.str (okS_cut ok lo hi))
  | _ => cases e

/-! ### built-in functions -/
inductive ShA (K : PySem.W.Frag) (Ω : Wd) (H : Hp) : List V → List D → Prop
  | nil : ShA K Ω H [] []
  | cons {v : V} {vs : List V} {d : D} {ds : List D} : Sh K Ω H v d → ShA K Ω H vs ds → ShA K Ω H (v :: vs) (d :: ds)
theorem ShA.one {K : PySem.W.Frag} {Ω : Wd} {H : Hp} {vs : List V} {d : D} (h : ShA K Ω H vs [d]) : ∃ v, vs = [v] ∧ Sh K Ω H v d := by
  cases h with
  | cons a b => cases b; exact ⟨_, rfl, a⟩
theorem ShA.two {K : PySem.W.Frag} {Ω : Wd} {H : Hp} {vs : List V} {d e : D} (h : ShA K Ω H vs [d, e]) : ∃ v w, vs = [v, w] ∧ Sh K Ω H v d ∧ Sh K Ω H w e := by
  cases h with
  | cons a b =>
    obtain ⟨w, e1, e2⟩ := b.one
    exact ⟨_, w, by rw [e1], a, e2⟩
def rK (K : PySem.W.Frag) (f : List D → Option D) : List V → Hp → VK → Prop := fun vs H Q => ∃ Ω s ds d, SRel Ω s H ∧ ShA K Ω H vs ds ∧ f ds = some d ∧ Wt K Ω s H d Q
def bfV : Bf → Value
  | .len => .builtin "len"
  | .abs => .builtin "abs"
  | .int => .type "int"
  | .str => .type "str"
  | .tuple => .type "tuple"
  | .list => .type "list"
  | .sum => .builtin "sum"
  | .max => .builtin "max"
  | .min => .builtin "min"
  | .max2 => .builtin "max"
  | .min2 => .builtin "min"
  | .all => .builtin "all"
  | .any => .builtin "any"
  | .sorted => .builtin "sorted"
  | .sortedSet => .none
  | .lenSet => .none
theorem len_ok : CallR X (.builtin "len") (rK X.K (bifD .len)) := by
  intro pins s σ H vs us Q I rv ⟨Ω, st, ds, d, sr, ha, e, q⟩
  unfold bifD at e
  split at e
  · obtain ⟨w, rfl, hw⟩ := ha.one
    simp only [bif1] at e
    unfold lenD at e
    split at e
    · cases e
      obtain ⟨p, xs, rfl, _, hp, r⟩ := hw
      rw [← r.length] at q
      exact call_len_seq pins s σ H _ us Q I rv ⟨p, xs, rfl, .inl (SqL.of hp), q.here sr (.int _)⟩
    · cases e
      obtain ⟨p, xs, rfl, hp, r⟩ := hw.tup
      rw [← r.length] at q
      exact call_len_seq pins s σ H _ us Q I rv ⟨p, xs, rfl, .inr hp, q.here sr (.int _)⟩
    · cases e
      obtain ⟨rfl, ok⟩ := hw.str
      refine call_len_str pins s σ H _ us Q I rv ⟨_, rfl, by rw [sS_length]; exact ok.1, ?_⟩
      rw [sS_length]; exact q.here sr (.int _)
    · cases e
  · cases e
  · cases e
theorem abs_ok : CallR X (.builtin "abs") (rK X.K (bifD .abs)) := by
  intro pins s σ H vs us Q I rv ⟨Ω, st, ds, d, sr, ha, e, q⟩
  unfold bifD at e
  split at e
  · obtain ⟨w, rfl, hw⟩ := ha.one
    simp only [bif1] at e
    unfold absD at e
    split at e
    · cases e
      have z := hw.int; subst z
      exact call_abs pins s σ H _ us Q I rv ⟨_, rfl, q.here sr (.int _)⟩
    · cases e
  · cases e
  · cases e
theorem int_ok : CallR X (.type "int") (rK X.K (bifD .int)) := by
  intro pins s σ H vs us Q I rv ⟨Ω, st, ds, d, sr, ha, e, q⟩
  unfold bifD at e
  split at e
  · obtain ⟨w, rfl, hw⟩ := ha.one
    simp only [bif1] at e
    unfold intD at e
    split at e
    · cases e
      have z := hw.int; subst z
      exact call_int1 pins s σ H _ us Q I rv (.inl ⟨_, rfl, q.here sr (.int _)⟩)
    · cases e
  · cases e
  · cases e
theorem tuple_ok : CallR X (.type "tuple") (rK X.K (bifD .tuple)) := by
  intro pins s σ H vs us Q I rv ⟨Ω, st, ds, d, sr, ha, e, q⟩
  unfold bifD at e
  split at e
  · obtain ⟨w, rfl, hw⟩ := ha.one
    simp only [bif1] at e
    unfold tupleD at e
    split at e
    · cases e
      obtain ⟨p, xs, rfl, _, hp, r⟩ := hw
      exact call_tuple_of pins s σ H _ us Q I rv ⟨p, xs, rfl, .inl ⟨SqL.of hp, fun l hl => q.tup sr r hl⟩⟩
    · cases e
      obtain ⟨p, xs, rfl, hp, r⟩ := hw.tup
      exact call_tuple_of pins s σ H _ us Q I rv ⟨p, xs, rfl, .inr ⟨hp, q.here sr (.tup hp r)⟩⟩
    · cases e
  · cases e
  · cases e
theorem maxI_spec : ∀ (r : List Int) (m : Int), (maxI m r = m ∨ maxI m r ∈ r) ∧ m ≤ maxI m r ∧ ∀ y ∈ r, y ≤ maxI m r
  | [], m => ⟨.inl rfl, Int.le_refl _, fun _ h => nomatch h⟩
  | i :: r, m => by
    unfold maxI
    have hk : (if i > m then i else m) = i ∨ (if i > m then i else m) = m := by split <;> simp
    have hk1 : m ≤ (if i > m then i else m) ∧ i ≤ (if i > m then i else m) := by split <;> omega
    generalize (if i > m then i else m) = k at hk hk1 ⊢
    obtain ⟨h1, h2, h3⟩ := maxI_spec r k
    refine ⟨?_, by omega, fun y hy => ?_⟩
    · rcases h1 with h1 | h1
      · rw [h1]
        rcases hk with z | z
        · rw [z]; exact .inr List.mem_cons_self
        · rw [z]; exact .inl rfl
      · exact .inr (List.mem_cons_of_mem _ h1)
    · rcases List.mem_cons.mp hy with z | z
      · subst z; omega
      · exact h3 y z
theorem minI_spec : ∀ (r : List Int) (m : Int), (minI m r = m ∨ minI m r ∈ r) ∧ minI m r ≤ m ∧ ∀ y ∈ r, minI m r ≤ y
  | [], m => ⟨.inl rfl, Int.le_refl _, fun _ h => nomatch h⟩
  | i :: r, m => by
    unfold minI
    have hk : (if i < m then i else m) = i ∨ (if i < m then i else m) = m := by split <;> simp
    have hk1 : (if i < m then i else m) ≤ m ∧ (if i < m then i else m) ≤ i := by split <;> omega
    generalize (if i < m then i else m) = k at hk hk1 ⊢
    obtain ⟨h1, h2, h3⟩ := minI_spec r k
    refine ⟨?_, by omega, fun y hy => ?_⟩
    · rcases h1 with h1 | h1
      · rw [h1]
        rcases hk with z | z
        · rw [z]; exact .inr List.mem_cons_self
        · rw [z]; exact .inl rfl
      · exact .inr (List.mem_cons_of_mem _ h1)
    · rcases List.mem_cons.mp hy with z | z
      · subst z; omega
      · exact h3 y z
theorem intsD_of {K : PySem.W.Frag} {Ω : Wd} {H : Hp} {f : List Int → Option D} {x : D} {d : D} {v : V} (hv : Sh K Ω H v x) (h : intsD f x = some d) : ∃ p ns, v = .ref p ∧ SqA K H p (ns.map V.int) ∧ f ns = some d := by
  unfold intsD at h
  split at h
  · obtain ⟨ns, h1, h2⟩ := Option.bind_eq_some_iff.mp h
    obtain ⟨p, xs, rfl, _, hp, r⟩ := hv
    rw [r.ints h1] at hp
    exact ⟨p, ns, rfl, .inl (SqL.of hp), h2⟩
  · obtain ⟨ns, h1, h2⟩ := Option.bind_eq_some_iff.mp h
    obtain ⟨p, xs, rfl, hp, r⟩ := Sh.tup hv
    rw [r.ints h1] at hp
    exact ⟨p, ns, rfl, .inr hp, h2⟩
  · cases h
theorem intsL_of {K : PySem.W.Frag} {Ω : Wd} {H : Hp} {f : List Int → Option D} {x : D} {d : D} {v : V} (hv : Sh K Ω H v x) (h : intsL f x = some d) : ∃ p ns, v = .ref p ∧ H p = some (.lst (ns.map V.int)) ∧ f ns = some d := by
  unfold intsL at h
  split at h
  · obtain ⟨ns, h1, h2⟩ := Option.bind_eq_some_iff.mp h
    obtain ⟨p, xs, rfl, _, hp, r⟩ := hv
    rw [r.ints h1] at hp
    exact ⟨p, ns, rfl, hp, h2⟩
  · cases h
theorem sum_ok (hc : X.calm = true) : CallR X (.builtin "sum") (rK X.K (bifD .sum)) := by
  intro pins s σ H vs us Q I rv ⟨Ω, st, ds, d, sr, ha, e, q⟩
  unfold bifD at e
  split at e
  · obtain ⟨w, rfl, hw⟩ := ha.one
    obtain ⟨p, ns, rfl, hp, h⟩ := intsD_of hw e
    cases h
    exact crU_sum hc pins s σ H _ us Q I rv ⟨p, ns, rfl, hp, q.here sr (.int _)⟩
  · cases e
  · cases e
theorem max_ok (hc : X.calm = true) : CallR X (.builtin "max") (rK X.K (bifD .max)) := by
  intro pins s σ H vs us Q I rv ⟨Ω, st, ds, d, sr, ha, e, q⟩
  unfold bifD at e
  split at e
  · obtain ⟨w, rfl, hw⟩ := ha.one
    obtain ⟨p, ns, rfl, hp, h⟩ := intsD_of hw e
    cases ns with
    | nil => cases h
    | cons m r =>
      cases h
      refine crU_max hc pins s σ H _ us Q I rv ⟨p, _, rfl, hp, by simp, fun k hk hall => ?_⟩
      obtain ⟨h1, h2, h3⟩ := maxI_spec r m
      have e1 : k = maxI m r := by
        have a1 : maxI m r ≤ k := by
          rcases h1 with h1 | h1
          · rw [h1]; exact hall m List.mem_cons_self
          · exact hall _ (List.mem_cons_of_mem _ h1)
        have a2 : k ≤ maxI m r := by
          rcases List.mem_cons.mp hk with z | z
          · rw [z]; exact h2
          · exact h3 k z
        omega
      rw [e1]
      exact q.here sr (.int _)
  · cases e
  · cases e
theorem min_ok (hc : X.calm = true) : CallR X (.builtin "min") (rK X.K (bifD .min)) := by
  intro pins s σ H vs us Q I rv ⟨Ω, st, ds, d, sr, ha, e, q⟩
  unfold bifD at e
  split at e
  · obtain ⟨w, rfl, hw⟩ := ha.one
    obtain ⟨p, ns, rfl, hp, h⟩ := intsD_of hw e
    cases ns with
    | nil => cases h
    | cons m r =>
      cases h
      refine crU_min hc pins s σ H _ us Q I rv ⟨p, _, rfl, hp, by simp, fun k hk hall => ?_⟩
      obtain ⟨h1, h2, h3⟩ := minI_spec r m
      have e1 : k = minI m r := by
        have a1 : k ≤ minI m r := by
          rcases h1 with h1 | h1
          · rw [h1]; exact hall m List.mem_cons_self
          · exact hall _ (List.mem_cons_of_mem _ h1)
        have a2 : minI m r ≤ k := by
          rcases List.mem_cons.mp hk with z | z
          · rw [z]; exact h2
          · exact h3 k z
        omega
      rw [e1]
      exact q.here sr (.int _)
  · cases e
  · cases e
theorem max2_ok (hc : X.calm = true) : CallR X (.builtin "max") (rK X.K (bifD .max2)) := by
  intro pins s σ H vs us Q I rv ⟨Ω, st, ds, d, sr, ha, e, q⟩
  unfold bifD at e
  split at e
  · cases e
  · obtain ⟨v, w, rfl, hv, hw⟩ := ha.two
    simp only [bif2] at e
    unfold max2D at e
    split at e
    · cases e
      have z := hv.int; subst z
      have z := hw.int; subst z
      exact call_max2 hc pins s σ H _ us Q I rv ⟨_, _, rfl, q.here sr (.int _)⟩
    · cases e
  · cases e
theorem min2_ok (hc : X.calm = true) : CallR X (.builtin "min") (rK X.K (bifD .min2)) := by
  intro pins s σ H vs us Q I rv ⟨Ω, st, ds, d, sr, ha, e, q⟩
  unfold bifD at e
  split at e
  · cases e
  · obtain ⟨v, w, rfl, hv, hw⟩ := ha.two
    simp only [bif2] at e
    unfold min2D at e
    split at e
    · cases e
      have z := hv.int; subst z
      have z := hw.int; subst z
      exact call_min2 hc pins s σ H _ us Q I rv ⟨_, _, rfl, q.here sr (.int _)⟩
    · cases e
  · cases e
theorem blsD_of {K : PySem.W.Frag} {Ω : Wd} {H : Hp} {f : List Bool → Bool} {x : D} {d : D} {v : V} (hv : Sh K Ω H v x) (h : blsD f x = some d) : ∃ p ns, v = .ref p ∧ H p = some (.lst (ns.map V.bl)) ∧ d = .bl (f ns) := by
  unfold blsD at h
  split at h
  · obtain ⟨ns, h1, h2⟩ := Option.map_eq_some_iff.mp h
    obtain ⟨p, xs, rfl, _, hp, r⟩ := hv
    rw [r.bls h1] at hp
    exact ⟨p, ns, rfl, hp, h2.symm⟩
  · cases h
theorem all_ok (hc : X.calm = true) : CallR X (.builtin "all") (rK X.K (bifD .all)) := by
  intro pins s σ H vs us Q I rv ⟨Ω, st, ds, d, sr, ha, e, q⟩
  unfold bifD at e
  split at e
  · obtain ⟨w, rfl, hw⟩ := ha.one
    obtain ⟨p, ns, rfl, hp, h⟩ := blsD_of hw e
    subst h
    exact cr_all hc pins s σ H _ us Q I rv ⟨p, ns, rfl, SqL.of hp, q.here sr (.bl _)⟩
  · cases e
  · cases e
theorem any_ok (hc : X.calm = true) : CallR X (.builtin "any") (rK X.K (bifD .any)) := by
  intro pins s σ H vs us Q I rv ⟨Ω, st, ds, d, sr, ha, e, q⟩
  unfold bifD at e
  split at e
  · obtain ⟨w, rfl, hw⟩ := ha.one
    obtain ⟨p, ns, rfl, hp, h⟩ := blsD_of hw e
    subst h
    exact cr_any hc pins s σ H _ us Q I rv ⟨p, ns, rfl, SqL.of hp, q.here sr (.bl _)⟩
  · cases e
  · cases e
theorem insI_perm (i : Int) : ∀ r : List Int, (insI i r).Perm (i :: r)
  | [] => .refl _
  | j :: r => by
    unfold insI
    split
    · exact .refl _
    · exact ((insI_perm i r).cons j).trans (List.Perm.swap i j r)
theorem sortI_perm : ∀ r : List Int, (sortI r).Perm r
  | [] => .refl _
  | i :: r => (insI_perm i _).trans ((sortI_perm r).cons i)
theorem insI_srt (i : Int) : ∀ r : List Int, r.Pairwise (· ≤ ·) → (insI i r).Pairwise (· ≤ ·)
  | [], _ => by simp [insI]
  | j :: r, h => by
    unfold insI
    obtain ⟨h1, h2⟩ := List.pairwise_cons.mp h
    split
    · rename_i hle
      refine List.pairwise_cons.mpr ⟨fun x hx => ?_, h⟩
      rcases List.mem_cons.mp hx with z | z
      · rw [z]; exact hle
      · exact Int.le_trans hle (h1 x z)
    · rename_i hle
      refine List.pairwise_cons.mpr ⟨fun x hx => ?_, insI_srt i r h2⟩
      rcases List.mem_cons.mp ((insI_perm i r).mem_iff.mp hx) with z | z
      · rw [z]; omega
      · exact h1 x z
theorem sortI_srt : ∀ r : List Int, (sortI r).Pairwise (· ≤ ·)
  | [] => .nil
  | i :: r => insI_srt i _ (sortI_srt r)
theorem sort_uniq : ∀ {a b : List Int}, a.Perm b → a.Pairwise (· ≤ ·) → b.Pairwise (· ≤ ·) → a = b
  | [], b, p, _, _ => p.nil_eq
  | x :: a, [], p, _, _ => absurd p.symm.nil_eq (by simp)
  | x :: a, y :: b, p, ha, hb => by
    obtain ⟨a1, a2⟩ := List.pairwise_cons.mp ha
    obtain ⟨b1, b2⟩ := List.pairwise_cons.mp hb
    have e : x = y := by
      have h1 : x ∈ y :: b := p.mem_iff.mp List.mem_cons_self
      have h2 : y ∈ x :: a := p.mem_iff.mpr List.mem_cons_self
      rcases List.mem_cons.mp h1 with z | z
      · exact z
      · rcases List.mem_cons.mp h2 with w | w
        · exact w.symm
        · have := b1 x z; have := a1 y w; omega
    subst e
    rw [sort_uniq (p.cons_inv) a2 b2]
theorem sorted_ok : CallR X (.builtin "sorted") (rK X.K (bifD .sorted)) := by
  intro pins s σ H vs us Q I rv ⟨Ω, st, ds, d, sr, ha, e, q⟩
  unfold bifD at e
  split at e
  · obtain ⟨w, rfl, hw⟩ := ha.one
    obtain ⟨p, ns, rfl, hp, h⟩ := intsL_of hw e
    cases h
    refine cr_sortedI pins s σ H _ us Q I rv ⟨p, ns, rfl, SqL.of hp, fun ns' z h1 h2 hz => ?_⟩
    rw [sort_uniq (h1.trans (sortI_perm ns).symm) h2 (sortI_srt ns)]
    exact q.lst sr (RpA.ofInts _) hz
  · cases e
  · cases e
theorem str_ok : CallR X (.type "str") (rK X.K (bifD .str)) := by
  intro pins s σ H vs us Q I rv ⟨Ω, st, ds, d, sr, ha, e, q⟩
  unfold bifD at e
  split at e
  · obtain ⟨w, rfl, hw⟩ := ha.one
    rename_i x
    cases x with
    | str l =>
      cases e
      obtain ⟨rfl, ok⟩ := Sh.str hw
      exact SkE.call_str_str pins s σ H _ us Q I rv ⟨_, rfl, q.here sr (.str ok)⟩
    | _ => cases e
  · cases e
  · cases e
theorem list_ok : CallR X (.type "list") (rK X.K (bifD .list)) := by
  intro pins s σ H vs us Q I rv ⟨Ω, st, ds, d, sr, ha, e, q⟩
  unfold bifD at e
  split at e
  · obtain ⟨w, rfl, hw⟩ := ha.one
    rename_i x
    cases x with
    | lst l =>
      cases e
      obtain ⟨p, xs, rfl, _, hp, r⟩ := hw
      exact call_list_of pins s σ H _ us Q I rv ⟨p, xs, rfl, .inl (SqL.of hp), fun l hl => q.lst sr r hl⟩
    | tup l =>
      cases e
      obtain ⟨p, xs, rfl, hp, r⟩ := Sh.tup hw
      exact call_list_of pins s σ H _ us Q I rv ⟨p, xs, rfl, .inr hp, fun l hl => q.lst sr r hl⟩
    | _ => cases e
  · cases e
  · cases e
/-! ### methods -/
def rMe (K : PySem.W.Frag) (f : D → List D → Option D) : V → List V → Hp → VK → Prop := fun x vs H Q => ∃ Ω s dx ds d, SRel Ω s H ∧ Sh K Ω H x dx ∧ ShA K Ω H vs ds ∧ f dx ds = some d ∧ Wt K Ω s H d Q
theorem joinS_eq (sep : List Nat) : ∀ ls : List (List Nat), TL.joinL sep ls = joinS sep ls
  | [] => rfl
  | [_] => rfl
  | x :: y :: r => by rw [TL.joinL, joinS, joinS_eq sep (y :: r)]
theorem joinS_len (sep : List Nat) : ∀ ls : List (List Nat), (joinS sep ls).length ≤ (ls.map List.length).sum + ls.length * sep.length
  | [] => by simp [joinS]
  | [x] => by simp [joinS]
  | x :: y :: r => by
    have := joinS_len sep (y :: r)
    rw [joinS, List.length_append, List.length_append]
    simp only [List.map_cons, List.sum_cons, List.length_cons, Nat.add_mul] at this ⊢
    omega
theorem joinS_mem {sep : List Nat} {c : Nat} : ∀ {ls : List (List Nat)}, c ∈ joinS sep ls → c ∈ sep ∨ ∃ l ∈ ls, c ∈ l
  | [], h => by simp [joinS] at h
  | [x], h => .inr ⟨x, by simp, h⟩
  | x :: y :: r, h => by
    rw [joinS, List.mem_append, List.mem_append] at h
    rcases h with h | h | h
    · exact .inr ⟨x, by simp, h⟩
    · exact .inl h
    · rcases joinS_mem h with z | ⟨l, z1, z2⟩
      · exact .inl z
      · exact .inr ⟨l, List.mem_cons_of_mem _ z1, z2⟩
theorem join_go {K : PySem.W.Frag} {Ω : Wd} {H : Hp} {vs : List V} {xs : List D} {sep : List Nat} {d : D} (r : RpA K Ω H vs xs) (oks : okS sep) (h : joinD sep xs = some d) :
    ∃ ys : List Str, vs = ys.map V.str ∧ (ys.map (·.length)).sum + ys.length * (sS sep).length ≤ 16777216 ∧ ∃ z, okS z ∧ Txt.join (sS sep) ys = sS z ∧ d = .str z := by
  unfold joinD at h
  obtain ⟨ls, h1, h2⟩ := Option.bind_eq_some_iff.mp h
  obtain ⟨e1, e2⟩ := r.strs h1
  by_cases c : (ls.map List.length).sum + ls.length * sep.length ≤ BIG
  · rw [if_pos c] at h2
    cases h2
    have hb : (BIG : Nat) ≤ 16777216 := by decide
    refine ⟨ls.map sS, by rw [e1, List.map_map]; rfl, ?_, joinS sep ls, ⟨?_, fun c' hc => ?_⟩, ?_, rfl⟩
    · rw [List.map_map, List.length_map, sS_length]
      have : (ls.map ((fun x : Str => x.length) ∘ sS)) = ls.map List.length := List.map_congr_left fun l _ => sS_length l
      rw [this]; omega
    · exact Nat.le_trans (joinS_len sep ls) (Nat.le_trans c (Nat.le_of_lt big_line))
    · rcases joinS_mem hc with z | ⟨l, z1, z2⟩
      · exact oks.2 c' z
      · exact (e2 l z1).2 c' z2
    · rw [← joinS_eq]
      exact SX.join_S sep ls
  · rw [if_neg c] at h2; cases h2
theorem join_ok : MtR X "str.join" (rMe X.K (metD .join)) := by
  intro pins s σ H x xs v us Q I rx rs ⟨Ω, st, dx, ds, d, sr, hx, hs, e, q⟩
  unfold metD at e
  split at e
  · rename_i sep ys h1 h2 h3
    obtain ⟨rfl, oks⟩ := Sh.str hx
    obtain ⟨w, rfl, hw⟩ := hs.one
    obtain ⟨p, vs, rfl, _, hp, r⟩ := hw
    obtain ⟨zs, rfl, hz, z, okz, ez, rfl⟩ := join_go r oks e
    exact mt_join pins s σ H _ _ v us Q I rx rs ⟨_, p, zs, rfl, rfl, .inl (SqL.of hp), hz, by rw [ez]; exact q.here sr (.str okz)⟩
  · rename_i sep ys h1 h2 h3
    obtain ⟨rfl, oks⟩ := Sh.str hx
    obtain ⟨w, rfl, hw⟩ := hs.one
    obtain ⟨p, vs, rfl, hp, r⟩ := Sh.tup hw
    obtain ⟨zs, rfl, hz, z, okz, ez, rfl⟩ := join_go r oks e
    exact mt_join pins s σ H _ _ v us Q I rx rs ⟨_, p, zs, rfl, rfl, .inr hp, hz, by rw [ez]; exact q.here sr (.str okz)⟩
  · rename_i h1; cases h1
  · cases e
theorem count_ok : MtR X "list.count" (rMe X.K (metD .count)) := by
  intro pins s σ H x xs v us Q I rx rs ⟨Ω, st, dx, ds, d, sr, hx, hs, e, q⟩
  unfold metD at e
  split at e
  · rename_i h1; cases h1
  · rename_i h1; cases h1
  · rename_i ys i h1
    obtain ⟨p, vs, rfl, _, hp, r⟩ := hx
    obtain ⟨w, rfl, hw⟩ := hs.one
    obtain ⟨ns, e1, rfl⟩ := Option.map_eq_some_iff.mp e
    rw [r.ints e1] at hp
    exact mt_lcount pins s σ H _ _ v us Q I rx rs ⟨p, ns, i, rfl, by rw [Sh.int hw], SqL.of hp, q.here sr (.int _)⟩
  · cases e
end
end PL
end

section
set_option Elab.async false
set_option linter.all false
set_option maxRecDepth 100000
set_option maxHeartbeats 4000000
/-! PL5: slots, readings, walks. -/
namespace PL
open PySem PySem.Spec PyProof.Rows L2

/-! ### what is frozen stands -/
structure LeF (Ω : Wd) (H : Hp) (Ω' : Wd) (H' : Hp) : Prop where
  F : ∀ a, Ω.F a → Ω'.F a
  cup : Ω'.cup = Ω.cup
  keep : ∀ a o, Ω.F a → H a = some o → H' a = some o
  tup : ∀ a xs, Rd H a (.tup xs) → Rd H' a (.tup xs)
theorem Le.f {Ω Ω' : Wd} {H H' : Hp} (e : Le Ω H Ω' H') : LeF Ω H Ω' H' :=
  ⟨e.F, e.cup, fun a o f h => e.keep a o h fun q => absurd q (Ω.dis a f), fun a xs h => e.rd h rfl⟩
theorem LeF.trans {Ω Ω1 Ω2 : Wd} {H H1 H2 : Hp} (a : LeF Ω H Ω1 H1) (b : LeF Ω1 H1 Ω2 H2) : LeF Ω H Ω2 H2 :=
  ⟨fun x h => b.F x (a.F x h), b.cup.trans a.cup, fun x o f h => b.keep x o (a.F x f) (a.keep x o f h), fun x xs h => b.tup x xs (a.tup x xs h)⟩
theorem LeF.refl (Ω : Wd) (H : Hp) : LeF Ω H Ω H := ⟨fun _ h => h, rfl, fun _ _ _ h => h, fun _ _ h => h⟩
/-- a list that is not frozen changes -/
theorem LeF.own {Ω : Wd} {H : Hp} {p : Addr} {o o' : HO} (f : ¬ Ω.F p) (h : H p = some o) (ho : ∀ xs, ¬ Rd H p (.tup xs)) : LeF Ω H Ω (upd H p o') :=
  ⟨fun _ h => h, rfl, fun a u fa ha => by rw [upd_ne (fun e => f (by first | (rw [← e]; exact fa) | (rw [e]; exact fa)))]; exact ha, fun a xs ha => by
    have : a ≠ p := fun e => ho xs (by rw [← e]; exact ha)
    rcases ha with ha | ⟨ob, ha⟩
    · exact .inl (by rw [upd_ne this]; exact ha)
    · exact .inr ⟨ob, by rw [upd_ne this]; exact ha⟩⟩
theorem noTup_lst {H : Hp} {p : Addr} {vs : List V} (h : H p = some (.lst vs)) : ∀ xs, ¬ Rd H p (.tup xs) := fun xs q => by
  rcases q with q | ⟨o, q⟩ <;> (rw [h] at q; cases q)
theorem noTup_dk {H : Hp} {p : Addr} {vs : List (Key × V)} (h : H p = some (.dK vs)) : ∀ xs, ¬ Rd H p (.tup xs) := fun xs q => by
  rcases q with q | ⟨o, q⟩ <;> (rw [h] at q; cases q)
section
variable {K : PySem.W.Frag} {Ω Ω' : Wd} {H H' : Hp}
theorem LeF.sqT (e : LeF Ω H Ω' H') {a : Addr} {xs : List V} (h : SqT K H a xs) : SqT K H' a xs := by
  rcases h with h | h
  · exact .inl (e.tup a xs h)
  · exact .inr h
theorem LeF.rd (e : LeF Ω H Ω' H') {a : Addr} {u : HO} (f : Ω.F a) (h : Rd H a u) : Rd H' a u := by
  rcases h with h | ⟨o, h⟩
  · exact .inl (e.keep a _ f h)
  · exact .inr ⟨o, e.keep a _ f h⟩
mutual
theorem Rp.monoF (e : LeF Ω H Ω' H') : ∀ {v : V} {d : D}, Rp K Ω H v d → Rp K Ω' H' v d
  | _, _, .non => .non
  | _, _, .bl b => .bl b
  | _, _, .int i => .int i
  | _, _, .str h => .str h
  | _, _, .lst f h r => .lst (e.F _ f) (e.keep _ _ f h) (RpA.monoF e r)
  | _, _, .tup h r => .tup (e.sqT h) (RpA.monoF e r)
  | _, _, .dic f h k r => .dic (e.F _ f) (e.rd f h) k (RpA.monoF e r)
  | _, _, .cup h => .cup (e.cup.trans h)
theorem RpA.monoF (e : LeF Ω H Ω' H') : ∀ {v : List V} {d : List D}, RpA K Ω H v d → RpA K Ω' H' v d
  | _, _, .nil => .nil
  | _, _, .cons h r => .cons (Rp.monoF e h) (RpA.monoF e r)
end
end

/-! ### slots -/
def Sl.isOwn : Sl → Bool
  | .val _ => false
  | _ => true
def SlR (K : PySem.W.Frag) (H0 : Hp) (Ω : Wd) (H : Hp) (v : V) : Sl → Prop
  | .val d => Rp K Ω H v d
  | .own xs => ∃ a vs, v = .ref a ∧ Ω.cup ≠ some a ∧ ¬ Ω.F a ∧ H0 a = none ∧ H a = some (.lst vs) ∧ RpA K Ω H vs xs
  | .owd ks vs => ∃ a kvs, v = .ref a ∧ Ω.cup ≠ some a ∧ ¬ Ω.F a ∧ H0 a = none ∧ H a = some (.dK kvs) ∧ (∀ p ∈ kvs, okK p.1) ∧ ks = (kvs.map fun p => keyD p.1) ∧ RpA K Ω H (kvs.map (·.2)) vs
structure Rel (K : PySem.W.Frag) (H0 : Hp) (Ω : Wd) (ρ : Env) (σ : L2.St) (H : Hp) : Prop where
  len : σ.length = ρ.length
  at_ : ∀ (i : Nat) sl, ρ[i]? = some (some sl) → ∃ v, σ[i]? = some (some v) ∧ SlR K H0 Ω H v sl
  sep : ∀ (i j : Nat) si sj v, i ≠ j → ρ[i]? = some (some si) → ρ[j]? = some (some sj) → si.isOwn = true → sj.isOwn = true → σ[i]? = some (some v) → σ[j]? ≠ some (some v)
section
variable {K : PySem.W.Frag} {H0 : Hp} {Ω Ω' : Wd} {H H' : Hp} {ρ : Env} {σ : L2.St}
theorem SlR.mono (e : Le Ω H Ω' H') {v : V} : ∀ {sl : Sl}, SlR K H0 Ω H v sl → SlR K H0 Ω' H' v sl
  | .val _, h => Rp.mono e h
  | .own _, ⟨a, vs, h1, h2, h3, h4, h5, h6⟩ => ⟨a, vs, h1, by rw [e.cup]; exact h2, fun q => (e.new a q).elim h3 fun z => (by rw [h5] at z; cases z), h4, e.keep a _ h5 fun q => absurd q h2, h6.mono e⟩
  | .owd _ _, ⟨a, vs, h1, h2, h3, h4, h5, h6, h7, h8⟩ => ⟨a, vs, h1, by rw [e.cup]; exact h2, fun q => (e.new a q).elim h3 fun z => (by rw [h5] at z; cases z), h4, e.keep a _ h5 fun q => absurd q h2, h6, h7, h8.mono e⟩
theorem Rel.mono (r : Rel K H0 Ω ρ σ H) (e : Le Ω H Ω' H') : Rel K H0 Ω' ρ σ H' :=
  ⟨r.len, fun i sl h => by
    obtain ⟨v, h1, h2⟩ := r.at_ i sl h
    exact ⟨v, h1, h2.mono e⟩, r.sep⟩
theorem get_set {α : Type} {l : List α} {i j : Nat} {x y : α} (h : (l.set i x)[j]? = some y) : (i = j ∧ y = x) ∨ (i ≠ j ∧ l[j]? = some y) := by
  by_cases e : i = j
  · subst e
    left
    by_cases hl : i < l.length
    · rw [List.getElem?_set_self hl] at h
      exact ⟨rfl, (Option.some.inj h).symm⟩
    · rw [List.getElem?_eq_none (by simpa using hl)] at h; cases h
  · rw [List.getElem?_set_ne e] at h
    exact .inr ⟨e, h⟩
theorem set_get {α : Type} {l : List α} {i j : Nat} {x y : α} {m : List α} (hl : l.length = m.length) (h : (m.set i y)[i]? = some y ∨ True) (hi : i < m.length) : (l.set i x)[i]? = some x := by
  rw [List.getElem?_set_self (by omega)]
/-- a slot is stored -/
theorem Rel.set (r : Rel K H0 Ω ρ σ H) {i : Nat} {v : V} {d : D} (h : Rp K Ω H v d) : Rel K H0 Ω (ρ.set i (some (.val d))) (σ.set i (some v)) H := by
  refine ⟨by simp [r.len], fun j sl hj => ?_, fun j l sj sl w hjl h1 h2 o1 o2 h3 h4 => ?_⟩
  · rcases get_set hj with ⟨rfl, e⟩ | ⟨ne, hj⟩
    · cases e
      have hl : i < σ.length := by
        rw [r.len]
        have := (List.getElem?_eq_some_iff.mp hj).1
        simpa using this
      exact ⟨v, by rw [List.getElem?_set_self hl], h⟩
    · obtain ⟨w, h1, h2⟩ := r.at_ j sl hj
      exact ⟨w, by rw [List.getElem?_set_ne ne]; exact h1, h2⟩
  · rcases get_set h1 with ⟨rfl, e⟩ | ⟨n1, h1⟩
    · cases e; cases o1
    · rcases get_set h2 with ⟨rfl, e⟩ | ⟨n2, h2⟩
      · cases e; cases o2
      · rw [List.getElem?_set_ne n1] at h3
        rw [List.getElem?_set_ne n2] at h4
        exact r.sep j l sj sl w hjl h1 h2 o1 o2 h3 h4
/-- a slot is forgotten -/
theorem Rel.unset (r : Rel K H0 Ω ρ σ H) {i : Nat} : Rel K H0 Ω (ρ.set i none) (σ.set i none) H := by
  refine ⟨by simp [r.len], fun j sl hj => ?_, fun j l sj sl w hjl h1 h2 o1 o2 h3 h4 => ?_⟩
  · rcases get_set hj with ⟨rfl, e⟩ | ⟨ne, hj⟩
    · cases e
    · obtain ⟨w, h1, h2⟩ := r.at_ j sl hj
      exact ⟨w, by rw [List.getElem?_set_ne ne]; exact h1, h2⟩
  · rcases get_set h1 with ⟨rfl, e⟩ | ⟨n1, h1⟩
    · cases e
    · rcases get_set h2 with ⟨rfl, e⟩ | ⟨n2, h2⟩
      · cases e
      · rw [List.getElem?_set_ne n1] at h3
        rw [List.getElem?_set_ne n2] at h4
        exact r.sep j l sj sl w hjl h1 h2 o1 o2 h3 h4
theorem Rel.wipe (r : Rel K H0 Ω ρ σ H) : ∀ vs : List Nat, Rel K H0 Ω (wipeE ρ vs) (L2.wipe σ vs) H
  | [] => r
  | v :: vs => (Rel.wipe r vs).unset
theorem wipeE_len (ρ : Env) : ∀ vs : List Nat, (wipeE ρ vs).length = ρ.length
  | [] => rfl
  | v :: vs => by unfold wipeE; rw [List.length_set, wipeE_len ρ vs]
/-- an own list's address and another own slot's differ -/
theorem SlR.ref {v : V} {sl : Sl} (h : SlR K H0 Ω H v sl) (o : sl.isOwn = true) : ∃ a ob, v = .ref a ∧ ¬ Ω.F a ∧ H a = some ob := by
  cases sl with
  | val d => cases o
  | own xs =>
    obtain ⟨a, vs, h1, h2, h3, h4, h5, h6⟩ := h
    exact ⟨a, _, h1, h3, h5⟩
  | owd ks vs =>
    obtain ⟨a, vs, h1, h2, h3, h4, h5, h6⟩ := h
    exact ⟨a, _, h1, h3, h5⟩
/-- a new own list is stored -/
theorem Rel.setOwn (r : Rel K H0 Ω ρ σ H) {i : Nat} {v : V} {sl : Sl} (h : SlR K H0 Ω H v sl) (o : sl.isOwn = true) (hn : ∀ (j : Nat) sj, ρ[j]? = some (some sj) → sj.isOwn = true → σ[j]? ≠ some (some v)) :
    Rel K H0 Ω (ρ.set i (some sl)) (σ.set i (some v)) H := by
  refine ⟨by simp [r.len], fun j sl' hj => ?_, fun j l sj sl' w hjl h1 h2 o1 o2 h3 h4 => ?_⟩
  · rcases get_set hj with ⟨rfl, e⟩ | ⟨ne, hj⟩
    · cases e
      have hl : i < σ.length := by
        rw [r.len]
        have := (List.getElem?_eq_some_iff.mp hj).1
        simpa using this
      exact ⟨v, by rw [List.getElem?_set_self hl], h⟩
    · obtain ⟨w, h1, h2⟩ := r.at_ j sl' hj
      exact ⟨w, by rw [List.getElem?_set_ne ne]; exact h1, h2⟩
  · rcases get_set h1 with ⟨rfl, e⟩ | ⟨n1, h1⟩
    · rcases get_set h3 with ⟨_, e3⟩ | ⟨z, _⟩
      · cases e3
        rcases get_set h2 with ⟨rfl, _⟩ | ⟨n2, h2⟩
        · exact hjl rfl
        · rw [List.getElem?_set_ne n2] at h4
          exact hn l sl' h2 o2 h4
      · exact z rfl
    · rw [List.getElem?_set_ne n1] at h3
      rcases get_set h2 with ⟨rfl, e⟩ | ⟨n2, h2⟩
      · rcases get_set h4 with ⟨_, e4⟩ | ⟨z, _⟩
        · cases e4
          exact hn j sj h1 o1 h3
        · exact z rfl
      · rw [List.getElem?_set_ne n2] at h4
        exact r.sep j l sj sl' w hjl h1 h2 o1 o2 h3 h4
end

/-! ### readings -/
/-- an error as it is wished for -/
def ErW (cl : Nat → Value) (e : Er) (E : XK) (H : Hp) : Prop := match e.fs with
  | [] => E (cl e.cls) none H
  | _ => False
structure Vw where
  K : PySem.W.Frag
  cl : Nat → Value
  H0 : Hp
def RpF (sh : Bool) (K : PySem.W.Frag) (Ω : Wd) (H : Hp) (v : V) (d : D) : Prop := if sh then Sh K Ω H v d else Rp K Ω H v d
theorem Rp.f {K : PySem.W.Frag} {Ω : Wd} {H : Hp} {v : V} {d : D} (r : Rp K Ω H v d) (sh : Bool) : RpF sh K Ω H v d := by
  cases sh
  · exact r
  · exact r.sh
/-- behind an expression -/
abbrev kE (W : Vw) (sh : Bool) (Q : VK) : D → S → Wd → Hp → Prop := fun d _ Ω' H' => ∀ v, RpF sh W.K Ω' H' v d → Q v H'
abbrev kR (W : Vw) (E : XK) : Er → S → Wd → Hp → Prop := fun e _ _ H' => ErW W.cl e E H'
def rE (W : Vw) (E : XK) (sh : Bool) (m : Env → M D) : TE := fun σ H Q => ∃ Ω ρ s, Rel W.K W.H0 Ω ρ σ H ∧ SRel Ω s H ∧ Po (m ρ s) Ω H (kE W sh Q) (kR W E)
def rT (W : Vw) (E : XK) (m : Env → M D) : TT := fun σ H Q => ∃ Ω ρ s, Rel W.K W.H0 Ω ρ σ H ∧ SRel Ω s H ∧ Po (m ρ s) Ω H (fun d _ _ H' => ∃ b, d = .bl b ∧ Q b H') (kR W E)
def rA (W : Vw) (E : XK) (sh : Bool) (m : Env → M (List D)) : TA := fun σ H Q => ∃ Ω ρ s, Rel W.K W.H0 Ω ρ σ H ∧ SRel Ω s H ∧
  Po (m ρ s) Ω H (fun ds _ Ω' H' => ∀ vs, (if sh then ShA W.K Ω' H' vs ds else RpA W.K Ω' H' vs ds) → Q vs H') (kR W E)
/-- a new list -/
def FrK (W : Vw) (H : Hp) (Q : VK) : D → S → Wd → Hp → Prop := fun d _ Ω' H' => ∀ p vs ds, d = .lst ds → ¬ Ω'.F p → Ω'.cup ≠ some p → H p = none → H' p = some (.lst vs) → RpA W.K Ω' H' vs ds → Q (.ref p) H'
def rF (W : Vw) (E : XK) (m : Env → M D) : TE := fun σ H Q => ∃ Ω ρ s, Rel W.K W.H0 Ω ρ σ H ∧ SRel Ω s H ∧ Po (m ρ s) Ω H (FrK W H Q) (kR W E)
theorem PE_imp {X : Cx} {e : Expr} {t t' : TE} (h : PE X e t) (i : ∀ σ H Q, t' σ H Q → t σ H Q) : PE X e t' := ⟨fun pins s σ H Q I q => h.run pins s σ H Q I (i σ H Q q)⟩
theorem PT_imp {X : Cx} {e : Expr} {t t' : TT} (h : PT X e t) (i : ∀ σ H Q, t' σ H Q → t σ H Q) : PT X e t' := ⟨fun pins s σ H Q I q => h.run pins s σ H Q I (i σ H Q q)⟩
theorem PA_imp {X : Cx} {e : List Expr} {t t' : TA} (h : PA X e t) (i : ∀ σ H Q, t' σ H Q → t σ H Q) : PA X e t' := ⟨fun pos pins s σ H Q I q => h.run pos pins s σ H Q I (i σ H Q q)⟩
theorem PS_imp {X : Cx} {e : Stmt} {t t' : TS} (h : PS X e t) (i : ∀ D σ H, t' D σ H → t D σ H) : PS X e t' := ⟨fun pins s σ H D I q => h.run pins s σ H D I (i D σ H q)⟩
theorem PSs_imp {X : Cx} {e : List Stmt} {t t' : TS} (h : PSs X e t) (i : ∀ D σ H, t' D σ H → t D σ H) : PSs X e t' := ⟨fun pins s σ H D I q => h.run pins s σ H D I (i D σ H q)⟩
theorem PW_imp {X : Cx} {e : Expr} {t t' : TT} (h : PW X e t) (i : ∀ σ H Q, t' σ H Q → t σ H Q) : PW X e t' := ⟨fun wh pins s σ H Q I q => h.run wh pins s σ H Q I (i σ H Q q)⟩
theorem PI_imp {X : Cx} {tg e : Expr} {t t' : TI} (h : PI X tg e t) (i : ∀ σ H Q, t' σ H Q → t σ H Q) : PI X tg e t' := ⟨fun pins s σ H Q I q => h.run pins s σ H Q I (i σ H Q q)⟩
section
variable {W : Vw} {E : XK} {Ω : Wd} {ρ : Env} {σ : L2.St} {H : Hp} {s : S}
/-- a part's reading -/
theorem rE_of {sh : Bool} {m : Env → M D} {Q : VK} {k : D → S → Wd → Hp → Prop} (rel : Rel W.K W.H0 Ω ρ σ H) (sr : SRel Ω s H) (h : Po (m ρ s) Ω H k (kR W E))
    (hq : ∀ d s1 Ω1 H1 v, Rel W.K W.H0 Ω1 ρ σ H1 → Le Ω H Ω1 H1 → SRel Ω1 s1 H1 → RpF sh W.K Ω1 H1 v d → k d s1 Ω1 H1 → Q v H1) : rE W E sh m σ H Q :=
  ⟨Ω, ρ, s, rel, sr, h.mono (fun d s1 Ω1 H1 l r q v rv => hq d s1 Ω1 H1 v (rel.mono l) l r rv q) fun _ _ _ _ _ _ z => z⟩
theorem rT_of {m : Env → M D} {Q : Bool → Hp → Prop} {k : D → S → Wd → Hp → Prop} (rel : Rel W.K W.H0 Ω ρ σ H) (sr : SRel Ω s H) (h : Po (m ρ s) Ω H k (kR W E))
    (hq : ∀ d s1 Ω1 H1, Rel W.K W.H0 Ω1 ρ σ H1 → Le Ω H Ω1 H1 → SRel Ω1 s1 H1 → k d s1 Ω1 H1 → ∃ b, d = .bl b ∧ Q b H1) : rT W E m σ H Q :=
  ⟨Ω, ρ, s, rel, sr, h.mono (fun d s1 Ω1 H1 l r q => hq d s1 Ω1 H1 (rel.mono l) l r q) fun _ _ _ _ _ _ z => z⟩
theorem rA_of {sh : Bool} {m : Env → M (List D)} {Q : List V → Hp → Prop} {k : List D → S → Wd → Hp → Prop} (rel : Rel W.K W.H0 Ω ρ σ H) (sr : SRel Ω s H) (h : Po (m ρ s) Ω H k (kR W E))
    (hq : ∀ ds s1 Ω1 H1 vs, Rel W.K W.H0 Ω1 ρ σ H1 → Le Ω H Ω1 H1 → SRel Ω1 s1 H1 → (if sh then ShA W.K Ω1 H1 vs ds else RpA W.K Ω1 H1 vs ds) → k ds s1 Ω1 H1 → Q vs H1) : rA W E sh m σ H Q :=
  ⟨Ω, ρ, s, rel, sr, h.mono (fun d s1 Ω1 H1 l r q v rv => hq d s1 Ω1 H1 v (rel.mono l) l r rv q) fun _ _ _ _ _ _ z => z⟩
/-- a whole list, new: also as data -/
theorem rE_fr {X : Cx} {sh : Bool} {e : Expr} {m : Env → M D} (h : PE X e (rF W E m)) (hl : ∀ ρ s d s', m ρ s = .ok d s' → ∃ ds, d = .lst ds) : PE X e (rE W E sh m) := by
  refine PE_imp h fun σ H Q ⟨Ω, ρ, s, rel, sr, q⟩ => ⟨Ω, ρ, s, rel, sr, ?_⟩
  cases e : m ρ s with
  | no => rw [e] at q; exact q
  | er q' s' => rw [e] at q; exact q
  | ok d s' =>
    rw [e] at q
    intro Ω1 H1 l r p vs ds ed nf nc hp hp1 ra
    subst ed
    have l2 : Le Ω H (Ω1.add p nc) H1 := ⟨fun a f => .inl (l.F a f), fun a f => by
      rcases f with f | f
      · exact l.new a f
      · right; rw [f]; exact hp, l.cup, l.keep, l.there⟩
    have l3 : LeF Ω1 H1 (Ω1.add p nc) H1 := ⟨fun a f => .inl f, rfl, fun _ _ _ h => h, fun _ _ h => h⟩
    exact q _ _ l2 (r.of rfl (fun _ _ _ h => h) fun a f => f.elim (r.st a) fun z => by rw [z]; exact ⟨_, hp1⟩) _ ((Rp.lst (show (Ω1.add p nc).F p from Or.inr rfl) hp1 (ra.monoF l3)).f sh)
end

/-! ### walks -/
/-- an iterator gives the data xs, as long as what R keeps stands -/
structure WkD (W : Vw) (R : Wd → Hp → Wd → Hp → Prop) (Ω : Wd) (H : Hp) (J : It) (xs : List D) : Prop where
  sz : xs.length ≤ sizeLine
  ex : ∃ (G : Hp → Prop) (Y : Nat → Hp → V → Hp → Prop), Walk J xs.length G Y ∧ (∀ Ω' H', R Ω H Ω' H' → G H') ∧
    ∀ i Ωi Hi x H' s, i < xs.length → R Ω H Ωi Hi → SRel Ωi s Hi → Y i Hi x H' → ∃ Ω' d, Le Ωi Hi Ω' H' ∧ SRel Ω' s H' ∧ xs[i]? = some d ∧ Rp W.K Ω' H' x d
def rI (W : Vw) (E : XK) (R : Wd → Hp → Wd → Hp → Prop) (m : Env → M (List D)) : TI := fun σ H Q => ∃ Ω ρ s, Rel W.K W.H0 Ω ρ σ H ∧ SRel Ω s H ∧ Po (m ρ s) Ω H (fun xs _ Ω' H' => ∀ J, WkD W R Ω' H' J xs → Q J H') (kR W E)
section
variable {W : Vw} {Ω : Wd} {H : Hp}
theorem WkD.imp {R R' : Wd → Hp → Wd → Hp → Prop} {J : It} {xs : List D} (h : WkD W R Ω H J xs) (i : ∀ Ω H Ω' H', R' Ω H Ω' H' → R Ω H Ω' H') : WkD W R' Ω H J xs := by
  obtain ⟨sz, G, Y, w, g, y⟩ := h
  exact ⟨sz, G, Y, w, fun Ω' H' r => g Ω' H' (i _ _ _ _ r), fun i' Ωi Hi x H' s hi r => y i' Ωi Hi x H' s hi (i _ _ _ _ r)⟩
theorem wk_list {a : Addr} {vs : List V} {ds : List D} (hz : vs.length ≤ sizeLine) (f : Ω.F a) (h : H a = some (.lst vs)) (r : RpA W.K Ω H vs ds) : WkD W LeF Ω H (Itl W.K a) ds := by
  have e := r.length
  refine ⟨by omega, fun H' => SqL W.K H' a vs, YAt vs, ?_, fun Ω' H' l => SqL.of (l.keep a _ f h), fun i Ωi Hi x H' s hi l sr y => ?_⟩
  · rw [← e]; exact walk_list
  · obtain ⟨rfl, y⟩ := y
    obtain ⟨d, h1, h2⟩ := r.get' y
    exact ⟨Ωi, d, Le.refl _ _, sr, h1, h2.monoF l⟩
theorem wk_own {a : Addr} {vs : List V} {ds : List D} (hz : vs.length ≤ sizeLine) (f : Ω.cup ≠ some a) (h : H a = some (.lst vs)) (r : RpA W.K Ω H vs ds) : WkD W Le Ω H (Itl W.K a) ds := by
  have e := r.length
  refine ⟨by omega, fun H' => SqL W.K H' a vs, YAt vs, ?_, fun Ω' H' l => SqL.of (l.keep a _ h fun q => absurd q f), fun i Ωi Hi x H' s hi l sr y => ?_⟩
  · rw [← e]; exact walk_list
  · obtain ⟨rfl, y⟩ := y
    obtain ⟨d, h1, h2⟩ := r.get' y
    exact ⟨Ωi, d, Le.refl _ _, sr, h1, h2.mono l⟩
theorem wk_tup {a : Addr} {vs : List V} {ds : List D} (hz : vs.length ≤ sizeLine) (h : SqT W.K H a vs) (r : RpA W.K Ω H vs ds) : WkD W LeF Ω H (Itt W.K a) ds := by
  have e := r.length
  refine ⟨by omega, fun H' => SqT W.K H' a vs, YAt vs, ?_, fun Ω' H' l => l.sqT h, fun i Ωi Hi x H' s hi l sr y => ?_⟩
  · rw [← e]; exact walk_tup
  · obtain ⟨rfl, y⟩ := y
    obtain ⟨d, h1, h2⟩ := r.get' y
    exact ⟨Ωi, d, Le.refl _ _, sr, h1, h2.monoF l⟩
theorem wk_str {l : List Nat} (ok : okS l) : WkD W LeF Ω H (Its (sS l)) (l.map fun c => D.str [c]) := by
  refine ⟨by rw [List.length_map]; exact ok.1, fun _ => True, fun i H' v H'' => H'' = H' ∧ ∃ c, (sS l).cps[i]? = some c ∧ v = .str ⟨#[c]⟩, ?_, fun _ _ _ => trivial, fun i Ωi Hi x H' s hi _ sr y => ?_⟩
  · have e : (l.map fun c => D.str [c]).length = (sS l).cps.size := by simp [sS]
    rw [e]; exact walk_str
  · obtain ⟨rfl, c, h1, rfl⟩ := y
    have h2 : l[i]? = some c := by
      have := h1
      simpa [sS] using this
    refine ⟨Ωi, .str [c], Le.refl _ _, sr, by rw [List.getElem?_map, h2]; rfl, ?_⟩
    exact Rp.str (l := [c]) (okS_one ok (List.mem_of_getElem? h2))
theorem wk_range {lo : Int} {n : Nat} (hn : n ≤ BIG) : WkD W LeF Ω H (Itr lo n) (rangeD lo n) := by
  have e : (rangeD lo n).length = n := by simp [rangeD]
  refine ⟨by rw [e]; exact Nat.le_trans hn (Nat.le_of_lt big_line), fun _ => True, YFn fun i => .int (lo + i), ?_, fun _ _ _ => trivial, fun i Ωi Hi x H' s hi _ sr y => ?_⟩
  · rw [e]; exact walk_range
  · obtain ⟨rfl, rfl⟩ := y
    rw [e] at hi
    exact ⟨Ωi, .int (lo + i), Le.refl _ _, sr, by simp [rangeD, hi], .int _⟩
end
end PL
end

section
set_option Elab.async false
set_option linter.all false
set_option maxRecDepth 100000
set_option maxHeartbeats 4000000
/-! PL6: which expression of the language is which of Python's (a check). -/
namespace PL
open PySem PySem.Spec PyProof.Rows L2

/-- the names of functions and constants -/
structure Nm where
  isF : Nat → Bool
  fn : Nat → Str
  cs : Nat → Str
def dunder (x : Str) : Bool := x == "__debug__" || x == "__classdict__" || x == "__name__"
def visB (sc : Scope) (x : Str) : Bool := match sc.names.lookup x with
  | some .local => true
  | some .cell => true
  | some .free => true
  | _ => false
def glB (sc : Scope) (x : Str) : Bool := !dunder x && (match sc.names.lookup x with
  | some .globalImplicit => true
  | _ => false)
def slB (N : List Str) (sc : Scope) (i : Nat) (x : Str) : Bool := decide (N[i]? = some x) && visB sc x && !dunder x
def okSB (l : List Nat) : Bool := decide (l.length ≤ 100000) && l.all fun c => decide (c < 1114112)
/-- a name that may be stored: cl, the cells of one's own -/
def stB (N : List Str) (sc : Scope) (cl : Str → Bool) (i : Nat) (x : Str) : Bool := decide (N[i]? = some x) && (match sc.names.lookup x with
  | some .local => true
  | some .cell => cl x
  | _ => false)
def stsB (N : List Str) (sc : Scope) (cl : Str → Bool) : List Nat → List Expr → Bool
  | [], [] => true
  | i :: is, .Name x _ :: es => stB N sc cl i x && stsB N sc cl is es
  | _, _ => false
def tgB (N : List Str) (sc : Scope) (cl : Str → Bool) : Tg → Expr → Bool
  | .nm i, .Name x _ => stB N sc cl i x
  | .tp is, .Tuple es _ _ => stsB N sc cl is es
  | _, _ => false
def tgs : Tg → List Nat
  | .nm i => [i]
  | .tp is => is
def isTupE : Expr → Bool
  | .Tuple _ _ _ => true
  | _ => false
def pairs (N : List Str) (is : List Nat) : List (Str × Nat) := is.map fun i => ((N[i]?).getD ⟨#[]⟩, i)
def bfN : Bf → Str
  | .len => "len"
  | .abs => "abs"
  | .int => "int"
  | .str => "str"
  | .tuple => "tuple"
  | .list => "list"
  | .sum => "sum"
  | .max => "max"
  | .min => "min"
  | .max2 => "max"
  | .min2 => "min"
  | .all => "all"
  | .any => "any"
  | .sorted => "sorted"
  | .sortedSet => "sorted"
  | .lenSet => "len"
def bfOn : Bf → Bool
  | .sortedSet => false
  | .lenSet => false
  | _ => true
def bNames : List Str := ["len", "abs", "int", "str", "tuple", "list", "sum", "max", "min", "all", "any", "sorted", "isinstance", "range", "zip", "enumerate", "set", "bool"]
def tyN : Nat → Option String
  | 0 => some "int"
  | 1 => some "bool"
  | 2 => some "str"
  | 3 => some "tuple"
  | 4 => some "list"
  | _ => none
def slotOf (is : List Nat) (own : List Nat) : Bool := is.all fun i => decide (i ∈ own)

def mN : Mf → Str
  | .join => "join"
  | .count => "count"
  | .upper => "upper"
def mOn : Mf → Bool
  | .upper => false
  | _ => true
/-- a receiver that is no super() -/
def recB : Expr → Bool
  | .Name _ _ => true
  | .Constant _ _ _ => true
  | _ => false
mutual
def chkE (N : List Str) (nm : Nm) (sc : Scope) (sh : Bool) : E → Expr → Bool
  | .non, x => match x with
    | .Constant .none _ _ => true
    | _ => false
  | .bl b, x => match x with
    | .Constant (.bool c) _ _ => b == c
    | _ => false
  | .int i, x => match x with
    | .Constant (.int c) _ _ => decide (i = c)
    | _ => false
  | .str l, x => match x with
    | .Constant (.str c) _ _ => decide (c.cps.toList = l) && okSB l
    | _ => false
  | .var i, x => match x with
    | .Name y _ => slB N sc i y
    | _ => false
  | .own i, x => match x with
    | .Name y _ => sh && slB N sc i y
    | _ => false
  | .glo n, x => match x with
    | .Name y _ => decide (y = nm.cs n) && glB sc y
    | _ => false
  | .tup es, x => match x with
    | .Tuple xs _ _ => chkEs N nm sc false es xs && decide (xs.length ≤ 1000)
    | _ => false
  | .lst es, x => match x with
    | .List xs _ => chkEs N nm sc false es xs && decide (xs.length ≤ 1000)
    | _ => false
  | .bin o a b, x => match x with
    | .BinOp l op r _ => decide (op = opB o) && chkE N nm sc true a l && chkE N nm sc true b r
    | _ => false
  | .neg a, x => match x with
    | .UnaryOp .USub l _ => chkE N nm sc false a l
    | _ => false
  | .not a, x => match x with
    | .UnaryOp .Not l _ => chkE N nm sc false a l
    | _ => false
  | .and es, x => match x with
    | .BoolOp .And xs _ => chkEs N nm sc false es xs
    | _ => false
  | .or es, x => match x with
    | .BoolOp .Or xs _ => chkEs N nm sc false es xs
    | _ => false
  | .ite c a b, x => match x with
    | .IfExp u v w _ => chkE N nm sc false c u && chkE N nm sc false a v && chkE N nm sc false b w
    | _ => false
  | .cmp o a b, x => match x with
    | .Compare l [op] [r] _ => decide (op = opC o) && chkE N nm sc true a l && chkE N nm sc true b r
    | _ => false
  | .chn o p a b c, x => match x with
    | .Compare l [op, oq] [r, t] _ => decide (op = opC o) && decide (oq = opC p) && chkE N nm sc true a l && chkE N nm sc true b r && chkE N nm sc true c t
    | _ => false
  | .idx a i, x => match x with
    | .Subscript l r _ => chkE N nm sc true a l && chkE N nm sc true i r
    | _ => false
  | .slc a lo hi, x => match x with
    | .Subscript l (.Slice u v none _) _ => chkE N nm sc true a l && chkO N nm sc lo u && chkO N nm sc hi v
    | _ => false
  | .rev a, x => false
  | .isi t a, x => match x with
    | .Call (.Name f _) [l, .Name y _] [] _ => decide (f = "isinstance") && glB sc f && glB sc y && decide (y ∈ bNames) && decide ((tyN t).map (fun (z : String) => (z : Str)) = some y) && chkE N nm sc true a l
    | _ => false
  | .bif b es, x => match x with
    | .Call (.Name f _) (a :: as) [] _ => bfOn b && decide (f = bfN b) && glB sc f && chkEs N nm sc true es (a :: as)
    | _ => false
  | .call n es, x => match x with
    | .Call (.Name f _) as [] _ => nm.isF n && decide (f = nm.fn n) && glB sc f && chkEs N nm sc false es as
    | _ => false
  | .met m o es, x => match x with
    | .Call (.Attribute l f apos) (a :: as) [] cpos => mOn m && decide (f = mN m) && recB l && (apos.endLine == cpos.line) && decide (as.length < 20) && chkE N nm sc true o l && chkEs N nm sc true es (a :: as)
    | _ => false
  | .lc elt tg it c own, x => match x with
    | .ListComp xe [⟨xt, xi, xc, 0⟩] scope _ => blkC N sc scope (pairs N own) && chkI N nm sc true (isTupE xt) it xi && tgB N (relS scope sc) (fun y => scope.names.lookup y == some .cell) tg xt && slotOf (tgs tg) own
      && chkC N nm (relS scope sc) c xc && chkE N nm (relS scope sc) false elt xe
    | _ => false
  | .lc2 elt tg it c tg1 it1 c1 own own1, x => match x with
    | .ListComp xe [⟨xt, xi, xc, 0⟩, ⟨xt1, xi1, xc1, 0⟩] scope _ => blkC N sc scope (pairs N own) && chkI N nm sc true (isTupE xt) it xi && tgB N (relS scope sc) (fun y => scope.names.lookup y == some .cell) tg xt && slotOf (tgs tg) own
      && slotOf own1 own && tgB N (relS scope sc) (fun y => scope.names.lookup y == some .cell) tg1 xt1 && slotOf (tgs tg1) own1 && chkI N nm (relS scope sc) false (isTupE xt1) it1 xi1
      && chkC N nm (relS scope sc) c xc && chkC N nm (relS scope sc) c1 xc1 && chkE N nm (relS scope sc) false elt xe
    | _ => false
def chkO (N : List Str) (nm : Nm) (sc : Scope) : OE → Option Expr → Bool
  | .no, x => match x with
    | none => true
    | _ => false
  | .so e, x => match x with
    | some y => chkE N nm sc false e y
    | _ => false
def chkC (N : List Str) (nm : Nm) (sc : Scope) : OE → List Expr → Bool
  | .no, x => match x with
    | [] => true
    | _ => false
  | .so e, x => match x with
    | [y] => chkE N nm sc false e y
    | _ => false
def chkI (N : List Str) (nm : Nm) (sc : Scope) (sh tp : Bool) : I → Expr → Bool
  | .e a, x => chkE N nm sc sh a x
  | .r1 a, x => match x with
    | .Call (.Name f _) [l] [] _ => decide (f = "range") && glB sc f && chkE N nm sc false a l
    | _ => false
  | .r2 a b, x => match x with
    | .Call (.Name f _) [l, r] [] _ => decide (f = "range") && glB sc f && chkE N nm sc false a l && chkE N nm sc false b r
    | _ => false
  | .zp a b, x => match x with
    | .Call (.Name f _) [l, r] [] _ => tp && decide (f = "zip") && glB sc f && chkE N nm sc sh a l && chkE N nm sc sh b r
    | _ => false
  | .en a, x => match x with
    | .Call (.Name f _) [l] [] _ => tp && decide (f = "enumerate") && glB sc f && chkE N nm sc sh a l
    | _ => false
def chkEs (N : List Str) (nm : Nm) (sc : Scope) (sh : Bool) : Es → List Expr → Bool
  | .nil, x => match x with
    | [] => true
    | _ => false
  | .cons e es, x => match x with
    | y :: ys => chkE N nm sc sh e y && chkEs N nm sc sh es ys
    | _ => false
end

/-! ### shapes -/
def okX : Expr → Bool
  | .Starred _ _ => false
  | .Set _ _ _ => false
  | .Slice _ _ _ _ => false
  | _ => true
def plT : Expr → Bool
  | .BoolOp _ _ _ => false
  | .UnaryOp .Not _ _ => false
  | .IfExp _ _ _ _ => false
  | .Compare _ _ _ _ => false
  | _ => true
theorem okX_of {N : List Str} {nm : Nm} {sc : Scope} {sh : Bool} {e : E} {x : Expr} (h : chkE N nm sc sh e x = true) : okX x = true := by
  cases x <;> first | rfl | (cases e <;> first | (simp [chkE] at h; done) | (unfold chkE at h; simp at h; done))
def spT : E → Bool
  | .and _ => true
  | .or _ => true
  | .not _ => true
  | .ite _ _ _ => true
  | .cmp _ _ _ => true
  | .chn _ _ _ _ _ => true
  | _ => false
theorem plT_of {N : List Str} {nm : Nm} {sc : Scope} {sh : Bool} {e : E} {x : Expr} (h : chkE N nm sc sh e x = true) (hs : spT e = false) : plT x = true := by
  cases x with
  | UnaryOp op l p => cases op <;> first | rfl | (cases e <;> first | (cases hs; done) | (simp [chkE] at h; done))
  | _ => first | rfl | (cases e <;> first | (cases hs; done) | (simp [chkE] at h; done))
theorem star_of {x : Expr} (h : okX x = true) (es : List Expr) (env : PySem.Env) : starEach (x :: es) env = (false, eval x env) :: starEach es env := by
  cases x <;> first | rfl | cases h
theorem fold_of {x : Expr} (h : okX x = true) (env : PySem.Env) (v : Value) : foldedSetIterable x env v = pure v := by
  cases x <;> first | rfl | cases h
theorem beh_of {x : Expr} (h : okX x = true) (op : CmpOp) : behindInMarks op x = false := by
  cases x <;> first | rfl | cases h
theorem ix_of {x : Expr} (h : okX x = true) : PlainIx x := by
  cases x <;> first | (intro o i; rfl) | cases h
theorem true_of {x : Expr} (h : plT x = true) (env : PySem.Env) (whole : Sem Value) : isTrue x env whole = (do let v ← whole; standAt x.pos; holding [v] (truthy v)) := by
  cases x with
  | UnaryOp op l p => cases op <;> first | rfl | cases h
  | _ => first | rfl | cases h
theorem chkEs_ok {N : List Str} {nm : Nm} {sc : Scope} {sh : Bool} : ∀ {es : Es} {xs : List Expr}, chkEs N nm sc sh es xs = true → ∀ x ∈ xs, okX x = true
  | .nil, [], _ => fun _ h => nomatch h
  | .nil, _ :: _, h => by simp [chkEs] at h
  | .cons _ _, [], h => by simp [chkEs] at h
  | .cons e es, y :: ys, h => by
    simp only [chkEs, Bool.and_eq_true] at h
    intro x hx
    rcases List.mem_cons.mp hx with z | z
    · rw [z]; exact okX_of h.1
    · exact chkEs_ok h.2 x z
theorem stars_of {pos : Pos} {env : PySem.Env} : ∀ {es : List Expr}, (∀ x ∈ es, okX x = true) → (backTo pos (starEach es env)).any (·.1) = false
  | [], _ => rfl
  | x :: es, h => by
    rw [star_of (h x List.mem_cons_self)]
    show (false || (backTo pos (starEach es env)).any (·.1)) = false
    rw [stars_of fun y hy => h y (List.mem_cons_of_mem _ hy)]; rfl
end PL
end

section
set_option Elab.async false
set_option linter.all false
set_option maxRecDepth 100000
set_option maxHeartbeats 4000000
/-! PL7: the checked expression of Python answers as the language's. -/
namespace PL
open PySem PySem.Spec PyProof.Rows L2

/-! ### the context -/
abbrev vw (X : Cx) (cl : Nat → Value) (H0 : Hp) : Vw := ⟨X.K, cl, H0⟩
/-- a def's promise -/
def spF (K : PySem.W.Frag) (cl : Nat → Value) (n : Nat) (F : List D → M D) : Sp := fun vs H Q Ew => ∃ Ω s ds, ds.length = n ∧ SRel Ω s H ∧ RpA K Ω H vs ds ∧
  Po (F ds s) Ω H (fun d _ Ω' H' => ∀ v, Rp K Ω' H' v d → Q v H') (fun e _ _ H' => ErW cl e Ew H')
structure FnH (P : Program) (w : World) (K : PySem.W.Frag) (mg : Str → Option Value) (base : Heap) (cl : Nat → Value) (k : Nat) (F : List D → M D) (x : Str) : Prop where
  ex : ∃ a fd ps, mg x = some (.ref a) ∧ PySem.W.keepIn K (.ref a) = true ∧ Binds K fd ps [] ∧ FnOk P w K mg base (L2.CX P w) k a fd ps (spF K cl ps.length F) ∧ ∀ ds s, F ds s ≠ .no → ds.length = ps.length
/-- what stands behind every def of the law -/
structure Gk (P : Program) (w : World) (K : PySem.W.Frag) (mg : Str → Option Value) (base : Heap) (cl : Nat → Value) (T : Ct) (nm : Nm) (k : Nat) : Prop where
  bl : ∀ x ∈ bNames, mg x = none
  fn : ∀ n, nm.isF n = true → FnH P w K mg base cl k (T.cf n) (nm.fn n)
  cs : ∀ n d, T.cs n = some d → ∃ v u, mg (nm.cs n) = some u ∧ RelV v u ∧ ∀ Ω H, Rp K Ω H v d
structure XOk (X : Cx) (cl : Nat → Value) (Ew : XK) (T : Ct) (nm : Nm) (k : Nat) : Prop where
  nd : X.N.Nodup
  calm : X.calm = true
  room : Room k X.A
  g : Gk X.prog X.w X.K X.mg X.base cl T nm k
  ps : Passes (L2.CX X.prog X.w) X Ew
theorem XOk.blk {X : Cx} {cl : Nat → Value} {Ew : XK} {T : Ct} {nm : Nm} {k : Nat} (ok : XOk X cl Ew T nm k) (s : Shared) (H : Hp) (scope : Scope) (cenv : PySem.Env) (fp : List Addr) : XOk (X.blk s H scope cenv fp) cl E0 T nm k :=
  ⟨ok.nd, ok.calm, ok.room, ok.g, passL⟩

/-! ### names -/
theorem not_dunder {x : Str} (h : dunder x = false) : (x == ("__debug__" : Str)) = false ∧ (x == ("__classdict__" : Str)) = false ∧ x ≠ "__name__" := by
  unfold dunder at h
  simp only [Bool.or_eq_false_iff] at h
  exact ⟨h.1.1, h.1.2, by simpa using h.2⟩
theorem vis_of {sc : Scope} {x : Str} (h : visB sc x = true) : Vis sc x := by
  unfold visB at h
  split at h
  · rename_i e; exact .inl e
  · rename_i e; exact .inr (.inl e)
  · rename_i e; exact .inr (.inr e)
  · cases h
theorem sl_of {N : List Str} {sc : Scope} {i : Nat} {x : Str} (h : slB N sc i x = true) : N[i]? = some x ∧ Vis sc x ∧ (x == ("__debug__" : Str)) = false ∧ (x == ("__classdict__" : Str)) = false := by
  unfold slB at h
  simp only [Bool.and_eq_true, decide_eq_true_eq, Bool.not_eq_true'] at h
  obtain ⟨a, b, _⟩ := not_dunder h.2
  exact ⟨h.1.1, vis_of h.1.2, a, b⟩
theorem gl_of {X : Cx} {x : Str} (h : glB X.env.scope x = true) : Gl X x ∧ (x == ("__debug__" : Str)) = false ∧ x ≠ "__name__" := by
  unfold glB at h
  simp only [Bool.and_eq_true, Bool.not_eq_true'] at h
  obtain ⟨a, _, c⟩ := not_dunder h.1
  refine ⟨?_, a, c⟩
  have h2 := h.2
  split at h2
  · rename_i e; exact e
  · cases h2
theorem okS_of {l : List Nat} (h : okSB l = true) : okS l := by
  unfold okSB at h
  simp only [Bool.and_eq_true, decide_eq_true_eq, List.all_eq_true] at h
  refine ⟨?_, h.2⟩
  rw [sizeLine_eq]; omega

/-! ### readings -/
section
variable {X : Cx} {W : Vw} {Ew : XK}
theorem rE_up {x : Expr} {m : Env → M D} {sh : Bool} (h : PE X x (rE W Ew false m)) : PE X x (rE W Ew sh m) :=
  PE_imp h fun σ H Q ⟨Ω, ρ, s, rel, sr, po⟩ => ⟨Ω, ρ, s, rel, sr, po.mono (fun d s' Ω' H' _ _ q v r => q v (Rp.f r sh)) fun _ _ _ _ _ _ z => z⟩
theorem Po.with {α : Type} {o : Out α} {Ω : Wd} {H : Hp} {k : α → S → Wd → Hp → Prop} {ke : Er → S → Wd → Hp → Prop} {P : α → S → Prop} (h : Po o Ω H k ke) (hp : ∀ a s, o = .ok a s → P a s) : Po o Ω H (fun a s Ω H => P a s ∧ k a s Ω H) ke := by
  cases o with
  | ok a s => exact fun Ω' H' l r => ⟨hp a s rfl, h Ω' H' l r⟩
  | er e s => exact h
  | no => exact h
/-- an option's part -/
def rO (W : Vw) (Ew : XK) (m : Env → M (Option D)) : TO := fun σ H Q => ∃ Ω ρ s, Rel W.K W.H0 Ω ρ σ H ∧ SRel Ω s H ∧ Po (bnd (m ρ) asIo s) Ω H (fun o _ _ H' => Q o H') (kR W Ew)
def rTs (W : Vw) (Ew : XK) (m : Env → M Bool) : TT := fun σ H Q => ∃ Ω ρ s, Rel W.K W.H0 Ω ρ σ H ∧ SRel Ω s H ∧ Po (m ρ s) Ω H (fun b _ _ H' => Q b H') (kR W Ew)
def RLe (sh : Bool) : Wd → Hp → Wd → Hp → Prop := if sh then Le else LeF
theorem PO_imp {e : Option Expr} {t t' : TO} (h : PO X e t) (i : ∀ σ H Q, t' σ H Q → t σ H Q) : PO X e t' := ⟨fun pins s σ H Q I q => h.run pins s σ H Q I (i σ H Q q)⟩
theorem PTs_imp {e : List Expr} {t t' : TT} (h : PTs X e t) (i : ∀ σ H Q, t' σ H Q → t σ H Q) : PTs X e t' := ⟨fun pins s σ H Q I q => h.run pins s σ H Q I (i σ H Q q)⟩
end

/-- a new list is made -/
def isFr : E → Bool
  | .lst _ => true
  | .lc _ _ _ _ _ => true
  | .lc2 _ _ _ _ _ _ _ _ _ => true
  | _ => false
def isLc : E → Bool
  | .lc _ _ _ _ _ => true
  | .lc2 _ _ _ _ _ _ _ _ _ => true
  | _ => false
structure SoE (e : E) : Prop where
  a : ∀ {X : Cx} {cl : Nat → Value} {H0 : Hp} {Ew : XK} {T : Ct} {nm : Nm} {k : Nat} {sh : Bool} {x : Expr}, XOk X cl Ew T nm k → chkE X.N nm X.env.scope sh e x = true → PE X x (rE (vw X cl H0) Ew sh (evE T e))
  t : ∀ {X : Cx} {cl : Nat → Value} {H0 : Hp} {Ew : XK} {T : Ct} {nm : Nm} {k : Nat} {x : Expr}, XOk X cl Ew T nm k → chkE X.N nm X.env.scope false e x = true → PT X x (rT (vw X cl H0) Ew (evE T e))
  f : isFr e = true → ∀ {X : Cx} {cl : Nat → Value} {H0 : Hp} {Ew : XK} {T : Ct} {nm : Nm} {k : Nat} {x : Expr}, XOk X cl Ew T nm k → chkE X.N nm X.env.scope false e x = true → PE X x (rF (vw X cl H0) Ew (evE T e))
  sw : isLc e = true → ∀ {X : Cx} {cl : Nat → Value} {H0 : Hp} {Ew : XK} {T : Ct} {nm : Nm} {k : Nat} {x : Expr}, XOk X cl Ew T nm k → chkE X.N nm X.env.scope false e x = true → ∀ {i : Nat} {y : Str} {py spos : Pos}, X.N[i]? = some y → X.env.scope.names.lookup y = some .local →
    swapsWith x (some (.Name y py)) spos.line X.env = pure true → PS X (.Assign [.Name y py] x spos) (tAsg (rF (vw X cl H0) Ew (evE T e)) (gName i))
structure SoEs (es : Es) : Prop where
  a : ∀ {X : Cx} {cl : Nat → Value} {H0 : Hp} {Ew : XK} {T : Ct} {nm : Nm} {k : Nat} {sh : Bool} {xs : List Expr}, XOk X cl Ew T nm k → chkEs X.N nm X.env.scope sh es xs = true → PA X xs (rA (vw X cl H0) Ew sh (evEs T es))
  an : ∀ {X : Cx} {cl : Nat → Value} {H0 : Hp} {Ew : XK} {T : Ct} {nm : Nm} {k : Nat} {xs : List Expr} {pos : Pos}, XOk X cl Ew T nm k → chkEs X.N nm X.env.scope false es xs = true →
    PE X (.BoolOp .And xs pos) (rE (vw X cl H0) Ew false (evAnd T es)) ∧ PW X (.BoolOp .And xs pos) (rT (vw X cl H0) Ew (evAnd T es))
  or : ∀ {X : Cx} {cl : Nat → Value} {H0 : Hp} {Ew : XK} {T : Ct} {nm : Nm} {k : Nat} {xs : List Expr} {pos : Pos}, XOk X cl Ew T nm k → chkEs X.N nm X.env.scope false es xs = true →
    PE X (.BoolOp .Or xs pos) (rE (vw X cl H0) Ew false (evOr T es)) ∧ PW X (.BoolOp .Or xs pos) (rT (vw X cl H0) Ew (evOr T es))
structure SoO (o : OE) : Prop where
  a : ∀ {X : Cx} {cl : Nat → Value} {H0 : Hp} {Ew : XK} {T : Ct} {nm : Nm} {k : Nat} {x : Option Expr}, XOk X cl Ew T nm k → chkO X.N nm X.env.scope o x = true → PO X x (rO (vw X cl H0) Ew (evO T o))
  c : ∀ {X : Cx} {cl : Nat → Value} {H0 : Hp} {Ew : XK} {T : Ct} {nm : Nm} {k : Nat} {x : List Expr}, XOk X cl Ew T nm k → chkC X.N nm X.env.scope o x = true → PTs X x (rTs (vw X cl H0) Ew (evTs T o))
structure SoI (i : I) : Prop where
  a : ∀ {X : Cx} {cl : Nat → Value} {H0 : Hp} {Ew : XK} {T : Ct} {nm : Nm} {k : Nat} {sh : Bool} {tg x : Expr}, XOk X cl Ew T nm k → chkI X.N nm X.env.scope sh (isTupE tg) i x = true → PI X tg x (rI (vw X cl H0) Ew (RLe sh) (evI T i)) ∧ (∀ env v, foldedSetIterable x env v = pure v)
/-- the test from the value -/
theorem so_mk {e : E} (h1 : spT e = false) (h2 : isFr e = false)
    (h : ∀ {X : Cx} {cl : Nat → Value} {H0 : Hp} {Ew : XK} {T : Ct} {nm : Nm} {k : Nat} {sh : Bool} {x : Expr}, XOk X cl Ew T nm k → chkE X.N nm X.env.scope sh e x = true → PE X x (rE (vw X cl H0) Ew sh (evE T e))) : SoE e where
  a := h
  t := fun {X cl H0 Ew T nm k x} ok hc => by
    refine PT_imp (pt_val (h (H0 := H0) ok hc) fun whole => true_of (plT_of hc h1) X.env whole) fun σ H Q ⟨Ω, ρ, s, rel, sr, po⟩ => ⟨Ω, ρ, s, rel, sr, po.mono ?_ fun _ _ _ _ _ _ z => z⟩
    rintro d s' Ω' H' l r ⟨b, rfl, q⟩ v rv
    cases rv
    exact ⟨b, rfl, q⟩
  f := fun z => by rw [h2] at z; cases z
  sw := fun z => by
    have : isFr e = true := by cases e <;> first | rfl | cases z
    rw [h2] at this; cases this
/-! ### single expressions -/
section
variable {X : Cx} {cl : Nat → Value} {H0 : Hp} {Ew : XK} {T : Ct} {nm : Nm} {k : Nat} {sh : Bool}
theorem Po.get {W : Vw} {ρ : Env} {σ : L2.St} {H : Hp} {Ω : Wd} {s : S} {i : Nat} {kk : D → S → Wd → Hp → Prop} {ke : Er → S → Wd → Hp → Prop} (h : Po (PL.get ρ i s) Ω H kk ke) (rel : Rel W.K W.H0 Ω ρ σ H) (sr : SRel Ω s H) :
    ∃ v d, σ[i]? = some (some v) ∧ Rp W.K Ω H v d ∧ kk d s Ω H := by
  cases e : ρ[i]? with
  | none => unfold PL.get at h; rw [e] at h; exact h.elim
  | some o =>
    cases o with
    | none => unfold PL.get at h; rw [e] at h; exact h.elim
    | some sl =>
      cases sl with
      | val d =>
        unfold PL.get at h; rw [e] at h
        obtain ⟨v, h1, h2⟩ := rel.at_ _ _ e
        exact ⟨v, d, h1, h2, Po.ret h sr⟩
      | _ => unfold PL.get at h; rw [e] at h; exact h.elim
theorem Po.getO {W : Vw} {ρ : Env} {σ : L2.St} {H : Hp} {Ω : Wd} {s : S} {i : Nat} {kk : D → S → Wd → Hp → Prop} {ke : Er → S → Wd → Hp → Prop} (h : Po (PL.getO ρ i s) Ω H kk ke) (rel : Rel W.K W.H0 Ω ρ σ H) (sr : SRel Ω s H) :
    ∃ v d, σ[i]? = some (some v) ∧ Sh W.K Ω H v d ∧ kk d s Ω H := by
  cases e : ρ[i]? with
  | none => unfold PL.getO at h; rw [e] at h; exact h.elim
  | some o =>
    cases o with
    | none => unfold PL.getO at h; rw [e] at h; exact h.elim
    | some sl =>
      cases sl with
      | val d =>
        unfold PL.getO at h; rw [e] at h
        obtain ⟨v, h1, h2⟩ := rel.at_ _ _ e
        exact ⟨v, d, h1, Rp.sh h2, Po.ret h sr⟩
      | own xs =>
        unfold PL.getO at h; rw [e] at h
        obtain ⟨v, h1, a, vs, rfl, h3, _, _, h4, h5⟩ := rel.at_ _ _ e
        exact ⟨_, .lst xs, h1, ⟨a, vs, rfl, h3, h4, h5⟩, Po.ret h sr⟩
      | owd ks vs =>
        unfold PL.getO at h; rw [e] at h
        obtain ⟨v, h1, a, kvs, rfl, h3, _, _, h4, h5, h6, h7⟩ := rel.at_ _ _ e
        exact ⟨_, .dic ks vs, h1, ⟨a, kvs, rfl, h3, .inl h4, h5, h6, h7⟩, Po.ret h sr⟩
end
theorem so_const {e : E} {v : V} {d : D} (h1 : spT e = false) (h2 : isFr e = false) (he : ∀ T ρ, evE T e ρ = ret d) (hv : ∀ K Ω H, Rp K Ω H v d)
    (h : ∀ {X : Cx} {nm : Nm} {sh : Bool} {x : Expr}, chkE X.N nm X.env.scope sh e x = true → PE X x (tC v)) : SoE e := so_mk h1 h2 fun {X cl H0 Ew T nm k sh x} ok hc => by
  refine rE_up (PE_imp (h hc) fun σ H Q ⟨Ω, ρ, s, rel, sr, po⟩ => ?_)
  rw [he] at po
  exact po.ret sr v (hv _ _ _)
theorem so_non : SoE .non := so_const (v := .non) (d := .non) rfl rfl (fun _ _ => rfl) (fun _ _ _ => .non) fun {X nm sh x} h => by
  unfold chkE at h
  split at h
  · exact pe_non
  · cases h
theorem so_bl {b : Bool} : SoE (.bl b) := so_const (v := .bl b) (d := .bl b) rfl rfl (fun _ _ => rfl) (fun _ _ _ => .bl b) fun {X nm sh x} h => by
  unfold chkE at h
  cases x with
  | Constant c k p =>
    cases c with
    | bool c => have := eq_of_beq h; subst this; exact pe_bl
    | _ => cases h
  | _ => cases h
theorem so_int {b : Int} : SoE (.int b) := so_const (v := .int b) (d := .int b) rfl rfl (fun _ _ => rfl) (fun _ _ _ => .int b) fun {X nm sh x} h => by
  unfold chkE at h
  cases x with
  | Constant c k p =>
    cases c with
    | int c => have := of_decide_eq_true h; subst this; exact pe_int
    | _ => cases h
  | _ => cases h
theorem so_str {l : List Nat} : SoE (.str l) := so_mk rfl rfl fun {X cl H0 Ew T nm k sh x} ok h => by
  unfold chkE at h
  split at h
  · simp only [Bool.and_eq_true, decide_eq_true_eq] at h
    obtain ⟨rfl, h2⟩ := h
    refine rE_up (PE_imp pe_str fun σ H Q ⟨Ω, ρ, s, rel, sr, po⟩ => ?_)
    exact Po.ret (a := D.str _) po sr _ (.str (okS_of h2))
  · cases h
theorem so_var {i : Nat} : SoE (.var i) := so_mk rfl rfl fun {X cl H0 Ew T nm k sh x} ok h => by
  unfold chkE at h
  split at h
  · obtain ⟨h1, h2, h3, h4⟩ := sl_of h
    refine rE_up (PE_imp (pe_var h1 h2 h3 h4) fun σ H Q ⟨Ω, ρ, s, rel, sr, po⟩ => ?_)
    obtain ⟨v, d, e, r, q⟩ := Po.get (W := vw X cl H0) po rel sr
    exact ⟨v, e, q v r⟩
  · cases h
theorem so_own {i : Nat} : SoE (.own i) := so_mk rfl rfl fun {X cl H0 Ew T nm k sh x} ok h => by
  unfold chkE at h
  split at h
  · simp only [Bool.and_eq_true] at h
    obtain ⟨rfl, h⟩ := h
    obtain ⟨h1, h2, h3, h4⟩ := sl_of h
    refine PE_imp (pe_var h1 h2 h3 h4) fun σ H Q ⟨Ω, ρ, s, rel, sr, po⟩ => ?_
    obtain ⟨v, d, e, r, q⟩ := Po.getO (W := vw X cl H0) po rel sr
    exact ⟨v, e, q v r⟩
  · cases h
theorem so_glo {n : Nat} : SoE (.glo n) := so_mk rfl rfl fun {X cl H0 Ew T nm k sh x} ok h => by
  unfold chkE at h
  split at h
  · simp only [Bool.and_eq_true, decide_eq_true_eq] at h
    obtain ⟨rfl, h⟩ := h
    obtain ⟨h1, h2, h3⟩ := gl_of h
    cases e : T.cs n with
    | none => exact rE_up (PE_imp (t := fun _ _ _ => False) ⟨fun _ _ _ _ _ _ z => z.elim⟩ fun σ H Q ⟨Ω, ρ, s, rel, sr, po⟩ => by
        have po : Po (lift (T.cs n) s) Ω H _ _ := po
        rw [e] at po; exact po)
    | some d =>
      obtain ⟨v, u, h4, h5, h6⟩ := ok.g.cs n d e
      refine rE_up (PE_imp (pe_glob h1 h4 h5 h2) fun σ H Q ⟨Ω, ρ, s, rel, sr, po⟩ => ?_)
      have po : Po (lift (T.cs n) s) Ω H _ _ := po
      obtain ⟨d', e', q⟩ := po.lift
      rw [e] at e'; cases e'
      exact q Ω H (Le.refl _ _) sr v (h6 Ω H)
  · cases h

/-! ### compound expressions -/
theorem so_bin {o : Bop} {a b : E} (ha : SoE a) (hb : SoE b) : SoE (.bin o a b) := so_mk rfl rfl fun {X cl H0 Ew T nm k sh x} ok h => by
  unfold chkE at h
  split at h
  · simp only [Bool.and_eq_true, decide_eq_true_eq] at h
    obtain ⟨⟨rfl, h1⟩, h2⟩ := h
    refine rE_up (PE_imp (pe_op (bop_ok o) (ha.a (H0 := H0) ok h1) (hb.a (H0 := H0) ok h2)) fun σ H Q ⟨Ω, ρ, s, rel, sr, po⟩ => ?_)
    have po : Po (bnd (evE T a ρ) (fun x => bnd (evE T b ρ) fun y => lift (bopD o x y)) s) Ω H _ _ := po
    refine rE_of rel sr po.bnd fun d s1 Ω1 H1 v rel1 l1 sr1 rv po1 => ?_
    refine rE_of rel1 sr1 po1.bnd fun d2 s2 Ω2 H2 v2 rel2 l2 sr2 rv2 po2 => ?_
    obtain ⟨z, hz, q⟩ := po2.lift
    exact ⟨Ω2, s2, d, d2, z, sr2, Sh.mono l2 rv, rv2, hz, q⟩
  · cases h
theorem so_idx {a b : E} (ha : SoE a) (hb : SoE b) : SoE (.idx a b) := so_mk rfl rfl fun {X cl H0 Ew T nm k sh x} ok h => by
  unfold chkE at h
  split at h
  · simp only [Bool.and_eq_true, decide_eq_true_eq] at h
    obtain ⟨h1, h2⟩ := h
    refine rE_up (PE_imp (pe_ix idx_ok (ha.a (H0 := H0) ok h1) (hb.a (H0 := H0) ok h2) (ix_of (okX_of h2))) fun σ H Q ⟨Ω, ρ, s, rel, sr, po⟩ => ?_)
    have po : Po (bnd (evE T a ρ) (fun x => bnd (evE T b ρ) fun y => idxM x y) s) Ω H _ _ := po
    refine rE_of rel sr po.bnd fun d s1 Ω1 H1 v rel1 l1 sr1 rv po1 => ?_
    refine rE_of rel1 sr1 po1.bnd fun d2 s2 Ω2 H2 v2 rel2 l2 sr2 rv2 po2 => ?_
    have key : ∃ z, idxM d d2 s2 = .ok z s2 := by
      have h0 : ∀ x : Option D, lift x s2 = .no ∨ ∃ z, lift x s2 = .ok z s2 := fun x => by
        cases x with
        | none => exact .inl rfl
        | some z => exact .inr ⟨z, rfl⟩
      have h1 : idxM d d2 s2 = .no ∨ ∃ z, idxM d d2 s2 = .ok z s2 := by
        by_cases e : d = .cup
        · subst e
          show cupGet d2 s2 = .no ∨ ∃ z, cupGet d2 s2 = .ok z s2
          unfold cupGet
          split
          · exact .inr ⟨_, rfl⟩
          · exact .inr ⟨_, rfl⟩
          · exact .inl rfl
        · have e2 : idxM d d2 = lift (idxD d d2) := by cases d <;> first | rfl | exact absurd rfl e
          rw [e2]; exact h0 _
      rcases h1 with e | e
      · rw [e] at po2; exact po2.elim
      · exact e
    obtain ⟨z, hz⟩ := key
    rw [hz] at po2
    exact ⟨Ω2, s2, d, d2, z, sr2, Sh.mono l2 rv, rv2, hz, po2⟩
  · cases h
theorem so_neg {a : E} (ha : SoE a) : SoE (.neg a) := so_mk rfl rfl fun {X cl H0 Ew T nm k sh x} ok h => by
  unfold chkE at h
  split at h
  · refine rE_up (PE_imp (pe_un un_neg (ha.a (H0 := H0) ok h)) fun σ H Q ⟨Ω, ρ, s, rel, sr, po⟩ => ?_)
    have po : Po (bnd (evE T a ρ) (fun x => bnd (asI x) fun i => ret (D.int (-i))) s) Ω H _ _ := po
    refine rE_of rel sr po.bnd fun d s1 Ω1 H1 v rel1 l1 sr1 rv po1 => ?_
    obtain ⟨i, rfl, q⟩ := po1.bnd.asI sr1
    have rv : Rp X.K Ω1 H1 v (.int i) := rv
    cases rv
    exact ⟨i, rfl, q.ret sr1 _ (Rp.int _)⟩
  · cases h
theorem so_not {a : E} (ha : SoE a) : SoE (.not a) where
  a := fun {X cl H0 Ew T nm k sh x} ok h => by
    unfold chkE at h
    split at h
    · refine rE_up (PE_imp (pe_not (ha.a (H0 := H0) ok h)) fun σ H Q ⟨Ω, ρ, s, rel, sr, po⟩ => ?_)
      have po : Po (bnd (evE T a ρ) (fun x => bnd (asB x) fun b => ret (D.bl (!b))) s) Ω H _ _ := po
      refine rE_of rel sr po.bnd fun d s1 Ω1 H1 v rel1 l1 sr1 rv po1 => ?_
      obtain ⟨i, rfl, q⟩ := po1.bnd.asB sr1
      have rv : Rp X.K Ω1 H1 v (.bl i) := rv
      cases rv
      exact ⟨i, rfl, q.ret sr1 _ (Rp.bl _)⟩
    · cases h
  t := fun {X cl H0 Ew T nm k x} ok h => by
    unfold chkE at h
    split at h
    · refine PT_imp (pt_not (ha.t (H0 := H0) ok h)) fun σ H Q ⟨Ω, ρ, s, rel, sr, po⟩ => ?_
      have po : Po (bnd (evE T a ρ) (fun x => bnd (asB x) fun b => ret (D.bl (!b))) s) Ω H _ _ := po
      refine rT_of rel sr po.bnd fun d s1 Ω1 H1 rel1 l1 sr1 po1 => ?_
      obtain ⟨i, rfl, q⟩ := po1.bnd.asB sr1
      obtain ⟨b, e, q⟩ := q.ret sr1
      cases e
      exact ⟨i, rfl, q⟩
    · cases h
  f := fun z => by cases z
  sw := fun z => by cases z
theorem so_ite {c a b : E} (hc : SoE c) (ha : SoE a) (hb : SoE b) : SoE (.ite c a b) where
  a := fun {X cl H0 Ew T nm k sh x} ok h => by
    unfold chkE at h
    split at h
    · simp only [Bool.and_eq_true] at h
      obtain ⟨⟨h1, h2⟩, h3⟩ := h
      refine rE_up (PE_imp (pe_ifExp (hc.t (H0 := H0) ok h1) (ha.a (H0 := H0) ok h2) (hb.a (H0 := H0) ok h3)) fun σ H Q ⟨Ω, ρ, s, rel, sr, po⟩ => ?_)
      have po : Po (bnd (evE T c ρ) (fun x => bnd (asB x) fun k => if k = true then evE T a ρ else evE T b ρ) s) Ω H _ _ := po
      refine rT_of rel sr po.bnd fun d s1 Ω1 H1 rel1 l1 sr1 po1 => ?_
      obtain ⟨i, rfl, q⟩ := po1.bnd.asB sr1
      refine ⟨i, rfl, ?_⟩
      cases i
      · exact ⟨Ω1, ρ, s1, rel1, sr1, q⟩
      · exact ⟨Ω1, ρ, s1, rel1, sr1, q⟩
    · cases h
  t := fun {X cl H0 Ew T nm k x} ok h => by
    unfold chkE at h
    split at h
    · simp only [Bool.and_eq_true] at h
      obtain ⟨⟨h1, h2⟩, h3⟩ := h
      refine PT_imp (t := fun σ H Q => rT (vw X cl H0) Ew (evE T c) σ H fun c H1 => if c = true then rT (vw X cl H0) Ew (evE T a) σ H1 Q else rT (vw X cl H0) Ew (evE T b) σ H1 Q) ⟨fun pins s σ H Q I hw => ?_⟩ fun σ H Q ⟨Ω, ρ, s, rel, sr, po⟩ => ?_
      · rename_i u v w p
        show wpAny _ _ (do if ← isTrue u X.env (eval u X.env) then isTrue v X.env (eval v X.env) else isTrue w X.env (eval w X.env)) _ _ s
        refine wpAny_bind (thn ((hc.t (H0 := H0) ok h1).run pins s σ H _ I hw) fun c s1 ⟨H1, I1, q1⟩ => ?_)
        cases c
        · exact (hb.t (H0 := H0) ok h3).run pins s1 σ H1 Q I1 q1
        · exact (ha.t (H0 := H0) ok h2).run pins s1 σ H1 Q I1 q1
      · have po : Po (bnd (evE T c ρ) (fun x => bnd (asB x) fun k => if k = true then evE T a ρ else evE T b ρ) s) Ω H _ _ := po
        refine rT_of rel sr po.bnd fun d s1 Ω1 H1 rel1 l1 sr1 po1 => ?_
        obtain ⟨i, rfl, q⟩ := po1.bnd.asB sr1
        refine ⟨i, rfl, ?_⟩
        cases i
        · exact ⟨Ω1, ρ, s1, rel1, sr1, q⟩
        · exact ⟨Ω1, ρ, s1, rel1, sr1, q⟩
    · cases h
  f := fun z => by cases z
  sw := fun z => by cases z
theorem XOk.un {X : Cx} {cl : Nat → Value} {Ew : XK} {T : Ct} {nm : Nm} {k : Nat} (ok : XOk X cl Ew T nm k) : X.A.units + 65 < cLine := by
  have := ok.room.un
  omega
theorem so_cmp {o : Cop} {a b : E} (ha : SoE a) (hb : SoE b) : SoE (.cmp o a b) where
  a := fun {X cl H0 Ew T nm k sh x} ok h => by
    unfold chkE at h
    split at h
    · simp only [Bool.and_eq_true, decide_eq_true_eq] at h
      obtain ⟨⟨rfl, h1⟩, h2⟩ := h
      refine rE_up (PE_imp (pe_cmpR (cop_ok ok.un o) (ha.a (H0 := H0) ok h1) (hb.a (H0 := H0) ok h2) (beh_of (okX_of h2) _)) fun σ H Q ⟨Ω, ρ, s, rel, sr, po⟩ => ?_)
      have po : Po (bnd (evE T a ρ) (fun x => bnd (evE T b ρ) fun y => bnd (lift (copD o x y)) fun k => ret (D.bl k)) s) Ω H _ _ := po
      refine rE_of rel sr po.bnd fun d s1 Ω1 H1 v rel1 l1 sr1 rv po1 => ?_
      refine rE_of rel1 sr1 po1.bnd fun d2 s2 Ω2 H2 v2 rel2 l2 sr2 rv2 po2 => ?_
      obtain ⟨z, hz, q⟩ := po2.bnd.lift
      exact ⟨Ω2, d, d2, z, Sh.mono l2 rv, rv2, hz, (q Ω2 H2 (Le.refl _ _) sr2).ret sr2 _ (Rp.bl z)⟩
    · cases h
  t := fun {X cl H0 Ew T nm k x} ok h => by
    unfold chkE at h
    split at h
    · simp only [Bool.and_eq_true, decide_eq_true_eq] at h
      obtain ⟨⟨rfl, h1⟩, h2⟩ := h
      refine PT_imp (pt_cmpR (cop_ok ok.un o) (ha.a (H0 := H0) ok h1) (hb.a (H0 := H0) ok h2) (beh_of (okX_of h2) _)) fun σ H Q ⟨Ω, ρ, s, rel, sr, po⟩ => ?_
      have po : Po (bnd (evE T a ρ) (fun x => bnd (evE T b ρ) fun y => bnd (lift (copD o x y)) fun k => ret (D.bl k)) s) Ω H _ _ := po
      refine rE_of rel sr po.bnd fun d s1 Ω1 H1 v rel1 l1 sr1 rv po1 => ?_
      refine rE_of rel1 sr1 po1.bnd fun d2 s2 Ω2 H2 v2 rel2 l2 sr2 rv2 po2 => ?_
      obtain ⟨z, hz, q⟩ := po2.bnd.lift
      obtain ⟨b, e, q⟩ := (q Ω2 H2 (Le.refl _ _) sr2).ret sr2
      cases e
      exact ⟨Ω2, d, d2, z, Sh.mono l2 rv, rv2, hz, z, rfl, q⟩
    · cases h
  f := fun z => by cases z
  sw := fun z => by cases z
theorem so_chn {o p : Cop} {a b c : E} (ha : SoE a) (hb : SoE b) (hc : SoE c) : SoE (.chn o p a b c) where
  a := fun {X cl H0 Ew T nm k sh x} ok h => by
    unfold chkE at h
    split at h
    · simp only [Bool.and_eq_true, decide_eq_true_eq] at h
      obtain ⟨⟨⟨⟨rfl, rfl⟩, h1⟩, h2⟩, h3⟩ := h
      refine rE_up (PE_imp (pe_chain (cop_ok ok.un o) (cop_ok ok.un p) (ha.a (H0 := H0) ok h1) (hb.a (H0 := H0) ok h2) (hc.a (H0 := H0) ok h3) (beh_of (okX_of h3) _)) fun σ H Q ⟨Ω, ρ, s, rel, sr, po⟩ => ?_)
      have po : Po (bnd (evE T a ρ) (fun x => bnd (evE T b ρ) fun y => bnd (lift (copD o x y)) fun k => if k = true then bnd (evE T c ρ) fun z => bnd (lift (copD p y z)) fun k2 => ret (D.bl k2) else ret (D.bl false)) s) Ω H _ _ := po
      refine rE_of rel sr po.bnd fun d s1 Ω1 H1 v rel1 l1 sr1 rv po1 => ?_
      refine rE_of rel1 sr1 po1.bnd fun d2 s2 Ω2 H2 v2 rel2 l2 sr2 rv2 po2 => ?_
      obtain ⟨z, hz, q⟩ := po2.bnd.lift
      have q := q Ω2 H2 (Le.refl _ _) sr2
      refine ⟨Ω2, d, d2, z, Sh.mono l2 rv, rv2, hz, z, rfl, ?_⟩
      cases z
      · exact Po.ret (a := D.bl false) q sr2 _ (Rp.bl _)
      · have q : Po (bnd (evE T c ρ) (fun z => bnd (lift (copD p d2 z)) fun k2 => ret (D.bl k2)) s2) Ω2 H2 _ _ := q
        refine rE_of rel2 sr2 q.bnd fun d3 s3 Ω3 H3 v3 rel3 l3 sr3 rv3 po3 => ?_
        obtain ⟨z, hz, q⟩ := po3.bnd.lift
        exact ⟨Ω3, d2, d3, z, Sh.mono l3 rv2, rv3, hz, (q Ω3 H3 (Le.refl _ _) sr3).ret sr3 _ (Rp.bl z)⟩
    · cases h
  t := fun {X cl H0 Ew T nm k x} ok h => by
    unfold chkE at h
    split at h
    · simp only [Bool.and_eq_true, decide_eq_true_eq] at h
      obtain ⟨⟨⟨⟨rfl, rfl⟩, h1⟩, h2⟩, h3⟩ := h
      refine PT_imp (pt_chain (cop_ok ok.un o) (cop_ok ok.un p) (ha.a (H0 := H0) ok h1) (hb.a (H0 := H0) ok h2) (hc.a (H0 := H0) ok h3) (beh_of (okX_of h3) _)) fun σ H Q ⟨Ω, ρ, s, rel, sr, po⟩ => ?_
      have po : Po (bnd (evE T a ρ) (fun x => bnd (evE T b ρ) fun y => bnd (lift (copD o x y)) fun k => if k = true then bnd (evE T c ρ) fun z => bnd (lift (copD p y z)) fun k2 => ret (D.bl k2) else ret (D.bl false)) s) Ω H _ _ := po
      refine rE_of rel sr po.bnd fun d s1 Ω1 H1 v rel1 l1 sr1 rv po1 => ?_
      refine rE_of rel1 sr1 po1.bnd fun d2 s2 Ω2 H2 v2 rel2 l2 sr2 rv2 po2 => ?_
      obtain ⟨z, hz, q⟩ := po2.bnd.lift
      have q := q Ω2 H2 (Le.refl _ _) sr2
      refine ⟨Ω2, d, d2, z, Sh.mono l2 rv, rv2, hz, z, rfl, ?_⟩
      cases z
      · obtain ⟨b, e, q⟩ := Po.ret (a := D.bl false) q sr2
        cases e
        exact ⟨_, rfl, q⟩
      · have q : Po (bnd (evE T c ρ) (fun z => bnd (lift (copD p d2 z)) fun k2 => ret (D.bl k2)) s2) Ω2 H2 _ _ := q
        refine rE_of rel2 sr2 q.bnd fun d3 s3 Ω3 H3 v3 rel3 l3 sr3 rv3 po3 => ?_
        obtain ⟨z, hz, q⟩ := po3.bnd.lift
        obtain ⟨b, e, q⟩ := (q Ω3 H3 (Le.refl _ _) sr3).ret sr3
        cases e
        exact ⟨Ω3, d2, d3, z, Sh.mono l3 rv2, rv3, hz, _, rfl, q⟩
    · cases h
  f := fun z => by cases z
  sw := fun z => by cases z
end PL
end

section
set_option Elab.async false
set_option linter.all false
set_option maxRecDepth 100000
set_option maxHeartbeats 4000000
/-! PL8: lists of expressions, calls. -/
namespace PL
open PySem PySem.Spec PyProof.Rows L2

theorem pe_no {X : Cx} {x : Expr} {t : TE} (h : ∀ σ H Q, ¬ t σ H Q) : PE X x t := ⟨fun _ _ _ _ _ _ z => absurd z (h _ _ _)⟩
theorem pw_no {X : Cx} {x : Expr} {t : TT} (h : ∀ σ H Q, ¬ t σ H Q) : PW X x t := ⟨fun _ _ _ _ _ _ _ z => absurd z (h _ _ _)⟩

/-! ### lists of expressions -/
theorem so_nil : SoEs .nil where
  a := fun {X cl H0 Ew T nm k sh xs} ok h => by
    cases xs with
    | nil =>
      refine ⟨fun pos pins s σ H Q I ⟨Ω, ρ, st, rel, sr, po⟩ => pa_nil.run pos pins s σ H Q I ?_⟩
      have po : Po (ret [] st) Ω H _ _ := po
      refine po.ret sr [] ?_
      cases sh
      · exact RpA.nil
      · exact ShA.nil
    | cons _ _ => simp [chkEs] at h
  an := fun {X cl H0 Ew T nm k xs pos} ok h => ⟨pe_no fun σ H Q ⟨_, _, _, _, _, po⟩ => po, pw_no fun σ H Q ⟨_, _, _, _, _, po⟩ => po⟩
  or := fun {X cl H0 Ew T nm k xs pos} ok h => ⟨pe_no fun σ H Q ⟨_, _, _, _, _, po⟩ => po, pw_no fun σ H Q ⟨_, _, _, _, _, po⟩ => po⟩
theorem ShA.mono {K : PySem.W.Frag} {Ω Ω' : Wd} {H H' : Hp} (e : Le Ω H Ω' H') : ∀ {vs : List V} {ds : List D}, ShA K Ω H vs ds → ShA K Ω' H' vs ds
  | _, _, .nil => .nil
  | _, _, .cons a b => .cons (a.mono e) (ShA.mono e b)
theorem evAnd_cons (T : Ct) (e e2 : E) (es : Es) (ρ : Env) : evAnd T (.cons e (.cons e2 es)) ρ = bnd (evE T e ρ) fun x => bnd (asB x) fun b => if b = true then evAnd T (.cons e2 es) ρ else ret (.bl false) := by
  rw [evAnd]
  intro h; cases h
theorem evOr_cons (T : Ct) (e e2 : E) (es : Es) (ρ : Env) : evOr T (.cons e (.cons e2 es)) ρ = bnd (evE T e ρ) fun x => bnd (asB x) fun b => if b = true then ret (.bl true) else evOr T (.cons e2 es) ρ := by
  rw [evOr]
  intro h; cases h
theorem so_cons {e : E} {es : Es} (he : SoE e) (hs : SoEs es) : SoEs (.cons e es) where
  a := fun {X cl H0 Ew T nm k sh xs} ok h => by
    cases xs with
    | nil => simp [chkEs] at h
    | cons y ys =>
      simp only [chkEs, Bool.and_eq_true] at h
      refine ⟨fun pos pins s σ H Q I ⟨Ω, ρ, st, rel, sr, po⟩ => (pa_cons (he.a (H0 := H0) ok h.1) (hs.a (H0 := H0) ok h.2) (star_of (okX_of h.1) ys X.env)).run pos pins s σ H Q I ?_⟩
      have po : Po (bnd (evE T e ρ) (fun d => bnd (evEs T es ρ) fun ds => ret (d :: ds)) st) Ω H _ _ := po
      refine rE_of rel sr po.bnd fun d s1 Ω1 H1 v rel1 l1 sr1 rv po1 => ?_
      refine rA_of rel1 sr1 po1.bnd fun ds s2 Ω2 H2 vs rel2 l2 sr2 rvs po2 => ?_
      refine po2.ret sr2 _ ?_
      cases sh
      · exact RpA.cons (Rp.mono l2 rv) rvs
      · exact ShA.cons (Sh.mono l2 rv) rvs
  an := fun {X cl H0 Ew T nm k xs pos} ok h => by
    cases xs with
    | nil => simp [chkEs] at h
    | cons y ys =>
      simp only [chkEs, Bool.and_eq_true] at h
      cases es with
      | nil =>
        cases ys with
        | cons _ _ => simp [chkEs] at h
        | nil => exact ⟨pe_one (he.a (H0 := H0) ok h.1), pw_and1 (he.t (H0 := H0) ok h.1)⟩
      | cons e2 es =>
        cases ys with
        | nil => simp [chkEs] at h
        | cons z zs =>
          obtain ⟨p1, p2⟩ := hs.an (H0 := H0) (pos := pos) ok h.2
          refine ⟨PE_imp (pe_and (he.a (H0 := H0) ok h.1) p1) fun σ H Q ⟨Ω, ρ, s, rel, sr, po⟩ => ?_, PW_imp (pw_and (he.t (H0 := H0) ok h.1) p2) fun σ H Q ⟨Ω, ρ, s, rel, sr, po⟩ => ?_⟩
          · rw [evAnd_cons] at po
            refine rE_of rel sr po.bnd fun d s1 Ω1 H1 v rel1 l1 sr1 rv po1 => ?_
            obtain ⟨b, rfl, q⟩ := po1.bnd.asB sr1
            have rv : Rp X.K Ω1 H1 v (.bl b) := rv
            cases rv
            refine ⟨b, rfl, ?_⟩
            cases b
            · exact Po.ret (a := D.bl false) q sr1 _ (Rp.bl _)
            · exact ⟨Ω1, ρ, s1, rel1, sr1, q⟩
          · rw [evAnd_cons] at po
            refine rT_of rel sr po.bnd fun d s1 Ω1 H1 rel1 l1 sr1 po1 => ?_
            obtain ⟨b, rfl, q⟩ := po1.bnd.asB sr1
            refine ⟨b, rfl, ?_⟩
            cases b
            · obtain ⟨b, e, q⟩ := Po.ret (a := D.bl false) q sr1
              cases e
              exact q
            · exact ⟨Ω1, ρ, s1, rel1, sr1, q⟩
  or := fun {X cl H0 Ew T nm k xs pos} ok h => by
    cases xs with
    | nil => simp [chkEs] at h
    | cons y ys =>
      simp only [chkEs, Bool.and_eq_true] at h
      cases es with
      | nil =>
        cases ys with
        | cons _ _ => simp [chkEs] at h
        | nil => exact ⟨pe_one (he.a (H0 := H0) ok h.1), pw_or1 (he.t (H0 := H0) ok h.1)⟩
      | cons e2 es =>
        cases ys with
        | nil => simp [chkEs] at h
        | cons z zs =>
          obtain ⟨p1, p2⟩ := hs.or (H0 := H0) (pos := pos) ok h.2
          refine ⟨PE_imp (pe_or (he.a (H0 := H0) ok h.1) p1) fun σ H Q ⟨Ω, ρ, s, rel, sr, po⟩ => ?_, PW_imp (pw_or (he.t (H0 := H0) ok h.1) p2) fun σ H Q ⟨Ω, ρ, s, rel, sr, po⟩ => ?_⟩
          · rw [evOr_cons] at po
            refine rE_of rel sr po.bnd fun d s1 Ω1 H1 v rel1 l1 sr1 rv po1 => ?_
            obtain ⟨b, rfl, q⟩ := po1.bnd.asB sr1
            have rv : Rp X.K Ω1 H1 v (.bl b) := rv
            cases rv
            refine ⟨b, rfl, ?_⟩
            cases b
            · exact ⟨Ω1, ρ, s1, rel1, sr1, q⟩
            · exact Po.ret (a := D.bl true) q sr1 _ (Rp.bl _)
          · rw [evOr_cons] at po
            refine rT_of rel sr po.bnd fun d s1 Ω1 H1 rel1 l1 sr1 po1 => ?_
            obtain ⟨b, rfl, q⟩ := po1.bnd.asB sr1
            refine ⟨b, rfl, ?_⟩
            cases b
            · exact ⟨Ω1, ρ, s1, rel1, sr1, q⟩
            · obtain ⟨b, e, q⟩ := Po.ret (a := D.bl true) q sr1
              cases e
              exact q
theorem so_and {es : Es} (hs : SoEs es) : SoE (.and es) where
  a := fun {X cl H0 Ew T nm k sh x} ok h => by
    unfold chkE at h
    split at h
    · exact rE_up (hs.an ok h).1
    · cases h
  t := fun {X cl H0 Ew T nm k x} ok h => by
    unfold chkE at h
    split at h
    · exact (hs.an ok h).2.pt
    · cases h
  f := fun z => by cases z
  sw := fun z => by cases z
theorem so_or {es : Es} (hs : SoEs es) : SoE (.or es) where
  a := fun {X cl H0 Ew T nm k sh x} ok h => by
    unfold chkE at h
    split at h
    · exact rE_up (hs.or ok h).1
    · cases h
  t := fun {X cl H0 Ew T nm k x} ok h => by
    unfold chkE at h
    split at h
    · exact (hs.or ok h).2.pt
    · cases h
  f := fun z => by cases z
  sw := fun z => by cases z

theorem evEs_len (T : Ct) : ∀ {es : Es} {N : List Str} {nm : Nm} {sc : Scope} {sh : Bool} {xs : List Expr} {ρ : Env} {s : S} {ds : List D} {s' : S}, chkEs N nm sc sh es xs = true → evEs T es ρ s = .ok ds s' → ds.length = xs.length
  | .nil, N, nm, sc, sh, xs, ρ, s, ds, s', h, e => by
    cases xs with
    | nil => cases e; rfl
    | cons _ _ => simp [chkEs] at h
  | .cons y ys, N, nm, sc, sh, xs, ρ, s, ds, s', h, e => by
    cases xs with
    | nil => simp [chkEs] at h
    | cons z zs =>
      simp only [chkEs, Bool.and_eq_true] at h
      have e : bnd (evE T y ρ) (fun d => bnd (evEs T ys ρ) fun ds => ret (d :: ds)) s = .ok ds s' := e
      unfold bnd at e
      cases e1 : evE T y ρ s with
      | no => rw [e1] at e; cases e
      | er _ _ => rw [e1] at e; cases e
      | ok d s1 =>
        rw [e1] at e
        simp only at e
        cases e2 : evEs T ys ρ s1 with
        | no => rw [e2] at e; cases e
        | er _ _ => rw [e2] at e; cases e
        | ok ds2 s2 =>
          rw [e2] at e
          cases e
          rw [List.length_cons, List.length_cons, evEs_len T h.2 e2]
/-- a new list as a value and a test -/
theorem so_fr {e : E} (h1 : spT e = false) (hl : ∀ T ρ s d s', evE T e ρ s = .ok d s' → ∃ ds, d = .lst ds) (hx : ∀ {N : List Str} {nm : Nm} {sc : Scope} {sh : Bool} {x : Expr}, chkE N nm sc sh e x = true → chkE N nm sc false e x = true)
    (h : ∀ {X : Cx} {cl : Nat → Value} {H0 : Hp} {Ew : XK} {T : Ct} {nm : Nm} {k : Nat} {x : Expr}, XOk X cl Ew T nm k → chkE X.N nm X.env.scope false e x = true → PE X x (rF (vw X cl H0) Ew (evE T e)))
    (hw : isLc e = true → ∀ {X : Cx} {cl : Nat → Value} {H0 : Hp} {Ew : XK} {T : Ct} {nm : Nm} {k : Nat} {x : Expr}, XOk X cl Ew T nm k → chkE X.N nm X.env.scope false e x = true → ∀ {i : Nat} {y : Str} {py spos : Pos}, X.N[i]? = some y → X.env.scope.names.lookup y = some .local →
    swapsWith x (some (.Name y py)) spos.line X.env = pure true → PS X (.Assign [.Name y py] x spos) (tAsg (rF (vw X cl H0) Ew (evE T e)) (gName i))) : SoE e where
  a := fun {X cl H0 Ew T nm k sh x} ok hc => rE_up (rE_fr (h ok (hx hc)) (hl T))
  t := fun {X cl H0 Ew T nm k x} ok hc => by
    refine PT_imp (pt_val (rE_fr (sh := false) (h (H0 := H0) ok hc) (hl T)) fun whole => true_of (plT_of hc h1) X.env whole) fun σ H Q ⟨Ω, ρ, s, rel, sr, po⟩ => ⟨Ω, ρ, s, rel, sr, po.mono ?_ fun _ _ _ _ _ _ z => z⟩
    rintro d s' Ω' H' l r ⟨b, rfl, q⟩ v rv
    cases rv
    exact ⟨b, rfl, q⟩
  f := fun _ {X cl H0 Ew T nm k x} ok hc => h ok hc
  sw := hw
theorem so_tup {es : Es} (hs : SoEs es) : SoE (.tup es) := so_mk rfl rfl fun {X cl H0 Ew T nm k sh x} ok h => by
  unfold chkE at h
  split at h
  · simp only [Bool.and_eq_true, decide_eq_true_eq] at h
    obtain ⟨h, hl⟩ := h
    refine rE_up (PE_imp (pe_tup (hs.a (H0 := H0) ok h)) fun σ H Q ⟨Ω, ρ, s, rel, sr, po⟩ => ?_)
    have po : Po (bnd (evEs T es ρ) (fun ds => ret (D.tup ds)) s) Ω H _ _ := po
    refine rA_of rel sr (po.bnd.with fun a s' e => evEs_len T h e) fun ds s1 Ω1 H1 vs rel1 l1 sr1 rvs po1 => ?_
    obtain ⟨e, po1⟩ := po1
    have rvs : RpA X.K Ω1 H1 vs ds := rvs
    refine ⟨?_, fun p hp => ?_⟩
    · rw [rvs.length, e, sizeLine_eq]; omega
    · exact po1 Ω1 _ (Le.upd_new hp) (sr1.upd_new hp) _ (.tup (SqT.of upd_same) (rvs.mono (Le.upd_new hp)))
  · cases h
theorem so_lst {es : Es} (hs : SoEs es) : SoE (.lst es) := so_fr (hw := fun z => by cases z) rfl (fun T ρ s d s' e => by
    have e : bnd (evEs T es ρ) (fun ds => ret (D.lst ds)) s = .ok d s' := e
    unfold bnd at e
    cases e1 : evEs T es ρ s with
    | no => rw [e1] at e; cases e
    | er _ _ => rw [e1] at e; cases e
    | ok ds s1 => rw [e1] at e; cases e; exact ⟨ds, rfl⟩) (fun {N nm sc sh x} h => by unfold chkE at h ⊢; exact h) fun {X cl H0 Ew T nm k x} ok h => by
  unfold chkE at h
  split at h
  · simp only [Bool.and_eq_true, decide_eq_true_eq] at h
    obtain ⟨h, hl⟩ := h
    refine PE_imp (pe_lst (hs.a (H0 := H0) ok h)) fun σ H Q ⟨Ω, ρ, s, rel, sr, po⟩ => ?_
    have po : Po (bnd (evEs T es ρ) (fun ds => ret (D.lst ds)) s) Ω H _ _ := po
    refine rA_of rel sr (po.bnd.with fun a s' e => evEs_len T h e) fun ds s1 Ω1 H1 vs rel1 l1 sr1 rvs po1 => ?_
    obtain ⟨e, po1⟩ := po1
    have rvs : RpA X.K Ω1 H1 vs ds := rvs
    refine ⟨?_, fun p hp => ?_⟩
    · rw [rvs.length, e, sizeLine_eq]; omega
    · exact po1 Ω1 _ (Le.upd_new hp) (sr1.upd_new hp) p vs ds rfl (sr1.nf hp) (sr1.ne hp) (l1.free hp) upd_same (rvs.mono (Le.upd_new hp))
  · cases h
end PL
end

section
set_option Elab.async false
set_option linter.all false
set_option maxRecDepth 100000
set_option maxHeartbeats 4000000
/-! PL9: slices, built-in functions, isinstance, calls. -/
namespace PL
open PySem PySem.Spec PyProof.Rows L2

theorem so_ono : SoO .no where
  a := fun {X cl H0 Ew T nm k x} ok h => by
    unfold chkO at h
    split at h
    · refine PO_imp po_none fun σ H Q ⟨Ω, ρ, s, rel, sr, po⟩ => ?_
      have po : Po (bnd (ret none) asIo s) Ω H _ _ := po
      have po2 : Po (ret none s) Ω H _ _ := (po.bnd.ret sr)
      exact po2.ret sr
    · cases h
  c := fun {X cl H0 Ew T nm k x} ok h => by
    unfold chkC at h
    split at h
    · refine PTs_imp pts_nil fun σ H Q ⟨Ω, ρ, s, rel, sr, po⟩ => ?_
      have po : Po (ret true s) Ω H _ _ := po
      exact po.ret sr
    · cases h
theorem so_oso {e : E} (he : SoE e) : SoO (.so e) where
  a := fun {X cl H0 Ew T nm k x} ok h => by
    unfold chkO at h
    split at h
    · refine PO_imp (po_some (he.a (H0 := H0) ok h)) fun σ H Q ⟨Ω, ρ, s, rel, sr, po⟩ => ?_
      have po : Po (bnd (bnd (evE T e ρ) fun d => ret (some d)) asIo s) Ω H _ _ := po
      refine rE_of rel sr po.bnd.bnd fun d s1 Ω1 H1 v rel1 l1 sr1 rv po1 => ?_
      have po2 : Po (asIo (some d) s1) Ω1 H1 _ _ := po1.ret sr1
      cases d with
      | int i =>
        have rv : Rp X.K Ω1 H1 v (.int i) := rv
        cases rv
        exact ⟨i, rfl, Po.ret (a := some i) po2 sr1⟩
      | _ => exact po2.elim
    · cases h
  c := fun {X cl H0 Ew T nm k x} ok h => by
    unfold chkC at h
    split at h
    · refine PTs_imp (pts_one (he.t (H0 := H0) ok h)) fun σ H Q ⟨Ω, ρ, s, rel, sr, po⟩ => ?_
      have po : Po (bnd (evE T e ρ) asB s) Ω H _ _ := po
      refine rT_of rel sr po.bnd fun d s1 Ω1 H1 rel1 l1 sr1 po1 => ?_
      obtain ⟨b, e, q⟩ := po1.asB sr1
      exact ⟨b, e, q⟩
    · cases h
theorem rO_of {W : Vw} {Ew : XK} {Ω : Wd} {ρ : Env} {σ : L2.St} {H : Hp} {s : S} {m : Env → M (Option D)} {Q : Option Int → Hp → Prop} {k : Option Int → S → Wd → Hp → Prop} (rel : Rel W.K W.H0 Ω ρ σ H) (sr : SRel Ω s H) (h : Po (bnd (m ρ) asIo s) Ω H k (kR W Ew))
    (hq : ∀ o s1 Ω1 H1, Rel W.K W.H0 Ω1 ρ σ H1 → Le Ω H Ω1 H1 → SRel Ω1 s1 H1 → k o s1 Ω1 H1 → Q o H1) : rO W Ew m σ H Q :=
  ⟨Ω, ρ, s, rel, sr, h.mono (fun d s1 Ω1 H1 l r q => hq d s1 Ω1 H1 (rel.mono l) l r q) fun _ _ _ _ _ _ z => z⟩
theorem bnd_assoc {α β γ : Type} (x : M α) (f : α → M β) (g : β → M γ) : bnd (bnd x f) g = bnd x fun a => bnd (f a) g := by
  funext s
  unfold bnd
  cases x s <;> rfl
theorem so_slc {a : E} {lo hi : OE} (ha : SoE a) (hl : SoO lo) (hh : SoO hi) : SoE (.slc a lo hi) := so_mk rfl rfl fun {X cl H0 Ew T nm k sh x} ok h => by
  unfold chkE at h
  split at h
  · simp only [Bool.and_eq_true] at h
    obtain ⟨⟨h1, h2⟩, h3⟩ := h
    refine rE_up (PE_imp (pe_slice slc_ok (ha.a (H0 := H0) ok h1) (hl.a (H0 := H0) ok h2) (hh.a (H0 := H0) ok h3)) fun σ H Q ⟨Ω, ρ, s, rel, sr, po⟩ => ?_)
    have po : Po (bnd (evE T a ρ) (fun x => bnd (evO T lo ρ) fun l => bnd (asIo l) fun l => bnd (evO T hi ρ) fun h => bnd (asIo h) fun h => lift (slcD x l h)) s) Ω H _ _ := po
    refine rE_of rel sr po.bnd fun d s1 Ω1 H1 v rel1 l1 sr1 rv po1 => ?_
    rw [← bnd_assoc] at po1
    refine rO_of rel1 sr1 po1.bnd fun l s2 Ω2 H2 rel2 l2 sr2 po2 => ?_
    rw [← bnd_assoc] at po2
    refine rO_of rel2 sr2 po2.bnd fun u s3 Ω3 H3 rel3 l3 sr3 po3 => ?_
    obtain ⟨z, hz, q⟩ := po3.lift
    exact ⟨Ω3, s3, d, z, sr3, Sh.mono (l2.trans l3) rv, hz, q⟩
  · cases h

/-! ### built-in functions -/
theorem bf_ok {X : Cx} (hc : X.calm = true) : ∀ {b : Bf}, bfOn b = true → CallR X (bfV b) (rK X.K (bifD b)) ∧ bfN b ∈ bNames ∧ bootBuiltins (bfN b) = some (bfV b) ∧ ((∃ n, bfV b = .builtin n) ∨ ∃ n, bfV b = .type n)
  | .len, _ => ⟨len_ok, by decide, by decide +kernel, .inl ⟨_, rfl⟩⟩
  | .abs, _ => ⟨abs_ok, by decide, by decide +kernel, .inl ⟨_, rfl⟩⟩
  | .int, _ => ⟨int_ok, by decide, by decide +kernel, .inr ⟨_, rfl⟩⟩
  | .tuple, _ => ⟨tuple_ok, by decide, by decide +kernel, .inr ⟨_, rfl⟩⟩
  | .sum, _ => ⟨sum_ok hc, by decide, by decide +kernel, .inl ⟨_, rfl⟩⟩
  | .max, _ => ⟨max_ok hc, by decide, by decide +kernel, .inl ⟨_, rfl⟩⟩
  | .min, _ => ⟨min_ok hc, by decide, by decide +kernel, .inl ⟨_, rfl⟩⟩
  | .max2, _ => ⟨max2_ok hc, by decide, by decide +kernel, .inl ⟨_, rfl⟩⟩
  | .min2, _ => ⟨min2_ok hc, by decide, by decide +kernel, .inl ⟨_, rfl⟩⟩
  | .all, _ => ⟨all_ok hc, by decide, by decide +kernel, .inl ⟨_, rfl⟩⟩
  | .any, _ => ⟨any_ok hc, by decide, by decide +kernel, .inl ⟨_, rfl⟩⟩
  | .sorted, _ => ⟨sorted_ok, by decide, by decide +kernel, .inl ⟨_, rfl⟩⟩
  | .str, _ => ⟨str_ok, by decide, by decide +kernel, .inr ⟨_, rfl⟩⟩
  | .list, _ => ⟨list_ok, by decide, by decide +kernel, .inr ⟨_, rfl⟩⟩
  | .sortedSet, h => by cases h
  | .lenSet, h => by cases h
theorem so_bif {b : Bf} {es : Es} (hs : SoEs es) : SoE (.bif b es) := so_mk rfl rfl fun {X cl H0 Ew T nm k sh x} ok h => by
  unfold chkE at h
  split at h
  · rename_i f p0 a as p1
    simp only [Bool.and_eq_true, decide_eq_true_eq] at h
    obtain ⟨⟨⟨h1, rfl⟩, h2⟩, h3⟩ := h
    obtain ⟨g1, g2, g3⟩ := gl_of h2
    obtain ⟨c, hb, hv, w⟩ := bf_ok ok.calm h1
    have hm := ok.g.bl _ hb
    have okx := chkEs_ok h3
    have key : PE X (.Call (.Name (bfN b) p0) (a :: as) [] p1) (tCB (rK X.K (bifD b)) (rA (vw X cl H0) Ew true (evEs T es))) := by
      rcases w with ⟨n, w⟩ | ⟨n, w⟩
      · rw [w] at c hv
        exact pe_callB c g1 hm hv (hs.a (H0 := H0) ok h3) g3 g2 (star_of (okx a List.mem_cons_self) as X.env) (stars_of fun y hy => okx y (List.mem_cons_of_mem _ hy))
      · rw [w] at c hv
        exact pe_callTy c g1 hm hv (hs.a (H0 := H0) ok h3) g3 g2 (star_of (okx a List.mem_cons_self) as X.env) (stars_of fun y hy => okx y (List.mem_cons_of_mem _ hy))
    refine rE_up (PE_imp key fun σ H Q ⟨Ω, ρ, s, rel, sr, po⟩ => ?_)
    have po : Po (bnd (evEs T es ρ) (fun ds => lift (bifD b ds)) s) Ω H _ _ := po
    refine rA_of rel sr po.bnd fun ds s1 Ω1 H1 vs rel1 l1 sr1 rvs po1 => ?_
    obtain ⟨z, hz, q⟩ := po1.lift
    exact ⟨Ω1, s1, ds, z, sr1, rvs, hz, q⟩
  · cases h

/-! ### isinstance -/
def tyS : Nat → String
  | 0 => "int"
  | 1 => "bool"
  | 2 => "str"
  | 3 => "tuple"
  | 4 => "list"
  | _ => "NoneType"
theorem ty_of {K : PySem.W.Frag} {Ω : Wd} {H : Hp} {v : V} : ∀ {d : D} {n : Nat}, Sh K Ω H v d → tyOf d = some n → TyX K H v (.type (tyS n)) ∧ (n = 9 ∨ n = 0 ∨ n = 1 ∨ n = 2 ∨ n = 3 ∨ n = 4)
  | .non, n, h, e => by cases e; cases Sh.non h; exact ⟨.base .non, .inl rfl⟩
  | .bl b, n, h, e => by cases e; cases Sh.bl h; exact ⟨.base (.bl b), by simp⟩
  | .int b, n, h, e => by cases e; cases Sh.int h; exact ⟨.base (.int b), by simp⟩
  | .str b, n, h, e => by cases e; rw [(Sh.str h).1]; exact ⟨.base (.str _), by simp⟩
  | .tup b, n, h, e => by
    cases e
    obtain ⟨a, xs, rfl, h1, h2⟩ := Sh.tup h
    refine ⟨?_, by simp⟩
    rcases h1 with h1 | ⟨o, its, n, h1, h2, _⟩
    · rcases h1 with h1 | ⟨o, h1⟩
      · exact .base (.tup h1)
      · exact .fTuple h1
    · exact .kTuple h1 h2
  | .lst b, n, h, e => by
    cases e
    obtain ⟨a, xs, rfl, h0, h1, h2⟩ := h
    exact ⟨.base (.lst h1), by simp⟩
  | .dic _ _, n, h, e => by cases e
  | .cup, n, h, e => by cases e
  | .fn _, n, h, e => by cases e
  | .ty _, n, h, e => by cases e
theorem tyN_of {t : Nat} {z : String} (h : tyN t = some z) : (t = 0 ∧ z = "int") ∨ (t = 1 ∧ z = "bool") ∨ (t = 2 ∧ z = "str") ∨ (t = 3 ∧ z = "tuple") ∨ (t = 4 ∧ z = "list") := by
  unfold tyN at h
  split at h
  · cases h; simp
  · cases h; simp
  · cases h; simp
  · cases h; simp
  · cases h; simp
  · cases h
theorem kit_of' {n t : Nat} {z : String} (hn : n = 9 ∨ n = 0 ∨ n = 1 ∨ n = 2 ∨ n = 3 ∨ n = 4) (h : tyN t = some z) : kitB (tyS n) z = some (n == t || (n == 1 && t == 0)) := by
  rcases tyN_of h with ⟨rfl, rfl⟩ | ⟨rfl, rfl⟩ | ⟨rfl, rfl⟩ | ⟨rfl, rfl⟩ | ⟨rfl, rfl⟩ <;> rcases hn with rfl | rfl | rfl | rfl | rfl | rfl <;> decide +kernel
theorem boot_of {t : Nat} {z : String} (h : tyN t = some z) : bootBuiltins (z : Str) = some (.type z) := by
  rcases tyN_of h with ⟨rfl, rfl⟩ | ⟨rfl, rfl⟩ | ⟨rfl, rfl⟩ | ⟨rfl, rfl⟩ | ⟨rfl, rfl⟩ <;> decide +kernel
theorem so_isi {t : Nat} {a : E} (ha : SoE a) : SoE (.isi t a) := so_mk rfl rfl fun {X cl H0 Ew T nm k sh x} ok h => by
  unfold chkE at h
  split at h
  · rename_i f p0 l y p1 p2
    simp only [Bool.and_eq_true, decide_eq_true_eq] at h
    obtain ⟨⟨⟨⟨⟨rfl, h2⟩, h3⟩, h4⟩, h5⟩, h6⟩ := h
    obtain ⟨z, hz, rfl⟩ := Option.map_eq_some_iff.mp h5
    obtain ⟨g1, g2, g3⟩ := gl_of h2
    obtain ⟨y1, y2, y3⟩ := gl_of h3
    have pa : PA X [l, .Name z p1] (tCons (rE (vw X cl H0) Ew true (evE T a)) (tCons (tC (.ty z)) tNil)) :=
      pa_cons (ha.a ok h6) (pa_cons (pe_bltn y1 (ok.g.bl _ h4) (boot_of hz) rfl y3 y2) pa_nil) (star_of (okX_of h6) _ _)
    refine rE_up (PE_imp (pe_callB call_isi g1 (ok.g.bl _ (by decide)) (by decide +kernel) pa g3 g2 (star_of (okX_of h6) _ _)) fun σ H Q ⟨Ω, ρ, s, rel, sr, po⟩ => ?_)
    have po : Po (bnd (evE T a ρ) (fun x => bnd (lift (isiD t x)) fun k => ret (D.bl k)) s) Ω H _ _ := po
    refine rE_of rel sr po.bnd fun d s1 Ω1 H1 v rel1 l1 sr1 rv po1 => ?_
    obtain ⟨b, hb, q⟩ := po1.bnd.lift
    unfold isiD at hb
    obtain ⟨n, e1, e2⟩ := Option.map_eq_some_iff.mp hb
    obtain ⟨ty, hn⟩ := ty_of rv e1
    refine ⟨v, .ty z, _, _, b, rfl, .ty z, ty, ?_, (q Ω1 H1 (Le.refl _ _) sr1).ret sr1 _ (Rp.bl b)⟩
    rw [← e2]
    exact kit_ty (kit_of' hn hz)
  · cases h

/-! ### calls of defs -/
theorem so_call {n : Nat} {es : Es} (hs : SoEs es) : SoE (.call n es) := so_mk rfl rfl fun {X cl H0 Ew T nm k sh x} ok h => by
  unfold chkE at h
  split at h
  · rename_i f p0 as p1
    simp only [Bool.and_eq_true, decide_eq_true_eq] at h
    obtain ⟨⟨⟨h1, rfl⟩, h2⟩, h3⟩ := h
    obtain ⟨g1, g2, g3⟩ := gl_of h2
    obtain ⟨a, fd, ps, m1, m2, m3, m4, m5⟩ := (ok.g.fn n h1).ex
    have okx := chkEs_ok h3
    have key : PE X (.Call (.Name (nm.fn n) p0) as [] p1) (tCall (spF X.K cl ps.length (T.cf n)) [] Ew (rA (vw X cl H0) Ew false (evEs T es))) := by
      have pa := hs.a (H0 := H0) ok h3
      cases as with
      | nil =>
        refine PE_imp (pe_call0 m4 ok.room g1 m1 m2 m3 .nil ok.ps g2) fun σ H Q hh => ?_
        obtain ⟨Ω, ρ, s, rel, sr, po⟩ := hh
        cases es with
        | cons _ _ => simp [chkEs] at h3
        | nil =>
          have po : Po (ret [] s) Ω H _ _ := po
          exact po.ret sr [] .nil
      | cons y ys => exact pe_call m4 ok.room g1 m1 m2 m3 .nil ok.ps pa g2 (star_of (okx y List.mem_cons_self) ys X.env) (stars_of fun z hz => okx z (List.mem_cons_of_mem _ hz))
    refine rE_up (PE_imp key fun σ H Q ⟨Ω, ρ, s, rel, sr, po⟩ => ?_)
    have po : Po (bnd (evEs T es ρ) (fun ds => T.cf n ds) s) Ω H _ _ := po
    refine rA_of rel sr po.bnd fun ds s1 Ω1 H1 vs rel1 l1 sr1 rvs po1 => ?_
    have hl : ds.length = ps.length := m5 ds s1 fun e => by
      rw [e] at po1; exact po1
    rw [List.append_nil]
    exact ⟨Ω1, s1, ds, hl, sr1, rvs, po1⟩
  · cases h

/-! ### methods -/
theorem rec_of {l : Expr} (h : recB l = true) (f : Str) (env : PySem.Env) : attributeBase l f env (eval l env) = eval l env := by
  cases l <;> first | rfl | cases h
theorem alls_of {pos : Pos} {env : PySem.Env} : ∀ {es : List Expr}, (∀ x ∈ es, okX x = true) → (backTo pos (starEach es env)).all (fun x => !x.1) = true
  | [], _ => rfl
  | x :: es, h => by
    rw [star_of (h x List.mem_cons_self)]
    show (true && (backTo pos (starEach es env)).all (fun x => !x.1)) = true
    rw [alls_of fun y hy => h y (List.mem_cons_of_mem _ hy)]; rfl
theorem so_met {m : Mf} {o : E} {es : Es} (ho : SoE o) (hs : SoEs es) : SoE (.met m o es) := so_mk rfl rfl fun {X cl H0 Ew T nm k sh x} ok h => by
  unfold chkE at h
  split at h
  · rename_i l f apos a as cpos
    simp only [Bool.and_eq_true, decide_eq_true_eq] at h
    obtain ⟨⟨⟨⟨⟨⟨h1, rfl⟩, h2⟩, h3⟩, h4⟩, h5⟩, h6⟩ := h
    have okx := chkEs_ok h6
    have hfew : ((backTo cpos (starEach (a :: as) X.env)).all (fun x => !x.1) && (backToKw cpos (keywordEach [] X.env)).all (fun x => x.1.isSome)
      && decide ((a :: as).length + ([] : List Keyword).length + (if ([] : List Keyword).isEmpty then 0 else 1) < 30)) = true := by
      rw [alls_of okx]
      have : decide ((a :: as).length + ([] : List Keyword).length + (if ([] : List Keyword).isEmpty then 0 else 1) < 30) = true := by
        apply decide_eq_true
        simp only [List.length_cons, List.length_nil, List.isEmpty_nil, if_true]
        omega
      rw [this]; rfl
    have key : ∀ (Ty id : String) (hty : ∀ Ω H v d u, Sh X.K Ω H v d → recD m d = some u → tyV X.K Ty v H) (pa : PlainAttrs Ty) (slot : Slot Ty (mN m) id) (tyo : typeOf (.builtin id) = pure (.type "method_descriptor")) (mt : MtR X id (rMe X.K (metD m))),
        PE X (.Call (.Attribute l (mN m) apos) (a :: as) [] cpos) (tBM X.K Ty (rMe X.K (metD m)) (rE (vw X cl H0) Ew true (evE T o)) (rA (vw X cl H0) Ew true (evEs T es))) :=
      fun Ty id hty pa slot tyo mt => pe_bm pa slot tyo mt (ho.a ok h5) (hs.a ok h6) (rec_of h2 _ _) hfew h3 (star_of (okx a List.mem_cons_self) as X.env) (stars_of fun y hy => okx y (List.mem_cons_of_mem _ hy))
    have imp : ∀ (Ty : String) (hty : ∀ Ω H v d u, Sh X.K Ω H v d → recD m d = some u → tyV X.K Ty v H) σ H Q, rE (vw X cl H0) Ew false (evE T (.met m o es)) σ H Q →
        tBM X.K Ty (rMe X.K (metD m)) (rE (vw X cl H0) Ew true (evE T o)) (rA (vw X cl H0) Ew true (evEs T es)) σ H Q := by
      intro Ty hty σ H Q ⟨Ω, ρ, s, rel, sr, po⟩
      have po : Po (bnd (evE T o ρ) (fun x => bnd (lift (recD m x)) fun _ => bnd (evEs T es ρ) fun ds => lift (metD m x ds)) s) Ω H _ _ := po
      refine rE_of rel sr po.bnd fun d s1 Ω1 H1 v rel1 l1 sr1 rv po1 => ?_
      obtain ⟨u, hu, q1⟩ := po1.bnd.lift
      have po1 := q1 Ω1 H1 (Le.refl _ _) sr1
      refine ⟨hty _ _ _ _ _ rv hu, ?_⟩
      refine rA_of rel1 sr1 po1.bnd fun ds s2 Ω2 H2 vs rel2 l2 sr2 rvs po2 => ?_
      obtain ⟨z, hz, q⟩ := po2.lift
      exact ⟨Ω2, s2, d, ds, z, sr2, Sh.mono l2 rv, rvs, hz, q⟩
    cases m with
    | join =>
      have hty : ∀ Ω H v d u, Sh X.K Ω H v d → recD .join d = some u → tyV X.K "str" v H := by
        intro Ω H v d u hv hm
        cases d with
        | str l => rw [(Sh.str hv).1]; exact rfl
        | _ => cases hm
      exact rE_up (PE_imp (key "str" "str.join" hty PySem.F.plainAttrs_str PySem.F.slot_str_join PySem.F.type_str_join join_ok) (imp "str" hty))
    | count =>
      have hty : ∀ Ω H v d u, Sh X.K Ω H v d → recD .count d = some u → tyV X.K "list" v H := by
        intro Ω H v d u hv hm
        cases d with
        | lst l =>
          obtain ⟨p, vs, rfl, _, hp, r⟩ := hv
          exact .inl ⟨rfl, vs, SqL.of hp⟩
        | _ => cases hm
      exact rE_up (PE_imp (key "list" "list.count" hty PySem.F.plainAttrs_list PySem.F.slot_list_count PySem.F.type_list_count count_ok) (imp "list" hty))
    | upper => cases h1
  · cases h
end PL
end

section
set_option Elab.async false
set_option linter.all false
set_option maxRecDepth 100000
set_option maxHeartbeats 4000000
/-! PL10: what is walked. -/
namespace PL
open PySem PySem.Spec PyProof.Rows L2

/-! ### facts of the invariant -/
def Lens (K : PySem.W.Frag) (H : Hp) : Prop := ∀ a xs, (SqL K H a xs ∨ SqT K H a xs) → xs.length ≤ sizeLine
theorem Lens.of {X : Cx} {pins : List (Addr × Obj)} {σ : L2.St} {H : Hp} {s : Shared} (I : Inv X pins σ H s) : Lens X.K H := fun a xs h => by
  rcases h with h | h
  · obtain ⟨its, rv, p, hz⟩ := I.list h
    have := rv.length; omega
  · obtain ⟨its, rv, p, hz⟩ := I.tuple h
    have := rv.length; omega
theorem pe_lens {X : Cx} {e : Expr} {t : TE} (h : PE X e t) : PE X e (fun σ H Q => t σ H fun v H' => Lens X.K H' → Q v H') := ⟨fun pins s σ H Q I q => thn (h.run pins s σ H _ I q) fun u s1 ⟨v, H', I', r, q'⟩ => ⟨v, H', I', r, q' (Lens.of I')⟩⟩
theorem pa_lens {X : Cx} {e : List Expr} {t : TA} (h : PA X e t) : PA X e (fun σ H Q => t σ H fun v H' => Lens X.K H' → Q v H') := ⟨fun pos pins s σ H Q I q => thn (h.run pos pins s σ H _ I q) fun u s1 ⟨v, H', I', r, q'⟩ => ⟨v, H', I', r, q' (Lens.of I')⟩⟩

/-! ### walks -/
theorem RLe.f {sh : Bool} {Ω Ω' : Wd} {H H' : Hp} (h : RLe sh Ω H Ω' H') : LeF Ω H Ω' H' := by
  cases sh
  · exact h
  · exact Le.f h
theorem WkD.up {W : Vw} {Ω : Wd} {H : Hp} {J : It} {xs : List D} {sh : Bool} (h : WkD W LeF Ω H J xs) : WkD W (RLe sh) Ω H J xs := h.imp fun _ _ _ _ r => r.f
theorem kept_list {K : PySem.W.Frag} {sh : Bool} {Ω : Wd} {H : Hp} {v : V} {ds : List D} (h : RpF sh K Ω H v (.lst ds)) :
    ∃ a vs, v = .ref a ∧ H a = some (.lst vs) ∧ RpA K Ω H vs ds ∧ ∀ Ω' H', RLe sh Ω H Ω' H' → H' a = some (.lst vs) := by
  cases sh
  · have h : Rp K Ω H v (.lst ds) := h
    cases h with
    | lst f e r => exact ⟨_, _, rfl, e, r, fun Ω' H' (l : LeF Ω H Ω' H') => l.keep _ _ f e⟩
  · obtain ⟨a, vs, e1, nc, e, r⟩ := (show Sh K Ω H v (.lst ds) from h)
    exact ⟨a, vs, e1, e, r, fun Ω' H' (l : Le Ω H Ω' H') => l.keep _ _ e fun q => absurd q nc⟩
theorem kept_tup {K : PySem.W.Frag} {sh : Bool} {Ω : Wd} {H : Hp} {v : V} {ds : List D} (h : RpF sh K Ω H v (.tup ds)) :
    ∃ a vs, v = .ref a ∧ SqT K H a vs ∧ RpA K Ω H vs ds := by
  cases sh
  · exact Sh.tup (Rp.sh h)
  · exact Sh.tup h
theorem RpF.str {K : PySem.W.Frag} {sh : Bool} {Ω : Wd} {H : Hp} {v : V} {l : List Nat} (h : RpF sh K Ω H v (.str l)) : v = .str (sS l) ∧ okS l := by
  cases sh
  · exact Sh.str (Rp.sh h)
  · exact Sh.str h
theorem RpF.sh {K : PySem.W.Frag} {sh : Bool} {Ω : Wd} {H : Hp} {v : V} {d : D} (h : RpF sh K Ω H v d) : Sh K Ω H v d := by
  cases sh
  · exact Rp.sh h
  · exact h
section
variable {W : Vw} {Ω : Wd} {H : Hp} {sh : Bool}
theorem wk_lst {a : Addr} {vs : List V} {ds : List D} (hz : vs.length ≤ sizeLine) (r : RpA W.K Ω H vs ds) (k : ∀ Ω' H', RLe sh Ω H Ω' H' → H' a = some (.lst vs)) : WkD W (RLe sh) Ω H (Itl W.K a) ds := by
  have e := r.length
  refine ⟨by omega, fun H' => SqL W.K H' a vs, YAt vs, ?_, fun Ω' H' l => SqL.of (k Ω' H' l), fun i Ωi Hi x H' s hi l sr y => ?_⟩
  · rw [← e]; exact walk_list
  · obtain ⟨rfl, y⟩ := y
    obtain ⟨d, h1, h2⟩ := r.get' y
    exact ⟨Ωi, d, Le.refl _ _, sr, h1, h2.monoF l.f⟩
theorem zipD_len : ∀ xs ys : List D, (zipD xs ys).length = min xs.length ys.length
  | [], _ => by simp [zipD]
  | _ :: _, [] => by simp [zipD]
  | x :: xs, y :: ys => by rw [zipD, List.length_cons, zipD_len xs ys, List.length_cons, List.length_cons]; omega
theorem zipD_get : ∀ {xs ys : List D} {i : Nat} {x y : D}, xs[i]? = some x → ys[i]? = some y → (zipD xs ys)[i]? = some (.tup [x, y])
  | [], _, _, _, _, h, _ => by simp at h
  | _ :: _, [], _, _, _, _, h => by simp at h
  | a :: xs, b :: ys, 0, x, y, h, h2 => by
    simp at h h2; subst h; subst h2; rfl
  | a :: xs, b :: ys, i + 1, x, y, h, h2 => by
    rw [zipD, List.getElem?_cons_succ]
    exact zipD_get (by simpa using h) (by simpa using h2)
theorem enumD_len : ∀ (n : Nat) (xs : List D), (enumD n xs).length = xs.length
  | _, [] => rfl
  | n, x :: xs => by rw [enumD, List.length_cons, enumD_len (n + 1) xs, List.length_cons]
theorem enumD_get : ∀ {n : Nat} {xs : List D} {i : Nat} {x : D}, xs[i]? = some x → (enumD n xs)[i]? = some (.tup [.int ((n + i : Nat) : Int), x])
  | _, [], _, _, h => by simp at h
  | n, a :: xs, 0, x, h => by simp at h; subst h; rfl
  | n, a :: xs, i + 1, x, h => by
    rw [enumD, List.getElem?_cons_succ, enumD_get (n := n + 1) (by simpa using h)]
    rw [show n + 1 + i = n + (i + 1) by omega]
/-- pairs just made -/
theorem wk_pair {J : It} {n : Nat} {G : Hp → Prop} {fx fy : Nat → Option V} {gx gy : Nat → Option D} {ps : List D} (w : Walk J n G (YPair fx fy)) (hn : ps.length = n) (sz : ps.length ≤ sizeLine)
    (hG : ∀ Ω' H', RLe sh Ω H Ω' H' → G H')
    (hx : ∀ i x Ω' H', RLe sh Ω H Ω' H' → fx i = some x → ∃ d, gx i = some d ∧ Rp W.K Ω' H' x d) (hy : ∀ i x Ω' H', RLe sh Ω H Ω' H' → fy i = some x → ∃ d, gy i = some d ∧ Rp W.K Ω' H' x d)
    (hp : ∀ i x y, gx i = some x → gy i = some y → ps[i]? = some (.tup [x, y])) : WkD W (RLe sh) Ω H J ps := by
  refine ⟨sz, G, YPair fx fy, by rw [hn]; exact w, hG, fun i Ωi Hi x H' s hi l sr y => ?_⟩
  obtain ⟨T, u, v, rfl, hT, rfl, e1, e2⟩ := y
  obtain ⟨dx, g1, r1⟩ := hx i u Ωi Hi l e1
  obtain ⟨dy, g2, r2⟩ := hy i v Ωi Hi l e2
  have lu : Le Ωi Hi Ωi (upd Hi T (.tup [u, v])) := Le.upd_new hT
  exact ⟨Ωi, _, lu, sr.upd_new hT, hp i dx dy g1 g2, .tup (SqT.of upd_same) (.cons (r1.mono lu) (.cons (r2.mono lu) .nil))⟩
theorem walk_zipT {K : PySem.W.Frag} {a b : Addr} {xs ys : List V} {n : Nat} (hn : n = min xs.length ys.length) : Walk (RZ.ItzT K a b) n (fun H => SqT K H a xs ∧ SqT K H b ys) (YPair (fun i => xs[i]?) (fun i => ys[i]?)) := by
  subst hn
  refine ⟨fun i _ hi q => ?_, fun _ q => ⟨xs, ys, q.1, q.2, by omega⟩, fun i H v H' _ q y => ?_⟩
  · have h1 : i < xs.length := by omega
    have h2 : i < ys.length := by omega
    exact ⟨xs, ys, xs[i], ys[i], q.1, q.2, by simp [h1], by simp [h2]⟩
  · obtain ⟨T, x, z, h1, h2, h3, h4, h5⟩ := y
    exact ⟨T, x, z, h1, h2, h3, h4 xs q.1, h5 ys q.2⟩
end

/-! ### iterators -/
theorem rI_of {W : Vw} {Ew : XK} {R : Wd → Hp → Wd → Hp → Prop} {Ω : Wd} {ρ : Env} {σ : L2.St} {H : Hp} {s : S} {m : Env → M (List D)} {Q : It → Hp → Prop} {k : List D → S → Wd → Hp → Prop} (rel : Rel W.K W.H0 Ω ρ σ H) (sr : SRel Ω s H) (h : Po (m ρ s) Ω H k (kR W Ew))
    (hq : ∀ xs s1 Ω1 H1 J, Rel W.K W.H0 Ω1 ρ σ H1 → Le Ω H Ω1 H1 → SRel Ω1 s1 H1 → WkD W R Ω1 H1 J xs → k xs s1 Ω1 H1 → Q J H1) : rI W Ew R m σ H Q :=
  ⟨Ω, ρ, s, rel, sr, h.mono (fun xs s1 Ω1 H1 l r q J wk => hq xs s1 Ω1 H1 J (rel.mono l) l r wk q) fun _ _ _ _ _ _ z => z⟩
theorem so_ie {a : E} (ha : SoE a) : SoI (.e a) where
  a := fun {X cl H0 Ew T nm k sh tg x} ok h => by
    have h : chkE X.N nm X.env.scope sh a x = true := by unfold chkI at h; exact h
    refine ⟨⟨fun pins st σ H R I ⟨Ω, ρ, s, rel, sr, po⟩ => ?_⟩, fun env v => fold_of (okX_of h) env v⟩
    have po : Po (bnd (evE T a ρ) (fun x => lift (itemsD x)) s) Ω H _ _ := po
    have pe := pe_lens (ha.a (cl := cl) (H0 := H0) (Ew := Ew) ok h)
    cases e : evE T a ρ s with
    | no =>
      have := po.bnd
      rw [e] at this; exact this.elim
    | er q s' =>
      refine (pi_list pe).run pins st σ H R I ?_
      refine rE_of (W := vw X cl H0) rel sr (po.bnd.with (P := fun _ _ => False) fun a s1 e1 => by rw [e] at e1; cases e1) fun d s1 Ω1 H1 v rel1 l1 sr1 rv po1 => po1.1.elim
    | ok d s' =>
      have po' := po.bnd.with (P := fun a s1 => a = d) fun a s1 e1 => by rw [e] at e1; cases e1; rfl
      cases d with
      | lst ds =>
        refine (pi_list pe).run pins st σ H R I ?_
        refine rE_of (W := vw X cl H0) rel sr po' fun d s1 Ω1 H1 v rel1 l1 sr1 rv po1 => ?_
        obtain ⟨rfl, po1⟩ := po1
        obtain ⟨xs, e2, q⟩ := po1.lift
        cases e2
        obtain ⟨p, vs, rfl, h1, h2, h3⟩ := kept_list rv
        exact fun ln => ⟨p, rfl, ⟨vs, SqL.of h1⟩, q Ω1 H1 (Le.refl _ _) sr1 _ (wk_lst (W := vw X cl H0) (ln p vs (.inl (SqL.of h1))) h2 h3)⟩
      | tup ds =>
        refine (pi_tup pe).run pins st σ H R I ?_
        refine rE_of (W := vw X cl H0) rel sr po' fun d s1 Ω1 H1 v rel1 l1 sr1 rv po1 => ?_
        obtain ⟨rfl, po1⟩ := po1
        obtain ⟨xs, e2, q⟩ := po1.lift
        cases e2
        obtain ⟨p, vs, rfl, h1, h2⟩ := kept_tup rv
        exact fun ln => ⟨p, rfl, ⟨vs, h1⟩, q Ω1 H1 (Le.refl _ _) sr1 _ (wk_tup (W := vw X cl H0) (ln p vs (.inr h1)) h1 h2).up⟩
      | str l =>
        refine (pi_str (ha.a (cl := cl) (H0 := H0) (Ew := Ew) ok h)).run pins st σ H R I ?_
        refine rE_of (W := vw X cl H0) rel sr po' fun d s1 Ω1 H1 v rel1 l1 sr1 rv po1 => ?_
        obtain ⟨rfl, po1⟩ := po1
        obtain ⟨xs, e2, q⟩ := po1.lift
        cases e2
        obtain ⟨rfl, okl⟩ := RpF.str rv
        exact ⟨_, rfl, q Ω1 H1 (Le.refl _ _) sr1 _ (wk_str (W := vw X cl H0) okl).up⟩
      | _ =>
        refine (pi_list pe).run pins st σ H R I ?_
        refine rE_of (W := vw X cl H0) rel sr po' fun d s1 Ω1 H1 v rel1 l1 sr1 rv po1 => ?_
        obtain ⟨rfl, po1⟩ := po1
        obtain ⟨xs, e2, q⟩ := po1.lift
        cases e2
theorem big62 : (BIG : Int) < 2 ^ 62 := by decide
theorem so_ir1 {a : E} (ha : SoE a) : SoI (.r1 a) where
  a := fun {X cl H0 Ew T nm k sh tg x} ok h => by
    unfold chkI at h
    split at h
    · simp only [Bool.and_eq_true, decide_eq_true_eq] at h
      obtain ⟨⟨rfl, h2⟩, h3⟩ := h
      obtain ⟨g1, g2, g3⟩ := gl_of h2
      refine ⟨PI_imp (pi_range1 g1 (ok.g.bl _ (by decide)) (pa_cons (ha.a (H0 := H0) ok h3) pa_nil (star_of (okX_of h3) _ _)) (star_of (okX_of h3) _ _)) fun σ H Q ⟨Ω, ρ, s, rel, sr, po⟩ => ?_, fun _ _ => rfl⟩
      have po : Po (bnd (evE T a ρ) (fun x => bnd (asI x) fun j => if -1000000 ≤ j ∧ j ≤ BIG then ret (rangeD 0 j.toNat) else fail) s) Ω H _ _ := po
      refine rE_of rel sr po.bnd fun d s1 Ω1 H1 v rel1 l1 sr1 rv po1 => ?_
      obtain ⟨j, rfl, q⟩ := po1.bnd.asI sr1
      have rv : Rp X.K Ω1 H1 v (.int j) := rv
      cases rv
      rcases Po.if_ q with ⟨hc, q⟩ | ⟨_, q⟩
      · have b := big62
        exact ⟨j, rfl, by omega, by omega, q.ret sr1 _ (wk_range (W := vw X cl H0) (by omega)).up⟩
      · exact q.elim
    · cases h
theorem so_ir2 {a b : E} (ha : SoE a) (hb : SoE b) : SoI (.r2 a b) where
  a := fun {X cl H0 Ew T nm k sh tg x} ok h => by
    unfold chkI at h
    split at h
    · simp only [Bool.and_eq_true, decide_eq_true_eq] at h
      obtain ⟨⟨⟨rfl, h2⟩, h3⟩, h4⟩ := h
      obtain ⟨g1, g2, g3⟩ := gl_of h2
      refine ⟨PI_imp (pi_range2 g1 (ok.g.bl _ (by decide)) (pa_cons (ha.a (H0 := H0) ok h3) (pa_cons (hb.a (H0 := H0) ok h4) pa_nil (star_of (okX_of h4) _ _)) (star_of (okX_of h3) _ _)) (by rw [star_of (okX_of h3), star_of (okX_of h4)]; rfl) (star_of (okX_of h4) _ _)) fun σ H Q ⟨Ω, ρ, s, rel, sr, po⟩ => ?_, fun _ _ => rfl⟩
      have po : Po (bnd (evE T a ρ) (fun x => bnd (evE T b ρ) fun y => bnd (asI x) fun i => bnd (asI y) fun j =>
        if -1000000 ≤ i ∧ i ≤ 1000000 ∧ -1000000 ≤ j ∧ j ≤ 1000000 ∧ (j - i) ≤ BIG then ret (rangeD i (j - i).toNat) else fail) s) Ω H _ _ := po
      refine rE_of rel sr po.bnd fun d s1 Ω1 H1 v rel1 l1 sr1 rv po1 => ?_
      refine rE_of rel1 sr1 po1.bnd fun d2 s2 Ω2 H2 v2 rel2 l2 sr2 rv2 po2 => ?_
      obtain ⟨i, rfl, q⟩ := po2.bnd.asI sr2
      obtain ⟨j, rfl, q⟩ := q.bnd.asI sr2
      have rv : Rp X.K Ω1 H1 v (.int i) := rv
      have rv2 : Rp X.K Ω2 H2 v2 (.int j) := rv2
      cases rv
      cases rv2
      rcases Po.if_ q with ⟨hc, q⟩ | ⟨_, q⟩
      · exact ⟨i, j, rfl, by omega, q.ret sr2 _ (wk_range (W := vw X cl H0) (by omega)).up⟩
      · exact q.elim
    · cases h
theorem RLe.trans_le {sh : Bool} {Ω Ω1 Ω2 : Wd} {H H1 H2 : Hp} (a : Le Ω H Ω1 H1) (b : RLe sh Ω1 H1 Ω2 H2) : RLe sh Ω H Ω2 H2 := by
  cases sh
  · exact (Le.f a).trans b
  · exact Le.trans a b
theorem so_izp {a b : E} (ha : SoE a) (hb : SoE b) : SoI (.zp a b) where
  a := fun {X cl H0 Ew T nm k sh tg x} ok h => by
    unfold chkI at h
    split at h
    · simp only [Bool.and_eq_true, decide_eq_true_eq] at h
      obtain ⟨⟨⟨⟨ht, rfl⟩, h2⟩, h3⟩, h4⟩ := h
      obtain ⟨g1, g2, g3⟩ := gl_of h2
      cases tg with
      | Tuple elts kk tp =>
        refine ⟨PI_imp (RZ.pi_zipA g1 (ok.g.bl _ (by decide)) (pa_lens (pa_cons (ha.a (H0 := H0) ok h3) (pa_cons (hb.a (H0 := H0) ok h4) pa_nil (star_of (okX_of h4) _ _)) (star_of (okX_of h3) _ _))) (star_of (okX_of h3) _ _) (stars_of fun y hy => by
          cases hy with
          | head => exact okX_of h4
          | tail _ hy => cases hy)) fun σ H Q ⟨Ω, ρ, s, rel, sr, po⟩ => ?_, fun _ _ => rfl⟩
        have po : Po (bnd (evE T a ρ) (fun x => bnd (evE T b ρ) fun y => bnd (lift (zipI x y)) ret) s) Ω H _ _ := po
        refine rE_of rel sr po.bnd fun d s1 Ω1 H1 v rel1 l1 sr1 rv po1 => ?_
        refine rE_of rel1 sr1 po1.bnd fun d2 s2 Ω2 H2 v2 rel2 l2 sr2 rv2 po2 => ?_
        obtain ⟨zs, hz, q⟩ := po2.bnd.lift
        have q := (q Ω2 H2 (Le.refl _ _) sr2).ret sr2
        intro ln
        cases d with
        | lst xs =>
          cases d2 with
          | lst ys =>
            cases hz
            obtain ⟨p, vs, rfl, a1, a2, a3⟩ := kept_list rv
            obtain ⟨p', vs', rfl, b1, b2, b3⟩ := kept_list rv2
            have a1' : H2 p = some (.lst vs) := by
              cases sh
              · exact a3 Ω2 H2 (Le.f l2)
              · exact a3 Ω2 H2 l2
            have e1 := a2.length
            have e2 := b2.length
            refine ⟨p, p', vs, vs', rfl, .inl ⟨SqL.of a1', SqL.of b1, q _ (wk_pair (W := vw X cl H0) (walk_zip (xs := vs) (ys := vs') rfl) (gx := fun i => xs[i]?) (gy := fun i => ys[i]?) (by rw [zipD_len]; omega) ?_ ?_ ?_ ?_ ?_)⟩⟩
            · rw [zipD_len]
              have := ln p vs (.inl (SqL.of a1'))
              omega
            · exact fun Ω' H' l => ⟨SqL.of (a3 Ω' H' (RLe.trans_le l2 l)), SqL.of (b3 Ω' H' l)⟩
            · intro i x Ω' H' l e
              obtain ⟨d, z1, z2⟩ := a2.get' e
              exact ⟨d, z1, z2.monoF ((Le.f l2).trans l.f)⟩
            · intro i x Ω' H' l e
              obtain ⟨d, z1, z2⟩ := b2.get' e
              exact ⟨d, z1, z2.monoF l.f⟩
            · exact fun i x y e1 e2 => zipD_get e1 e2
          | _ => cases hz
        | tup xs =>
          cases d2 with
          | tup ys =>
            cases hz
            obtain ⟨p, vs, rfl, a1, a2⟩ := kept_tup rv
            obtain ⟨p', vs', rfl, b1, b2⟩ := kept_tup rv2
            have a1' := (Le.f l2).sqT a1
            have e1 := a2.length
            have e2 := b2.length
            refine ⟨p, p', vs, vs', rfl, .inr ⟨a1', b1, q _ (wk_pair (W := vw X cl H0) (walk_zipT (xs := vs) (ys := vs') rfl) (gx := fun i => xs[i]?) (gy := fun i => ys[i]?) (by rw [zipD_len]; omega) ?_ ?_ ?_ ?_ ?_)⟩⟩
            · rw [zipD_len]
              have := ln p vs (.inr a1')
              omega
            · exact fun Ω' H' l => ⟨l.f.sqT a1', l.f.sqT b1⟩
            · intro i x Ω' H' l e
              obtain ⟨d, z1, z2⟩ := a2.get' e
              exact ⟨d, z1, z2.monoF ((Le.f l2).trans l.f)⟩
            · intro i x Ω' H' l e
              obtain ⟨d, z1, z2⟩ := b2.get' e
              exact ⟨d, z1, z2.monoF l.f⟩
            · exact fun i x y e1 e2 => zipD_get e1 e2
          | _ => cases hz
        | _ => cases hz
      | _ => cases ht
    · cases h
theorem so_ien {a : E} (ha : SoE a) : SoI (.en a) where
  a := fun {X cl H0 Ew T nm k sh tg x} ok h => by
    unfold chkI at h
    split at h
    · simp only [Bool.and_eq_true, decide_eq_true_eq] at h
      obtain ⟨⟨⟨ht, rfl⟩, h2⟩, h3⟩ := h
      obtain ⟨g1, g2, g3⟩ := gl_of h2
      cases tg with
      | Tuple elts kk tp =>
        refine ⟨PI_imp (pi_enum g1 (ok.g.bl _ (by decide)) (pa_lens (pa_cons (ha.a (H0 := H0) ok h3) pa_nil (star_of (okX_of h3) _ _))) (star_of (okX_of h3) _ _)) fun σ H Q ⟨Ω, ρ, s, rel, sr, po⟩ => ?_, fun _ _ => rfl⟩
        have po : Po (bnd (evE T a ρ) (fun x => bnd (lift (enumI x)) ret) s) Ω H _ _ := po
        refine rE_of rel sr po.bnd fun d s1 Ω1 H1 v rel1 l1 sr1 rv po1 => ?_
        obtain ⟨zs, hz, q⟩ := po1.bnd.lift
        have q := (q Ω1 H1 (Le.refl _ _) sr1).ret sr1
        intro ln
        cases d with
        | lst xs =>
          cases hz
          obtain ⟨p, vs, rfl, a1, a2, a3⟩ := kept_list rv
          have e1 := a2.length
          refine ⟨p, vs, rfl, SqL.of a1, q _ (wk_pair (W := vw X cl H0) (walk_enum (xs := vs)) (gx := fun i => some (.int (i : Nat))) (gy := fun i => xs[i]?) (by rw [enumD_len]; omega) ?_ ?_ ?_ ?_ ?_)⟩
          · rw [enumD_len]
            have := ln p vs (.inl (SqL.of a1))
            omega
          · exact fun Ω' H' l => SqL.of (a3 Ω' H' l)
          · intro i x Ω' H' l e
            cases e
            exact ⟨_, rfl, .int _⟩
          · intro i x Ω' H' l e
            obtain ⟨d, z1, z2⟩ := a2.get' e
            exact ⟨d, z1, z2.monoF l.f⟩
          · intro i x y e1 e2
            cases e1
            have := enumD_get (n := 0) e2
            rwa [Nat.zero_add] at this
        | _ => cases hz
      | _ => cases ht
    · cases h
end PL
end

section
set_option Elab.async false
set_option linter.all false
set_option maxRecDepth 100000
set_option maxHeartbeats 4000000
/-! PL11: targets, comprehensions. -/
namespace PL
open PySem PySem.Spec PyProof.Rows L2

/-! ### targets -/
def setV : List Nat → List V → L2.St → L2.St
  | i :: is, v :: vs, σ => setV is vs (σ.set i (some v))
  | _, _, σ => σ
def gNms : List Nat → TGs
  | [] => gNil
  | i :: is => gCons (gName i) (gNms is)
theorem gNms_of : ∀ {is : List Nat} {vs : List V} {σ : L2.St} {H : Hp} {Q : L2.St → Hp → Prop}, vs.length = is.length → Q (setV is vs σ) H → gNms is vs σ H Q
  | [], [], _, _, _, _, q => ⟨rfl, q⟩
  | [], _ :: _, _, _, _, h, _ => by cases h
  | _ :: _, [], _, _, _, h, _ => by cases h
  | i :: is, v :: vs, σ, H, Q, h, q => ⟨v, vs, rfl, gNms_of (by simpa using h) q⟩
theorem st_of {X : Cx} {cl : Str → Bool} (hf : ∀ x, cl x = true → X.fn x = true) {i : Nat} {x : Str} (h : stB X.N X.env.scope cl i x = true) : X.N[i]? = some x ∧ Loc X.env.scope x ∧ (X.fn x = true ∨ X.env.scope.names.lookup x = some .local) := by
  unfold stB at h
  simp only [Bool.and_eq_true, decide_eq_true_eq] at h
  obtain ⟨h1, h2⟩ := h
  split at h2
  · rename_i e; exact ⟨h1, .inl e, .inr e⟩
  · rename_i e; exact ⟨h1, .inr e, .inl (hf x h2)⟩
  · cases h2
theorem sts_of {X : Cx} {cl : Str → Bool} (hN : X.N.Nodup) (hf : ∀ x, cl x = true → X.fn x = true) : ∀ {is : List Nat} {es : List Expr}, stsB X.N X.env.scope cl is es = true →
    PGs X es (gNms is) ∧ (assignEach es X.env).length = is.length ∧ (assignEach es X.env).findIdx? (·.1) = none
  | [], [], _ => ⟨pgs_nil, rfl, rfl⟩
  | [], _ :: _, h => by simp [stsB] at h
  | i :: is, [], h => by simp [stsB] at h
  | i :: is, e :: es, h => by
    cases e with
    | Name x p =>
      simp only [stsB, Bool.and_eq_true] at h
      obtain ⟨h1, h2, h3⟩ := st_of hf h.1
      obtain ⟨p1, p2, p3⟩ := sts_of hN hf h.2
      refine ⟨pgs_cons (pg_name hN h1 h2 h3) p1, ?_, ?_⟩
      · show (_ :: assignEach es X.env).length = _
        rw [List.length_cons, p2, List.length_cons]
      · show ((false, _) :: assignEach es X.env).findIdx? (·.1) = none
        rw [List.findIdx?_cons, p3]
        rfl
    | _ => simp [stsB] at h
theorem PG_imp {X : Cx} {e : Expr} {t t' : TG} (h : PG X e t) (i : ∀ v σ H Q, t' v σ H Q → t v σ H Q) : PG X e t' := ⟨fun pins s σ H v u Q I r q => h.run pins s σ H v u Q I r (i v σ H Q q)⟩
theorem wipe_set {σ : L2.St} {i : Nat} {v : Option V} : ∀ {vs : List Nat}, i ∈ vs → L2.wipe (σ.set i v) vs = L2.wipe σ vs
  | [], h => by cases h
  | w :: vs, h => by
    unfold L2.wipe
    by_cases e : i ∈ vs
    · rw [wipe_set e]
    · have : i = w := by
        rcases List.mem_cons.mp h with z | z
        · exact z
        · exact absurd z e
      subst this
      have go : ∀ (us : List Nat), i ∉ us → L2.wipe (σ.set i v) us = (L2.wipe σ us).set i v := by
        intro us
        induction us with
        | nil => intro _; rfl
        | cons u us ih =>
          intro hn
          unfold L2.wipe
          rw [ih fun z => hn (List.mem_cons_of_mem _ z), List.set_comm _ _ (show i ≠ u from fun z => hn (by rw [z]; exact List.mem_cons_self))]
      rw [go vs e, List.set_set]
theorem wipe_setV {vs : List Nat} : ∀ {is : List Nat} {xs : List V} {σ : L2.St}, (∀ i ∈ is, i ∈ vs) → L2.wipe (setV is xs σ) vs = L2.wipe σ vs
  | [], _, _, _ => rfl
  | _ :: _, [], _, _ => rfl
  | i :: is, x :: xs, σ, h => by
    unfold setV
    rw [wipe_setV fun j hj => h j (List.mem_cons_of_mem _ hj), wipe_set (h i List.mem_cons_self)]
theorem Rel.setV {K : PySem.W.Frag} {H0 : Hp} {Ω : Wd} {H : Hp} : ∀ {is : List Nat} {vs : List V} {ds : List D} {ρ : Env} {σ : L2.St}, Rel K H0 Ω ρ σ H → RpA K Ω H vs ds → Rel K H0 Ω (setAll is ds ρ) (setV is vs σ) H
  | [], _, _, _, _, r, _ => by unfold setAll PL.setV; exact r
  | _ :: _, _, _, _, _, r, .nil => r
  | i :: is, v :: vs, d :: ds, ρ, σ, r, .cons h t => by
    unfold setAll PL.setV
    exact Rel.setV (r.set h) t
/-- a target takes the data d -/
def rG (W : Vw) (tg : Tg) : TG := fun v σ H Q => ∃ Ω ρ d ρ' s, Rp W.K Ω H v d ∧ asg tg d ρ s = .ok ρ' s ∧
  ∀ σ', (∀ Ω2 H2, LeF Ω H Ω2 H2 → Rel W.K W.H0 Ω2 ρ σ H2 → Rel W.K W.H0 Ω2 ρ' σ' H2) → (∀ vs, (∀ i ∈ tgs tg, i ∈ vs) → L2.wipe σ' vs = L2.wipe σ vs) → Q σ' H
theorem pg_of {X : Cx} {cl : Nat → Value} {H0 : Hp} {cl' : Str → Bool} (hc : X.calm = true) (hN : X.N.Nodup) (hf : ∀ x, cl' x = true → X.fn x = true) : ∀ {tg : Tg} {x : Expr}, tgB X.N X.env.scope cl' tg x = true → PG X x (rG (vw X cl H0) tg)
  | .nm i, x, h => by
    cases x with
    | Name y p =>
      obtain ⟨h1, h2, h3⟩ := st_of hf (show stB _ _ _ i y = true from h)
      refine PG_imp (pg_name hN h1 h2 h3) fun v σ H Q ⟨Ω, ρ, d, ρ', s, rv, ha, q⟩ => ?_
      have ha : ret (ρ.set i (some (.val d))) s = .ok ρ' s := ha
      cases ha
      exact q _ (fun Ω2 H2 l r => r.set (rv.monoF l)) fun vs hv => wipe_set (hv i (by simp [tgs]))
    | _ => simp [tgB] at h
  | .tp is, x, h => by
    cases x with
    | Tuple es k p =>
      obtain ⟨h1, h2, h3⟩ := sts_of hN hf (show stsB _ _ _ is es = true from h)
      refine PG_imp (pg_tup hc h1 rfl h3) fun v σ H Q ⟨Ω, ρ, d, ρ', s, rv, ha, q⟩ => ?_
      cases d with
      | tup ds =>
        have ha : (if ds.length = is.length then ret (setAll is ds ρ) else fail) s = .ok ρ' s := ha
        by_cases e : ds.length = is.length
        · rw [if_pos e] at ha
          cases ha
          obtain ⟨a, xs, rfl, e1, e2⟩ := Sh.tup (Rp.sh rv)
          refine ⟨a, xs, rfl, e1, by rw [h2, ← e, e2.length], gNms_of (by rw [← e, e2.length]) ?_⟩
          exact q _ (fun Ω2 H2 l r => Rel.setV r (e2.monoF l)) fun vs hv => wipe_setV fun i hi => hv i hi
        · rw [if_neg e] at ha; cases ha
      | _ => cases ha
    | _ => simp [tgB] at h

/-! ### outcomes -/
theorem bnd_ok {α β : Type} {x : M α} {f : α → M β} {s s2 : S} {b : β} (h : bnd x f s = .ok b s2) : ∃ a s1, x s = .ok a s1 ∧ f a s1 = .ok b s2 := by
  unfold bnd at h
  cases e : x s with
  | no => rw [e] at h; cases h
  | er _ _ => rw [e] at h; cases h
  | ok a s1 => rw [e] at h; exact ⟨a, s1, rfl, h⟩
theorem nr_ok {α : Type} {x : M α} {s s2 : S} {b : α} (h : nr x s = .ok b s2) : x s = .ok b s2 := by
  unfold nr at h
  cases e : x s with
  | no => rw [e] at h; cases h
  | er _ _ => rw [e] at h; cases h
  | ok a s1 => rw [e] at h; exact h
theorem nr_er {α : Type} {x : M α} {s s2 : S} {q : Er} (h : nr x s = .er q s2) : False := by
  unfold nr at h
  cases e : x s <;> rw [e] at h <;> cases h
theorem asg_same {tg : Tg} {d : D} {ρ ρ' : Env} {s s' : S} (h : asg tg d ρ s = .ok ρ' s') : s' = s := by
  cases tg with
  | nm i => cases h; rfl
  | tp is =>
    cases d with
    | tup ds =>
      have h : (if ds.length = is.length then ret (setAll is ds ρ) else fail) s = .ok ρ' s' := h
      by_cases e : ds.length = is.length
      · rw [if_pos e] at h; cases h; rfl
      · rw [if_neg e] at h; cases h
    | _ => cases h
theorem catM_er {turn : D → M (List D)} (ht : ∀ x s q s', turn x s ≠ .er q s') : ∀ (xs : List D) (s : S) (q : Er) (s' : S), catM turn xs s ≠ .er q s'
  | [], s, q, s', h => by cases h
  | x :: xs, s, q, s', h => by
    have h : bnd (turn x) (fun l => bnd (catM turn xs) fun r => ret (l ++ r)) s = .er q s' := h
    unfold bnd at h
    cases e : turn x s with
    | no => rw [e] at h; cases h
    | er q2 s2 => exact ht x s q2 s2 e
    | ok l s1 =>
      rw [e] at h
      simp only at h
      cases e2 : catM turn xs s1 with
      | no => rw [e2] at h; cases h
      | er q2 s2 => exact catM_er ht xs s1 q2 s2 e2
      | ok r s2 => rw [e2] at h; cases h
theorem catM_cons {turn : D → M (List D)} {x : D} {xs r : List D} {s s2 : S} (h : catM turn (x :: xs) s = .ok r s2) : ∃ l s1 r', turn x s = .ok l s1 ∧ catM turn xs s1 = .ok r' s2 ∧ r = l ++ r' := by
  obtain ⟨l, s1, h1, h2⟩ := bnd_ok (show bnd (turn x) (fun l => bnd (catM turn xs) fun r => ret (l ++ r)) s = .ok r s2 from h)
  obtain ⟨r', s3, h3, h4⟩ := bnd_ok h2
  cases h4
  exact ⟨l, s1, r', h1, h3, rfl⟩
theorem drop_cons {α : Type} {xs : List α} {i : Nat} {x : α} (h : xs[i]? = some x) : xs.drop i = x :: xs.drop (i + 1) := by
  obtain ⟨hi, e⟩ := List.getElem?_eq_some_iff.mp h
  rw [← e, List.drop_eq_getElem_cons hi]
/-- the walk of a comprehension -/
theorem it_gen {J : It} {n : Nat} {G : Hp → Prop} {Y : Nat → Hp → V → Hp → Prop} (w : Walk J n G Y) (Pv : Nat → Hp → Prop) {Hs : Hp} {Qd : Hp → Prop} {B : (Hp → Prop) → V → Hp → Prop} (h0 : Pv 0 Hs) (hG : ∀ i H, i ≤ n → Pv i H → G H)
    (hs : ∀ i x H H', i < n → Pv i H → Y i H x H' → B (Pv (i + 1)) x H') (hd : ∀ H, Pv n H → Qd H) :
    ∃ W : Nat → Nat → Hp → Prop, (∃ m, W 0 m Hs) ∧ ∀ i m H, W i m H → (J.stop i H ∧ Qd H) ∨ (J.go i H ∧ ∃ Nx : Hp → Prop, (∀ H', Nx H' → ∃ m', m' < m ∧ W (i + 1) m' H') ∧ ∀ x H', J.yld i H x H' → B Nx x H') := by
  refine ⟨fun i m H => m = n - i ∧ i ≤ n ∧ Pv i H, ⟨n, by simp, Nat.zero_le _, h0⟩, ?_⟩
  rintro i m H ⟨rfl, hi, p⟩
  have q := hG i H hi p
  by_cases hlt : i < n
  · exact .inr ⟨w.goes i H hlt q, Pv (i + 1), fun H' p' => ⟨n - (i + 1), by omega, rfl, hlt, p'⟩, fun x H' y => hs i x H H' hlt p (w.yields i H x H' hlt q y)⟩
  · have e : i = n := by omega
    subst e
    exact .inl ⟨w.stops H q, hd H p⟩

/-! ### worlds around a growing list -/
section
variable {K : PySem.W.Frag} {Ω Ω' : Wd} {H H' : Hp} {p : Addr} {o : HO}
theorem Le.upd_out (l : Le Ω H Ω' H') (hp : H p = none) : Le Ω H Ω' (upd H' p o) :=
  ⟨l.F, l.new, l.cup, fun a u h c => by rw [upd_ne (ne_of_none h hp)]; exact l.keep a u h c, fun a u h => by
    obtain ⟨v, e⟩ := l.there a u h
    exact ⟨v, by rw [upd_ne (ne_of_none h hp)]; exact e⟩⟩
theorem SRel.upd_own {s : S} (h : SRel Ω s H) (nc : Ω.cup ≠ some p) : SRel Ω s (upd H p o) :=
  h.of rfl (fun a u c e => by rw [upd_ne (fun z => nc (by rw [c, z]))]; exact e) fun a f => there_upd (h.st a f)
end
/-- the growing list -/
structure Gr (K : PySem.W.Frag) (Ω1 : Wd) (H1 : Hp) (p : Addr) (Ω : Wd) (H : Hp) (s : S) (acc : List D) : Prop where
  le : Le Ω1 H1 Ω H
  sr : SRel Ω s H
  nf : ¬ Ω.F p
  nc : Ω.cup ≠ some p
  at_ : ∃ vs, H p = some (.lst vs) ∧ RpA K Ω H vs acc
theorem Gr.mono {K : PySem.W.Frag} {Ω1 Ω Ω' : Wd} {H1 H H' : Hp} {D : Addr} {s s' : S} {acc : List PL.D} (g : Gr K Ω1 H1 D Ω H s acc) (l : Le Ω H Ω' H') (sr : SRel Ω' s' H') : Gr K Ω1 H1 D Ω' H' s' acc := by
  obtain ⟨vs, h1, h2⟩ := g.at_
  refine ⟨g.le.trans l, sr, fun f => ?_, by rw [l.cup]; exact g.nc, vs, l.keep _ _ h1 fun c => absurd c g.nc, h2.mono l⟩
  rcases l.new D f with z | z
  · exact g.nf z
  · rw [h1] at z; cases z
theorem Gr.push {K : PySem.W.Frag} {Ω1 Ω : Wd} {H1 H : Hp} {D : Addr} {s : S} {acc : List PL.D} (g : Gr K Ω1 H1 D Ω H s acc) (hD : H1 D = none) {v : V} {d : PL.D} (r : Rp K Ω H v d) {vs : List V} (h : H D = some (.lst vs)) :
    Gr K Ω1 H1 D Ω (upd H D (.lst (vs ++ [v]))) s (acc ++ [d]) := by
  obtain ⟨ws, h1, h2⟩ := g.at_
  rw [h] at h1
  cases h1
  have lf : LeF Ω H Ω (upd H D (.lst (vs ++ [v]))) := LeF.own g.nf h (noTup_lst h)
  exact ⟨g.le.upd_out hD, g.sr.upd_own g.nc, g.nf, g.nc, _, upd_same, (h2.monoF lf).append (.cons (r.monoF lf) .nil)⟩
theorem pairs_snd (N : List Str) : ∀ is : List Nat, (pairs N is).map (·.2) = is
  | [] => rfl
  | i :: is => by
    show i :: (pairs N is).map (·.2) = _
    rw [pairs_snd N is]
theorem wipe_wipe {σ : L2.St} : ∀ {us vs : List Nat}, (∀ u ∈ us, u ∈ vs) → L2.wipe (L2.wipe σ us) vs = L2.wipe σ vs
  | [], _, _ => rfl
  | u :: us, vs, h => by
    show L2.wipe ((L2.wipe σ us).set u none) vs = _
    rw [wipe_set (h u List.mem_cons_self)]
    exact wipe_wipe fun w hw => h w (List.mem_cons_of_mem _ hw)
theorem mem_slot {is own : List Nat} (h : slotOf is own = true) : ∀ i ∈ is, i ∈ own := by
  unfold slotOf at h
  simpa using h
theorem lc_parts {elt : E} {tg : Tg} {it : I} {c : OE} {own : List Nat} (he : SoE elt) (hi : SoI it) (hc : SoO c) {X : Cx} {cl : Nat → Value} {H0 : Hp} {Ew : XK} {T : Ct} {nm : Nm} {k : Nat} {x : Expr} (ok : XOk X cl Ew T nm k) (h : chkE X.N nm X.env.scope false (.lc elt tg it c own) x = true) :
    PE X x (rF (vw X cl H0) Ew (evE T (.lc elt tg it c own))) ∧ ∀ {i : Nat} {y : Str} {py spos : Pos}, X.N[i]? = some y → X.env.scope.names.lookup y = some .local →
      swapsWith x (some (.Name y py)) spos.line X.env = pure true → PS X (.Assign [.Name y py] x spos) (tAsg (rF (vw X cl H0) Ew (evE T (.lc elt tg it c own))) (gName i)) := by
  unfold chkE at h
  split at h
  · rename_i xe xt xi xc scope pos
    simp only [Bool.and_eq_true] at h
    obtain ⟨⟨⟨⟨⟨h1, h2⟩, h3⟩, h4⟩, h5⟩, h6⟩ := h
    obtain ⟨pi, fo⟩ := hi.a (H0 := H0) ok h2
    have pe := pe_lc (tg := xt) (te := rE (vw X cl H0) E0 false (evE T elt)) (tt := rTs (vw X cl H0) E0 (evTs T c)) (g := rG (vw X cl H0) tg) (pos := pos) ok.calm ok.nd pi (blkOk_by h1)
      (fun s H C cl' fp => pg_of (X := X.blk s H scope (compEnvC scope cl' C X.env) fp) (cl := cl) (H0 := H0) ok.calm ok.nd (fun x hx => hx) h3)
      (fun s H C cl' fp => hc.c (X := X.blk s H scope (compEnvC scope cl' C X.env) fp) (H0 := H0) (ok.blk s H scope _ fp) h5)
      (fun s H C cl' fp => he.a (X := X.blk s H scope (compEnvC scope cl' C X.env) fp) (H0 := H0) (ok.blk s H scope _ fp) h6) (fo X.env)
    have ps := fun {i : Nat} {y : Str} {py spos : Pos} (hy : X.N[i]? = some y) (hl : X.env.scope.names.lookup y = some .local) hsw => ps_setLc (i := i) (y := y) (py := py) (spos := spos) (tg := xt) (te := rE (vw X cl H0) E0 false (evE T elt)) (tt := rTs (vw X cl H0) E0 (evTs T c)) (g := rG (vw X cl H0) tg) (pos := pos) ok.calm ok.nd hy hl hsw pi (blkOk_by h1)
      (fun s H C cl' fp => pg_of (X := X.blk s H scope (compEnvC scope cl' C X.env) fp) (cl := cl) (H0 := H0) ok.calm ok.nd (fun x hx => hx) h3)
      (fun s H C cl' fp => hc.c (X := X.blk s H scope (compEnvC scope cl' C X.env) fp) (H0 := H0) (ok.blk s H scope _ fp) h5)
      (fun s H C cl' fp => he.a (X := X.blk s H scope (compEnvC scope cl' C X.env) fp) (H0 := H0) (ok.blk s H scope _ fp) h6) (fo X.env)
    have imp : ∀ σ H Q, rF (vw X cl H0) Ew (evE T (.lc elt tg it c own)) σ H Q → tLc (rI (vw X cl H0) Ew (RLe true) (evI T it)) (rG (vw X cl H0) tg) (rTs (vw X cl H0) E0 (evTs T c)) (rE (vw X cl H0) E0 false (evE T elt)) ((pairs X.N own).map (·.2)) σ H Q := by
      intro σ H Q ⟨Ω, ρ, s, rel, sr, po⟩
      rw [pairs_snd]
      have po : Po (bnd (evI T it ρ) (fun xs => bnd (catM (fun x => nr (bnd (asg tg x (wipeE ρ own)) fun ρ1 => bnd (evTs T c ρ1) fun k =>
          if k = true then bnd (evE T elt ρ1) fun d => ret [d] else ret [])) xs) fun ys => ret (D.lst ys)) s) Ω H _ _ := po
      refine rI_of rel sr po.bnd fun xs s1 Ω1 H1 J rel1 l1 sr1 wk po1 => ?_
      intro Da hD
      have po2 := po1.bnd
      generalize hturn : (fun x => nr (bnd (asg tg x (wipeE ρ own)) fun ρ1 => bnd (evTs T c ρ1) fun k => if k = true then bnd (evE T elt ρ1) fun d => ret [d] else ret [])) = turn at po2
      cases eo : catM turn xs s1 with
      | no => rw [eo] at po2; exact po2.elim
      | er q s' => exact absurd eo (catM_er (fun x s q s' h => by rw [← hturn] at h; exact nr_er h) xs s1 q s')
      | ok ys s2 =>
        rw [eo] at po2
        obtain ⟨sz, G, Y, w, g, y⟩ := wk
        refine it_gen w (fun i H' => ∃ Ωi si acc, Gr X.K Ω1 H1 Da Ωi H' si acc ∧ acc.length ≤ i ∧ ∃ r, catM turn (xs.drop i) si = .ok r s2 ∧ acc ++ r = ys) ?_ ?_ ?_ ?_
        · exact ⟨Ω1, s1, [], ⟨Le.upd_new hD, sr1.upd_new hD, sr1.nf hD, sr1.ne hD, [], upd_same, .nil⟩, Nat.le_refl _, ys, eo, rfl⟩
        · rintro i H' hi ⟨Ωi, si, acc, gr, _⟩
          exact g Ωi H' gr.le
        · rintro i x Hi H' hlt ⟨Ωi, si, acc, gr, hl, r, hr, hy⟩ hx
          obtain ⟨Ω', d, l', sr', hd, rv⟩ := y i Ωi Hi x H' si hlt gr.le gr.sr hx
          have gr' := gr.mono l' sr'
          rw [drop_cons hd] at hr
          obtain ⟨l, sa, r', ht, hr', rfl⟩ := catM_cons hr
          rw [← hturn] at ht
          obtain ⟨ρ1, sb, ha, hb⟩ := bnd_ok (nr_ok ht)
          have := asg_same ha
          subst this
          obtain ⟨kb, sc, hk, hb⟩ := bnd_ok hb
          have relw : Rel X.K H0 Ω' (wipeE ρ own) (L2.wipe σ own) H' := (Rel.mono rel1 gr'.le).wipe own
          refine ⟨Ω', wipeE ρ own, d, ρ1, sb, rv, ha, fun σ2 hσ hw => ⟨?_, ?_⟩⟩
          · rw [hw own (mem_slot h4)]
            exact wipe_wipe fun _ h => h
          · refine ⟨Ω', ρ1, sb, hσ Ω' H' (LeF.refl _ _) relw, sr', ?_⟩
            rw [hk]
            intro Ω3 H3 l3 sr3
            have gr3 := gr'.mono l3 sr3
            cases kb
            · simp only [Bool.false_eq_true, if_false] at hb ⊢
              cases hb
              exact ⟨Ω3, sa, acc, gr3, by omega, r', hr', by rw [← hy]; rfl⟩
            · simp only [if_true] at hb ⊢
              obtain ⟨d2, sd, he2, hb⟩ := bnd_ok hb
              cases hb
              refine ⟨Ω3, ρ1, sc, (hσ Ω' H' (LeF.refl _ _) relw).mono l3, sr3, ?_⟩
              rw [he2]
              intro Ω4 H4 l4 sr4 v rv4
              have gr4 := gr3.mono l4 sr4
              obtain ⟨vs, hv1, hv2⟩ := gr4.at_
              refine ⟨vs, hv1, ?_, Ω4, sa, acc ++ [d2], gr4.push hD rv4 hv1, ?_, r', hr', ?_⟩
              · rw [hv2.length]
                omega
              · rw [List.length_append]
                simp only [List.length_cons, List.length_nil]
                omega
              · rw [← hy, List.append_assoc]
        · rintro Hn ⟨Ωn, sn, acc, gr, _, r, hr, hy⟩
          rw [List.drop_eq_nil_of_le (Nat.le_refl _)] at hr
          cases hr
          rw [List.append_nil] at hy
          subst hy
          obtain ⟨vs, hv1, hv2⟩ := gr.at_
          exact (po2 Ωn Hn gr.le gr.sr).ret gr.sr Da vs acc rfl gr.nf gr.nc (l1.free hD) hv1 hv2
    exact ⟨PE_imp pe imp, fun hy hl hsw => PS_imp (ps hy hl hsw) fun D σ H q => imp σ H _ q⟩
  · cases h
theorem so_lc {elt : E} {tg : Tg} {it : I} {c : OE} {own : List Nat} (he : SoE elt) (hi : SoI it) (hc : SoO c) : SoE (.lc elt tg it c own) := so_fr rfl (fun T ρ s d s' e => by
    obtain ⟨xs, s1, _, e⟩ := bnd_ok (show bnd (evI T it ρ) _ s = .ok d s' from e)
    obtain ⟨ys, s2, _, e⟩ := bnd_ok e
    cases e
    exact ⟨ys, rfl⟩) (fun {N nm sc sh x} h => by unfold chkE at h ⊢; exact h)
  (fun {X cl H0 Ew T nm k x} ok h => (lc_parts he hi hc ok h).1) (fun _ {X cl H0 Ew T nm k x} ok h => (lc_parts he hi hc ok h).2)
end PL
end

section
set_option Elab.async false
set_option linter.all false
set_option maxRecDepth 100000
set_option maxHeartbeats 4000000
/-! PL12: comprehensions of two clauses; every checked expression. -/
namespace PL
open PySem PySem.Spec PyProof.Rows L2

theorem Gr.lf {K : PySem.W.Frag} {Ω1 Ω : Wd} {H1 H : Hp} {D : Addr} {s : S} {acc : List PL.D} (g : Gr K Ω1 H1 D Ω H s acc) {vs : List V} {o : HO} (h : H D = some (.lst vs)) : LeF Ω H Ω (upd H D o) := LeF.own g.nf h (noTup_lst h)
theorem lc2_parts {elt : E} {tg tg1 : Tg} {it it1 : I} {c c1 : OE} {own own1 : List Nat} (he : SoE elt) (hi : SoI it) (hi1 : SoI it1) (hc : SoO c) (hc1 : SoO c1) {X : Cx} {cl : Nat → Value} {H0 : Hp} {Ew : XK} {T : Ct} {nm : Nm} {k : Nat} {x : Expr} (ok : XOk X cl Ew T nm k) (h : chkE X.N nm X.env.scope false (.lc2 elt tg it c tg1 it1 c1 own own1) x = true) :
    PE X x (rF (vw X cl H0) Ew (evE T (.lc2 elt tg it c tg1 it1 c1 own own1))) ∧ ∀ {i : Nat} {y : Str} {py spos : Pos}, X.N[i]? = some y → X.env.scope.names.lookup y = some .local →
      swapsWith x (some (.Name y py)) spos.line X.env = pure true → PS X (.Assign [.Name y py] x spos) (tAsg (rF (vw X cl H0) Ew (evE T (.lc2 elt tg it c tg1 it1 c1 own own1))) (gName i)) := by
  unfold chkE at h
  split at h
  · rename_i xe xt xi xc xt1 xi1 xc1 scope pos
    simp only [Bool.and_eq_true] at h
    obtain ⟨⟨⟨⟨⟨⟨⟨⟨⟨⟨h1, h2⟩, h3⟩, h4⟩, h5⟩, h6⟩, h7⟩, h8⟩, h9⟩, h10⟩, h11⟩ := h
    obtain ⟨pi, fo⟩ := hi.a (H0 := H0) ok h2
    have okb := fun (s : Shared) (H : Hp) (C : Addr) (cl' : List (Str × Addr)) (fp : List Addr) => ok.blk s H scope (compEnvC scope cl' C X.env) fp
    have fo1 : ∀ env x, foldedSetIterable xi1 env x = pure x := fun env x => by
      cases it1 with
      | e a => exact fold_of (okX_of (show chkE _ _ _ _ a xi1 = true by unfold chkI at h8; exact h8)) env x
      | _ => (unfold chkI at h8; split at h8 <;> first | rfl | cases h8)
    have pe := pe_lc2 (tg := xt) (tg1 := xt1) (te := rE (vw X cl H0) E0 false (evE T elt)) (tt := rTs (vw X cl H0) E0 (evTs T c)) (tt1 := rTs (vw X cl H0) E0 (evTs T c1)) (g := rG (vw X cl H0) tg) (g1 := rG (vw X cl H0) tg1)
      (wi1 := rI (vw X cl H0) E0 (RLe false) (evI T it1)) (vs1 := own1) (pos := pos) ok.calm ok.nd pi (blkOk_by h1)
      (fun i hi => by rw [pairs_snd]; exact mem_slot h5 i hi)
      (fun s H C cl' fp => pg_of (X := X.blk s H scope (compEnvC scope cl' C X.env) fp) (cl := cl) (H0 := H0) ok.calm ok.nd (fun x hx => hx) h3)
      (fun s H C cl' fp => hc.c (X := X.blk s H scope (compEnvC scope cl' C X.env) fp) (H0 := H0) (okb s H C cl' fp) h9)
      (fun s H C cl' fp => (hi1.a (X := X.blk s H scope (compEnvC scope cl' C X.env) fp) (H0 := H0) (okb s H C cl' fp) h8).1)
      (fun s H C cl' fp => pg_of (X := X.blk s H scope (compEnvC scope cl' C X.env) fp) (cl := cl) (H0 := H0) ok.calm ok.nd (fun x hx => hx) h6)
      (fun s H C cl' fp => hc1.c (X := X.blk s H scope (compEnvC scope cl' C X.env) fp) (H0 := H0) (okb s H C cl' fp) h10)
      (fun s H C cl' fp => he.a (X := X.blk s H scope (compEnvC scope cl' C X.env) fp) (H0 := H0) (okb s H C cl' fp) h11) (fo X.env) fo1
    have ps := fun {i : Nat} {y : Str} {py spos : Pos} (hy : X.N[i]? = some y) (hl : X.env.scope.names.lookup y = some .local) hsw => ps_setLc2 (i := i) (y := y) (py := py) (spos := spos) (tg := xt) (tg1 := xt1) (te := rE (vw X cl H0) E0 false (evE T elt)) (tt := rTs (vw X cl H0) E0 (evTs T c)) (tt1 := rTs (vw X cl H0) E0 (evTs T c1)) (g := rG (vw X cl H0) tg) (g1 := rG (vw X cl H0) tg1)
      (wi1 := rI (vw X cl H0) E0 (RLe false) (evI T it1)) (vs1 := own1) (pos := pos) ok.calm ok.nd hy hl hsw pi (blkOk_by h1)
      (fun i hi => by rw [pairs_snd]; exact mem_slot h5 i hi)
      (fun s H C cl' fp => pg_of (X := X.blk s H scope (compEnvC scope cl' C X.env) fp) (cl := cl) (H0 := H0) ok.calm ok.nd (fun x hx => hx) h3)
      (fun s H C cl' fp => hc.c (X := X.blk s H scope (compEnvC scope cl' C X.env) fp) (H0 := H0) (okb s H C cl' fp) h9)
      (fun s H C cl' fp => (hi1.a (X := X.blk s H scope (compEnvC scope cl' C X.env) fp) (H0 := H0) (okb s H C cl' fp) h8).1)
      (fun s H C cl' fp => pg_of (X := X.blk s H scope (compEnvC scope cl' C X.env) fp) (cl := cl) (H0 := H0) ok.calm ok.nd (fun x hx => hx) h6)
      (fun s H C cl' fp => hc1.c (X := X.blk s H scope (compEnvC scope cl' C X.env) fp) (H0 := H0) (okb s H C cl' fp) h10)
      (fun s H C cl' fp => he.a (X := X.blk s H scope (compEnvC scope cl' C X.env) fp) (H0 := H0) (okb s H C cl' fp) h11) (fo X.env) fo1
    have imp : ∀ σ H Q, rF (vw X cl H0) Ew (evE T (.lc2 elt tg it c tg1 it1 c1 own own1)) σ H Q → tLc2 (rI (vw X cl H0) Ew (RLe true) (evI T it)) (rG (vw X cl H0) tg) (rTs (vw X cl H0) E0 (evTs T c)) (rI (vw X cl H0) E0 (RLe false) (evI T it1)) (rG (vw X cl H0) tg1) (rTs (vw X cl H0) E0 (evTs T c1)) (rE (vw X cl H0) E0 false (evE T elt)) ((pairs X.N own).map (·.2)) own1 σ H Q := by
      intro σ H Q ⟨Ω, ρ, s, rel, sr, po⟩
      rw [pairs_snd]
      have po : Po (bnd (evI T it ρ) (fun xs => bnd (catM (fun x => nr (bnd (asg tg x (wipeE ρ own)) fun ρ1 => bnd (evTs T c ρ1) fun k =>
          if k = true then bnd (evI T it1 ρ1) fun zs => catM (fun z => bnd (asg tg1 z (wipeE ρ1 own1)) fun ρ2 => bnd (evTs T c1 ρ2) fun k =>
            if k = true then bnd (evE T elt ρ2) fun d => ret [d] else ret []) zs else ret [])) xs) fun ys => if ys.length ≤ BIG then ret (D.lst ys) else fail) s) Ω H _ _ := po
      refine rI_of rel sr po.bnd fun xs s1 Ω1 H1 J rel1 l1 sr1 wk po1 => ?_
      intro Da hD
      generalize hturn : (fun x => nr (bnd (asg tg x (wipeE ρ own)) fun ρ1 => bnd (evTs T c ρ1) fun k =>
          if k = true then bnd (evI T it1 ρ1) fun zs => catM (fun z => bnd (asg tg1 z (wipeE ρ1 own1)) fun ρ2 => bnd (evTs T c1 ρ2) fun k =>
            if k = true then bnd (evE T elt ρ2) fun d => ret [d] else ret []) zs else ret [])) = turn at po1
      have po2 := po1.bnd
      cases eo : catM turn xs s1 with
      | no => rw [eo] at po2; exact po2.elim
      | er q s' => exact absurd eo (catM_er (fun x s q s' h => by rw [← hturn] at h; exact nr_er h) xs s1 q s')
      | ok ys s2 =>
        rw [eo] at po2
        have big : ys.length ≤ BIG := by
          by_cases q : ys.length ≤ BIG
          · exact q
          · have e2 : bnd (catM turn xs) (fun ys => if ys.length ≤ BIG then ret (D.lst ys) else fail) s1 = .no := by
              unfold bnd
              rw [eo]
              simp only [if_neg q]
              rfl
            rw [e2] at po1
            exact po1.elim
        obtain ⟨sz, G, Y, w, g, y⟩ := wk
        refine it_gen w (fun i H' => ∃ Ωi si acc, Gr X.K Ω1 H1 Da Ωi H' si acc ∧ ∃ r, catM turn (xs.drop i) si = .ok r s2 ∧ acc ++ r = ys) ?_ ?_ ?_ ?_
        · exact ⟨Ω1, s1, [], ⟨Le.upd_new hD, sr1.upd_new hD, sr1.nf hD, sr1.ne hD, [], upd_same, .nil⟩, ys, eo, rfl⟩
        · rintro i H' hi ⟨Ωi, si, acc, gr, _⟩
          exact g Ωi H' gr.le
        · rintro i x Hi H' hlt ⟨Ωi, si, acc, gr, r, hr, hy⟩ hx
          obtain ⟨Ω', d, l', sr', hd, rv⟩ := y i Ωi Hi x H' si hlt gr.le gr.sr hx
          have gr' := gr.mono l' sr'
          rw [drop_cons hd] at hr
          obtain ⟨l, sa, r', ht, hr', rfl⟩ := catM_cons hr
          rw [← hturn] at ht
          obtain ⟨ρ1, sb, ha, hb⟩ := bnd_ok (nr_ok ht)
          have := asg_same ha
          subst this
          obtain ⟨kb, sc, hk, hb⟩ := bnd_ok hb
          have relw : ∀ {Ωj Hj}, Le Ω1 H1 Ωj Hj → Rel X.K H0 Ωj (wipeE ρ own) (L2.wipe σ own) Hj := fun l => (Rel.mono rel1 l).wipe own
          refine ⟨Ω', wipeE ρ own, d, ρ1, sb, rv, ha, fun σ2 hσ hw => ⟨?_, ?_⟩⟩
          · rw [hw own (mem_slot h4)]
            exact wipe_wipe fun _ h => h
          · refine ⟨Ω', ρ1, sb, hσ Ω' H' (LeF.refl _ _) (relw gr'.le), sr', ?_⟩
            rw [hk]
            intro Ω3 H3 l3 sr3
            have gr3 := gr'.mono l3 sr3
            cases kb
            · simp only [Bool.false_eq_true, if_false] at hb ⊢
              cases hb
              exact ⟨Ω3, sa, acc, gr3, r', hr', by rw [← hy]; rfl⟩
            · simp only [if_true] at hb ⊢
              obtain ⟨zs, sd, hz, hb⟩ := bnd_ok hb
              have rel3 := (hσ Ω' H' (LeF.refl _ _) (relw gr'.le)).mono l3
              refine ⟨Ω3, ρ1, sc, rel3, sr3, ?_⟩
              rw [hz]
              intro Ω4 H4 l4 sr4 J1 wk1
              have gr4 := gr3.mono l4 sr4
              have lf4 : LeF Ω' H' Ω4 H4 := (Le.f (l3.trans l4))
              obtain ⟨sz1, G1, Y1, w1, g1, y1⟩ := wk1
              generalize hturn1 : (fun z => bnd (asg tg1 z (wipeE ρ1 own1)) fun ρ2 => bnd (evTs T c1 ρ2) fun k => if k = true then bnd (evE T elt ρ2) fun d => ret [d] else ret []) = turn1 at hb
              refine it_gen w1 (fun j Hj => ∃ Ωj sj accj, Gr X.K Ω1 H1 Da Ωj Hj sj accj ∧ LeF Ω4 H4 Ωj Hj ∧ ∃ q, catM turn1 (zs.drop j) sj = .ok q sa ∧ accj ++ q = acc ++ l) ?_ ?_ ?_ ?_
              · exact ⟨Ω4, sd, acc, gr4, LeF.refl _ _, l, hb, rfl⟩
              · rintro j Hj hj ⟨Ωj, sj, accj, grj, lfj, _⟩
                exact g1 Ωj Hj lfj
              · rintro j x1 Hj Hj' hlt1 ⟨Ωj, sj, accj, grj, lfj, q, hq, hyj⟩ hx1
                obtain ⟨Ω5, d1, l5, sr5, hd1, rv1⟩ := y1 j Ωj Hj x1 Hj' sj hlt1 lfj grj.sr hx1
                have gr5 := grj.mono l5 sr5
                have lf5 : LeF Ω4 H4 Ω5 Hj' := lfj.trans (Le.f l5)
                rw [drop_cons hd1] at hq
                obtain ⟨p, se, q', ht1, hq', rfl⟩ := catM_cons hq
                rw [← hturn1] at ht1
                obtain ⟨ρ2, sf, ha1, hb1⟩ := bnd_ok ht1
                have := asg_same ha1
                subst this
                obtain ⟨kb1, sg, hk1, hb1⟩ := bnd_ok hb1
                have rel5 : Rel X.K H0 Ω5 (wipeE ρ1 own1) (L2.wipe σ2 own1) Hj' := (hσ Ω5 Hj' (lf4.trans lf5) (relw gr5.le)).wipe own1
                refine ⟨Ω5, wipeE ρ1 own1, d1, ρ2, sf, rv1, ha1, fun σ3 hσ3 hw3 => ⟨?_, ?_⟩⟩
                · rw [hw3 own1 (mem_slot h7)]
                  exact wipe_wipe fun _ h => h
                · have rel6 := hσ3 Ω5 Hj' (LeF.refl _ _) rel5
                  refine ⟨Ω5, ρ2, sf, rel6, sr5, ?_⟩
                  rw [hk1]
                  intro Ω6 H6 l6 sr6
                  have gr6 := gr5.mono l6 sr6
                  cases kb1
                  · simp only [Bool.false_eq_true, if_false] at hb1 ⊢
                    cases hb1
                    exact ⟨Ω6, se, accj, gr6, lf5.trans (Le.f l6), q', hq', by rw [← hyj]; rfl⟩
                  · simp only [if_true] at hb1 ⊢
                    obtain ⟨d2, sh', he2, hb1⟩ := bnd_ok hb1
                    cases hb1
                    refine ⟨Ω6, ρ2, sg, rel6.mono l6, sr6, ?_⟩
                    rw [he2]
                    intro Ω7 H7 l7 sr7 v rv7
                    have gr7 := gr6.mono l7 sr7
                    obtain ⟨vs, hv1, hv2⟩ := gr7.at_
                    refine ⟨vs, hv1, ?_, Ω7, se, accj ++ [d2], gr7.push hD rv7 hv1, (lf5.trans (Le.f (l6.trans l7))).trans (gr7.lf hv1), q', hq', ?_⟩
                    · rw [hv2.length]
                      have e1 : ((accj ++ ([d2] ++ q')) ++ r').length ≤ BIG := by rw [hyj, List.append_assoc, hy]; exact big
                      simp only [List.length_append, List.length_cons, List.length_nil] at e1
                      have := big_line
                      omega
                    · rw [← hyj, List.append_assoc]
              · rintro Hn ⟨Ωn, sn, accn, grn, _, q, hq, hyn⟩
                rw [List.drop_eq_nil_of_le (Nat.le_refl _)] at hq
                cases hq
                rw [List.append_nil] at hyn
                exact ⟨Ωn, sa, accn, grn, r', hr', by rw [hyn, List.append_assoc, hy]⟩
        · rintro Hn ⟨Ωn, sn, acc, gr, r, hr, hy⟩
          rw [List.drop_eq_nil_of_le (Nat.le_refl _)] at hr
          cases hr
          rw [List.append_nil] at hy
          subst hy
          obtain ⟨vs, hv1, hv2⟩ := gr.at_
          have po3 : Po ((if acc.length ≤ BIG then ret (D.lst acc) else fail) s2) Ωn Hn (FrK (vw X cl H0) H Q) (kR (vw X cl H0) Ew) := po2 Ωn Hn gr.le gr.sr
          rw [if_pos big] at po3
          exact po3.ret gr.sr Da vs acc rfl gr.nf gr.nc (l1.free hD) hv1 hv2
    exact ⟨PE_imp pe imp, fun hy hl hsw => PS_imp (ps hy hl hsw) fun D σ H q => imp σ H _ q⟩
  · cases h
theorem so_lc2 {elt : E} {tg tg1 : Tg} {it it1 : I} {c c1 : OE} {own own1 : List Nat} (he : SoE elt) (hi : SoI it) (hi1 : SoI it1) (hc : SoO c) (hc1 : SoO c1) : SoE (.lc2 elt tg it c tg1 it1 c1 own own1) := so_fr rfl (fun T ρ s d s' e => by
    obtain ⟨xs, s1, _, e⟩ := bnd_ok (show bnd (evI T it ρ) _ s = .ok d s' from e)
    obtain ⟨ys, s2, _, e⟩ := bnd_ok e
    by_cases q : ys.length ≤ BIG
    · rw [if_pos q] at e; cases e; exact ⟨ys, rfl⟩
    · rw [if_neg q] at e; cases e) (fun {N nm sc sh x} h => by unfold chkE at h ⊢; exact h)
  (fun {X cl H0 Ew T nm k x} ok h => (lc2_parts he hi hi1 hc hc1 ok h).1) (fun _ {X cl H0 Ew T nm k x} ok h => (lc2_parts he hi hi1 hc hc1 ok h).2)

mutual
theorem soE : ∀ e : E, SoE e
  | .non => so_non
  | .bl _ => so_bl
  | .int _ => so_int
  | .str _ => so_str
  | .var _ => so_var
  | .own _ => so_own
  | .glo _ => so_glo
  | .tup es => so_tup (soEs es)
  | .lst es => so_lst (soEs es)
  | .bin _ a b => so_bin (soE a) (soE b)
  | .neg a => so_neg (soE a)
  | .not a => so_not (soE a)
  | .and es => so_and (soEs es)
  | .or es => so_or (soEs es)
  | .ite c a b => so_ite (soE c) (soE a) (soE b)
  | .cmp _ a b => so_cmp (soE a) (soE b)
  | .chn _ _ a b c => so_chn (soE a) (soE b) (soE c)
  | .idx a b => so_idx (soE a) (soE b)
  | .slc a lo hi => so_slc (soE a) (soO lo) (soO hi)
  | .rev a => so_mk rfl rfl fun ok h => by simp [chkE] at h
  | .isi _ a => so_isi (soE a)
  | .bif _ es => so_bif (soEs es)
  | .call _ es => so_call (soEs es)
  | .met _ o es => so_met (soE o) (soEs es)
  | .lc elt _ it c _ => so_lc (soE elt) (soI it) (soO c)
  | .lc2 elt _ it c _ it1 c1 _ _ => so_lc2 (soE elt) (soI it) (soI it1) (soO c) (soO c1)
theorem soO : ∀ o : OE, SoO o
  | .no => so_ono
  | .so e => so_oso (soE e)
theorem soI : ∀ i : I, SoI i
  | .e a => so_ie (soE a)
  | .r1 a => so_ir1 (soE a)
  | .r2 a b => so_ir2 (soE a) (soE b)
  | .zp a b => so_izp (soE a) (soE b)
  | .en a => so_ien (soE a)
theorem soEs : ∀ es : Es, SoEs es
  | .nil => so_nil
  | .cons e es => so_cons (soE e) (soEs es)
end
end PL
end

section
set_option Elab.async false
set_option linter.all false
set_option maxRecDepth 100000
set_option maxHeartbeats 4000000
/-! PL13: which statement of the language is which of Python's; readings of statements. -/
namespace PL
open PySem PySem.Spec PyProof.Rows L2

def tt1 : Str → Bool := fun _ => true
/-- name = [.. for ..] stores swapped -/
def swB (sc : Scope) (x : Expr) (y : Str) (py : Pos) : Bool := match x with
  | .ListComp _ _ s vp => sc.names.lookup y == some .local && py.line == vp.line && !(s.names.any fun (n, k) => n == y && (k == .local || k == .cell))
  | _ => false
def isTupX : Expr → Bool
  | .Tuple _ _ _ => true
  | _ => false
def locsB (N : List Str) (sc : Scope) : List (Nat × Bool) → List Expr → Bool
  | [], [] => true
  | (i, _) :: is, .Name x _ :: es => decide (N[i]? = some x) && (sc.names.lookup x == some .local) && locsB N sc is es
  | _, _ => false
/-- the flags: which are new lists -/
def frsB : List (Nat × Bool) → Es → Bool
  | [], .nil => true
  | (_, b) :: is, .cons e es => (!b || isFr e) && frsB is es
  | _, _ => false
def nmsOf (sc : Scope) (line : Nat) (ts : List Expr) : List Str := ts.filterMap fun
  | .Name id pos => if sc.names.lookup id == some .local && pos.line == line then some id else none
  | _ => none
/-- a, b = x, y stores swapped -/
def parSw (sc : Scope) (ts vs : List Expr) : Bool := (ts.length == 2 || ts.length == 3) && vs.length == ts.length && (nmsOf sc ((ts.head?.map (·.pos.line)).getD 0) ts).length == ts.length
  && (nmsOf sc ((ts.head?.map (·.pos.line)).getD 0) ts).eraseDups.length == (nmsOf sc ((ts.head?.map (·.pos.line)).getD 0) ts).length && !(vs.all (foldedForSure 8)) && !(vs.all (constantsAlone 8))
def parNo (sc : Scope) (ts vs : List Expr) : Bool := !(ts.length == 2 || ts.length == 3) || (vs.length == ts.length && ((nmsOf sc ((ts.head?.map (·.pos.line)).getD 0) ts).length != ts.length
  || ((nmsOf sc ((ts.head?.map (·.pos.line)).getD 0) ts).eraseDups.length == (nmsOf sc ((ts.head?.map (·.pos.line)).getD 0) ts).length && vs.all (foldedForSure 8))))
mutual
def chkS (N : List Str) (nm : Nm) (sc : Scope) : C → Stmt → Bool
  | .set i e, st => match st with
    | .Assign [.Name y py] v _ => stB N sc tt1 i y && chkE N nm sc false e v
    | _ => false
  | .setO i e, st => match st with
    | .Assign [.Name y py] v _ => isFr e && stB N sc tt1 i y && chkE N nm sc false e v
    | _ => false
  | .unp is e, st => match st with
    | .Assign [.Tuple es k p] v _ => !isTupX v && stsB N sc tt1 is es && chkE N nm sc false e v
    | _ => false
  | .par is es, st => match st with
    | .Assign [.Tuple ts _ _] (.Tuple vs _ _) _ => decide (is.map (·.1)).Nodup && frsB is es && chkEs N nm sc false es vs && stsB N sc tt1 (is.map (·.1)) ts && decide (vs.length ≤ 1000) && ((parSw sc ts vs && locsB N sc is ts) || parNo sc ts vs)
    | _ => false
  | .aug i o e, st => match st with
    | .AugAssign (.Name y _) op v _ => decide (op = opB o) && stB N sc tt1 i y && chkE N nm sc false e v
    | _ => false
  | .app i e, st => match st with
    | .Expr (.Call (.Attribute (.Name y _) a apos) [v] [] cpos) _ => slB N sc i y && decide (a = "append") && (apos.endLine == cpos.line) && chkE N nm sc false e v
    | _ => false
  | .setI i k e, st => match st with
    | .Assign [.Subscript (.Name y _) x _] v _ => slB N sc i y && chkE N nm sc false k x && chkE N nm sc false e v
    | _ => false
  | .cupS i k e, st => match st with
    | .Assign [.Subscript (.Name y _) x _] v _ => slB N sc i y && chkE N nm sc false k x && chkE N nm sc false e v
    | _ => false
  | .exp e, st => match st with
    | .Expr v _ => !isLc e && chkE N nm sc false e v
    | _ => false
  | .ret e, st => match st with
    | .Return (some v) _ => chkE N nm sc false e v
    | _ => false
  | .retN, st => match st with
    | .Return none _ => true
    | _ => false
  | .ifs c a b, st => match st with
    | .If x u v _ => chkE N nm sc false c x && chkSs N nm sc a u && chkSs N nm sc b v
    | _ => false
  | .for_ tg it b, st => match st with
    | .For t x u [] _ => tgB N sc tt1 tg t && chkI N nm sc false (isTupE t) it x && chkSs N nm sc b u
    | _ => false
  | .whl c b, st => match st with
    | .While x u [] _ => chkE N nm sc false c x && chkSs N nm sc b u
    | _ => false
  | .rse _ _, _ => false
  | .frz _, _ => false
  | .pass, st => match st with
    | .Pass _ => true
    | _ => false
  | .nev, _ => true
def chkSs (N : List Str) (nm : Nm) (sc : Scope) : Cs → List Stmt → Bool
  | .nil, sts => match sts with
    | [] => true
    | _ => false
  | .cons (.frz _) cs, sts => chkSs N nm sc cs sts
  | .cons c cs, sts => match sts with
    | st :: sts => chkS N nm sc c st && chkSs N nm sc cs sts
    | _ => false
end

/-! ### what is wanted behind statements -/
def Pf (Ω0 : Wd) (H0 : Hp) (cl : Nat → Value) (Ew : XK) (o : Out Fl) (Ω : Wd) (H : Hp) (nx : Env → S → Wd → Hp → Prop) (rt : D → S → Wd → Hp → Prop) : Prop := match o with
  | .ok (.nx ρ) s' => ∀ Ω' H', Le Ω0 H0 Ω' H' → LeF Ω H Ω' H' → SRel Ω' s' H' → nx ρ s' Ω' H'
  | .ok (.rt d) s' => ∀ Ω' H', Le Ω0 H0 Ω' H' → LeF Ω H Ω' H' → SRel Ω' s' H' → rt d s' Ω' H'
  | .er e s' => ∀ Ω' H', Le Ω0 H0 Ω' H' → SRel Ω' s' H' → ErW cl e Ew H'
  | .no => False
section
variable {Ω0 : Wd} {H0 : Hp} {cl : Nat → Value} {Ew : XK} {Ω Ω1 : Wd} {H H1 : Hp} {nx nx' : Env → S → Wd → Hp → Prop} {rt rt' : D → S → Wd → Hp → Prop}
theorem Pf.lf {o : Out Fl} (h : Pf Ω0 H0 cl Ew o Ω H nx rt) (l : LeF Ω H Ω1 H1) : Pf Ω0 H0 cl Ew o Ω1 H1 nx rt := by
  cases o with
  | ok f s =>
    cases f with
    | nx ρ => exact fun Ω' H' a b c => h Ω' H' a (l.trans b) c
    | rt d => exact fun Ω' H' a b c => h Ω' H' a (l.trans b) c
  | er e s => exact h
  | no => exact h
theorem Pf.imp {o : Out Fl} (h : Pf Ω0 H0 cl Ew o Ω H nx rt) (hn : ∀ ρ s Ω' H', Le Ω0 H0 Ω' H' → LeF Ω H Ω' H' → SRel Ω' s H' → nx ρ s Ω' H' → nx' ρ s Ω' H') (hr : ∀ d s Ω' H', Le Ω0 H0 Ω' H' → LeF Ω H Ω' H' → SRel Ω' s H' → rt d s Ω' H' → rt' d s Ω' H') : Pf Ω0 H0 cl Ew o Ω H nx' rt' := by
  cases o with
  | ok f s =>
    cases f with
    | nx ρ => exact fun Ω' H' a b c => hn _ _ _ _ a b c (h Ω' H' a b c)
    | rt d => exact fun Ω' H' a b c => hr _ _ _ _ a b c (h Ω' H' a b c)
  | er e s => exact h
  | no => exact h
theorem Pf.bndE {W : Vw} {α : Type} {x : M α} {f : α → M Fl} {s : S} (h : Pf Ω0 H0 W.cl Ew (bnd x f s) Ω H nx rt) (l0 : Le Ω0 H0 Ω H) : Po (x s) Ω H (fun a s1 Ω1 H1 => Pf Ω0 H0 W.cl Ew (f a s1) Ω1 H1 nx rt) (kR W Ew) := by
  unfold bnd at h
  cases e : x s with
  | no => rw [e] at h; exact h
  | er q s' => rw [e] at h; exact fun Ω' H' l r => h Ω' H' (l0.trans l) r
  | ok a s' => rw [e] at h; exact fun Ω' H' l r => Pf.lf h (Le.f l)
theorem Pf.toNx {ρ : Env} {s : S} (h : Pf Ω0 H0 cl Ew (ret (.nx ρ) s) Ω H nx rt) (l0 : Le Ω0 H0 Ω H) (sr : SRel Ω s H) : nx ρ s Ω H := h Ω H l0 (LeF.refl _ _) sr
theorem Pf.toRt {d : D} {s : S} (h : Pf Ω0 H0 cl Ew (ret (.rt d) s) Ω H nx rt) (l0 : Le Ω0 H0 Ω H) (sr : SRel Ω s H) : rt d s Ω H := h Ω H l0 (LeF.refl _ _) sr
/-- a bind to a flow -/
theorem Pf.seq {x : M Fl} {g : Env → M Fl} {s : S} (h : Pf Ω0 H0 cl Ew (bnd x (fun f => match f with | .nx ρ => g ρ | .rt d => PL.ret (.rt d)) s) Ω H nx rt) :
    Pf Ω0 H0 cl Ew (x s) Ω H (fun ρ s1 Ω1 H1 => Pf Ω0 H0 cl Ew (g ρ s1) Ω1 H1 nx rt) rt := by
  unfold bnd at h
  cases e : x s with
  | no => rw [e] at h; exact h
  | er q s' => rw [e] at h; exact h
  | ok f s' =>
    rw [e] at h
    cases f with
    | nx ρ => exact fun Ω' H' a b c => Pf.lf h b
    | rt d => exact h
end
/-- a statement's reading; Ω0, W.H0: the body's entry -/
def rS (W : Vw) (Ω0 : Wd) (Ew : XK) (m : Env → M Fl) : TS := fun D σ H => ∃ Ω ρ s, Le Ω0 W.H0 Ω H ∧ Rel W.K W.H0 Ω ρ σ H ∧ SRel Ω s H ∧
  Pf Ω0 W.H0 W.cl Ew (m ρ s) Ω H (fun ρ' _ Ω' H' => ∀ σ', Rel W.K W.H0 Ω' ρ' σ' H' → D.nx σ' H') (fun d _ Ω' H' => ∀ v, Rp W.K Ω' H' v d → D.rt v H')
structure SOk (X : Cx) (cl : Nat → Value) (Ew : XK) (T : Ct) (nm : Nm) (k : Nat) : Prop where
  x : XOk X cl Ew T nm k
  own : PassesOwn (model X.prog X.w) X.A X.env X.xe
  fn : ∀ x, X.fn x = true
  kind : X.env.scope.kind = .function
  tk : Takes X (fun cls d _ H => Ew cls d H)
structure SoC (c : C) : Prop where
  a : ∀ {X : Cx} {cl : Nat → Value} {Ω0 : Wd} {H0 : Hp} {Ew : XK} {T : Ct} {nm : Nm} {k : Nat} {st : Stmt}, SOk X cl Ew T nm k → chkS X.N nm X.env.scope c st = true → PS X st (rS (vw X cl H0) Ω0 Ew (evC T c))
structure SoCs (cs : Cs) : Prop where
  a : ∀ {X : Cx} {cl : Nat → Value} {Ω0 : Wd} {H0 : Hp} {Ew : XK} {T : Ct} {nm : Nm} {k : Nat} {sts : List Stmt}, SOk X cl Ew T nm k → chkSs X.N nm X.env.scope cs sts = true → PSs X sts (rS (vw X cl H0) Ω0 Ew (evCs T cs))

/-! ### simple statements -/
theorem sc_nev : SoC .nev where
  a := fun {X cl Ω0 H0 Ew T nm k st} ok h => PS_imp ps_never fun D σ H ⟨_, _, _, _, _, _, po⟩ => po
theorem sc_pass : SoC .pass where
  a := fun {X cl Ω0 H0 Ew T nm k st} ok h => by
    unfold chkS at h
    split at h
    · refine PS_imp ps_pass fun D σ H ⟨Ω, ρ, s, l0, rel, sr, po⟩ => ?_
      exact Pf.toNx po l0 sr σ rel
    · cases h
theorem sc_retN : SoC .retN where
  a := fun {X cl Ω0 H0 Ew T nm k st} ok h => by
    unfold chkS at h
    split at h
    · refine PS_imp ps_retN fun D σ H ⟨Ω, ρ, s, l0, rel, sr, po⟩ => ?_
      exact Pf.toRt (d := .non) po l0 sr .non .non
    · cases h
theorem sc_ret {e : E} : SoC (.ret e) where
  a := fun {X cl Ω0 H0 Ew T nm k st} ok h => by
    unfold chkS at h
    split at h
    · refine PS_imp (ps_ret ((soE e).a (H0 := H0) ok.x h)) fun D σ H ⟨Ω, ρ, s, l0, rel, sr, po⟩ => ?_
      have po : Pf Ω0 H0 cl Ew (bnd (evE T e ρ) (fun d => ret (.rt d)) s) Ω H _ _ := po
      refine rE_of rel sr (po.bndE (W := vw X cl H0) l0) fun d s1 Ω1 H1 v rel1 l1 sr1 rv po1 => ?_
      exact po1.toRt (l0.trans l1) sr1 v rv
    · cases h
theorem sc_exp {e : E} : SoC (.exp e) where
  a := fun {X cl Ω0 H0 Ew T nm k st} ok h => by
    unfold chkS at h
    split at h
    · rename_i v pos
      simp only [Bool.and_eq_true, Bool.not_eq_true'] at h
      have hs : swapsWith v none pos.line X.env = pure false := by
        cases v <;> first | rfl | (exfalso; obtain ⟨h1, h2⟩ := h; cases e <;> first | (simp [chkE] at h2; done) | cases h1)
      refine PS_imp (ps_expr ((soE e).a (H0 := H0) ok.x h.2) hs) fun D σ H ⟨Ω, ρ, s, l0, rel, sr, po⟩ => ?_
      have po : Pf Ω0 H0 cl Ew (bnd (evE T e ρ) (fun d => ret (.nx ρ)) s) Ω H _ _ := po
      refine rE_of rel sr (po.bndE (W := vw X cl H0) l0) fun d s1 Ω1 H1 v rel1 l1 sr1 rv po1 => ?_
      exact po1.toNx (l0.trans l1) sr1 σ rel1
    · cases h
theorem sc_ifs {c : E} {a b : Cs} (ha : SoCs a) (hb : SoCs b) : SoC (.ifs c a b) where
  a := fun {X cl Ω0 H0 Ew T nm k st} ok h => by
    unfold chkS at h
    split at h
    · simp only [Bool.and_eq_true] at h
      obtain ⟨⟨h1, h2⟩, h3⟩ := h
      refine PS_imp (ps_if ((soE c).t (H0 := H0) ok.x h1) (ha.a (Ω0 := Ω0) (H0 := H0) ok h2) (hb.a (Ω0 := Ω0) (H0 := H0) ok h3)) fun D σ H ⟨Ω, ρ, s, l0, rel, sr, po⟩ => ?_
      have po : Pf Ω0 H0 cl Ew (bnd (evE T c ρ) (fun x => bnd (asB x) fun k => if k = true then evCs T a ρ else evCs T b ρ) s) Ω H _ _ := po
      refine rT_of rel sr (po.bndE (W := vw X cl H0) l0) fun d s1 Ω1 H1 rel1 l1 sr1 po1 => ?_
      obtain ⟨k, rfl, q⟩ := (po1.bndE (W := vw X cl H0) (l0.trans l1)).asB sr1
      refine ⟨k, rfl, ?_⟩
      cases k
      · exact ⟨Ω1, ρ, s1, l0.trans l1, rel1, sr1, q⟩
      · exact ⟨Ω1, ρ, s1, l0.trans l1, rel1, sr1, q⟩
    · cases h
theorem sw_eq {env : PySem.Env} (hk : env.scope.kind = .function) {N : List Str} {nm : Nm} {sh : Bool} {e : E} {x : Expr} (h : chkE N nm env.scope sh e x = true) (y : Str) (py : Pos) (l : Nat) : swapsWith x (some (.Name y py)) l env = pure (swB env.scope x y py) := by
  have hb : env.blockKind = .function := by unfold Env.blockKind; rw [hk]; rfl
  cases x with
  | ListComp elt gs scope pos =>
    have e1 : env.kindOf y = env.scope.names.lookup y := rfl
    unfold swapsWith swB
    simp only [hb, e1, Expr.pos]
    rfl
  | SetComp _ _ _ _ => cases e <;> simp [chkE] at h
  | DictComp _ _ _ _ _ => cases e <;> simp [chkE] at h
  | _ => rfl
theorem lc_of {N : List Str} {nm : Nm} {sc : Scope} {sh : Bool} {e : E} {x : Expr} (h : chkE N nm sc sh e x = true) {y : Str} {py : Pos} (hs : swB sc x y py = true) : isLc e = true ∧ sc.names.lookup y = some .local := by
  unfold swB at hs
  cases x with
  | ListComp elt gs scope pos =>
    simp only [Bool.and_eq_true] at hs
    exact ⟨by cases e <;> first | rfl | (simp [chkE] at h; done), eq_of_beq hs.1.1⟩
  | _ => cases hs
theorem rF_of {W : Vw} {Ew : XK} {sh : Bool} {m : Env → M D} (hl : ∀ ρ s d s', m ρ s = .ok d s' → ∃ ds, d = .lst ds) {σ : L2.St} {H : Hp} {Q : VK} (h : rE W Ew sh m σ H Q) : rF W Ew m σ H Q := by
  obtain ⟨Ω, ρ, s, rel, sr, q⟩ := h
  refine ⟨Ω, ρ, s, rel, sr, ?_⟩
  cases e : m ρ s with
  | no => rw [e] at q; exact q
  | er q' s' => rw [e] at q; exact q
  | ok d s' =>
    rw [e] at q
    intro Ω1 H1 l r p vs ds ed nf nc hp hp1 ra
    subst ed
    have l2 : Le Ω H (Ω1.add p nc) H1 := ⟨fun a f => .inl (l.F a f), fun a f => by
      rcases f with f | f
      · exact l.new a f
      · right; rw [f]; exact hp, l.cup, l.keep, l.there⟩
    have l3 : LeF Ω1 H1 (Ω1.add p nc) H1 := ⟨fun a f => .inl f, rfl, fun _ _ _ h => h, fun _ _ h => h⟩
    exact q _ _ l2 (r.of rfl (fun _ _ _ h => h) fun a f => f.elim (r.st a) fun z => by rw [z]; exact ⟨_, hp1⟩) _ ((Rp.lst (show (Ω1.add p nc).F p from Or.inr rfl) hp1 (ra.monoF l3)).f sh)
theorem fr_lst {e : E} (h : isFr e = true) (T : Ct) (ρ : Env) (s : S) (d : D) (s' : S) (he : evE T e ρ s = .ok d s') : ∃ ds, d = .lst ds := by
  cases e with
  | lst es =>
    obtain ⟨ds, s1, _, e⟩ := bnd_ok (show bnd (evEs T es ρ) (fun ds => ret (D.lst ds)) s = .ok d s' from he)
    cases e; exact ⟨ds, rfl⟩
  | lc elt tg it c own =>
    obtain ⟨xs, s1, _, e⟩ := bnd_ok (show bnd (evI T it ρ) _ s = .ok d s' from he)
    obtain ⟨ys, s2, _, e⟩ := bnd_ok e
    cases e
    exact ⟨ys, rfl⟩
  | lc2 elt tg it c tg1 it1 c1 own own1 =>
    obtain ⟨xs, s1, _, e⟩ := bnd_ok (show bnd (evI T it ρ) _ s = .ok d s' from he)
    obtain ⟨ys, s2, _, e⟩ := bnd_ok e
    by_cases q : ys.length ≤ BIG
    · rw [if_pos q] at e; cases e; exact ⟨ys, rfl⟩
    · rw [if_neg q] at e; cases e
  | _ => cases h
theorem lc_fr {e : E} (h : isLc e = true) : isFr e = true := by cases e <;> first | rfl | cases h
theorem set_ps {e : E} {X : Cx} {cl : Nat → Value} {H0 : Hp} {Ew : XK} {T : Ct} {nm : Nm} {k : Nat} {i : Nat} {y : Str} {py pos : Pos} {v : Expr} (ok : SOk X cl Ew T nm k) (h1 : stB X.N X.env.scope tt1 i y = true) (h2 : chkE X.N nm X.env.scope false e v = true) :
    PS X (.Assign [.Name y py] v pos) (tAsg (rE (vw X cl H0) Ew false (evE T e)) (gName i)) ∧ (isFr e = true → PS X (.Assign [.Name y py] v pos) (tAsg (rF (vw X cl H0) Ew (evE T e)) (gName i))) := by
  obtain ⟨a1, a2, a3⟩ := st_of (X := X) (fun x _ => ok.fn x) h1
  cases hs : swB X.env.scope v y py with
  | true =>
    obtain ⟨b1, b2⟩ := lc_of h2 hs
    have p := (soE e).sw b1 (H0 := H0) ok.x h2 (spos := pos) a1 b2 (by rw [sw_eq ok.kind h2, hs])
    exact ⟨PS_imp p fun D σ H q => rF_of (fr_lst (lc_fr b1) T) q, fun _ => p⟩
  | false =>
    have hw : swapsWith v (some (.Name y py)) pos.line X.env = pure false := by rw [sw_eq ok.kind h2, hs]
    exact ⟨ps_set ok.x.nd a1 a2 ((soE e).a ok.x h2) hw a3, fun hf => ps_set ok.x.nd a1 a2 ((soE e).f hf ok.x h2) hw a3⟩
theorem sc_set {i : Nat} {e : E} : SoC (.set i e) where
  a := fun {X cl Ω0 H0 Ew T nm k st} ok h => by
    unfold chkS at h
    split at h
    · simp only [Bool.and_eq_true] at h
      refine PS_imp (set_ps (H0 := H0) ok h.1 h.2).1 fun D σ H ⟨Ω, ρ, s, l0, rel, sr, po⟩ => ?_
      have po : Pf Ω0 H0 cl Ew (bnd (evE T e ρ) (fun d => ret (.nx (ρ.set i (some (.val d))))) s) Ω H _ _ := po
      refine rE_of rel sr (po.bndE (W := vw X cl H0) l0) fun d s1 Ω1 H1 v rel1 l1 sr1 rv po1 => ?_
      exact po1.toNx (l0.trans l1) sr1 _ (rel1.set rv)
    · cases h
/-- own slots stand at addresses that stood -/
theorem own_ne {K : PySem.W.Frag} {H0 : Hp} {Ω : Wd} {H : Hp} {ρ : Env} {σ : L2.St} (rel : Rel K H0 Ω ρ σ H) {p : Addr} (hp : H p = none) (j : Nat) (sj : Sl) (h : ρ[j]? = some (some sj)) (o : sj.isOwn = true) : σ[j]? ≠ some (some (.ref p)) := fun e => by
  obtain ⟨v, h1, h2⟩ := rel.at_ j sj h
  rw [e] at h1
  cases h1
  obtain ⟨a, ob, e2, _, e3⟩ := h2.ref o
  cases e2
  rw [hp] at e3; cases e3
theorem sc_setO {i : Nat} {e : E} : SoC (.setO i e) where
  a := fun {X cl Ω0 H0 Ew T nm k st} ok h => by
    unfold chkS at h
    split at h
    · simp only [Bool.and_eq_true] at h
      obtain ⟨⟨hf, h1⟩, h2⟩ := h
      refine PS_imp ((set_ps (H0 := H0) ok h1 h2).2 hf) fun D σ H ⟨Ω, ρ, s, l0, rel, sr, po⟩ => ?_
      have po : Pf Ω0 H0 cl Ew (bnd (evE T e ρ) (fun d => bnd (lift (toOwn d)) fun o => ret (.nx (ρ.set i (some o)))) s) Ω H _ _ := po
      refine ⟨Ω, ρ, s, rel, sr, (po.bndE (W := vw X cl H0) l0).mono (fun d s1 Ω1 H1 l1 sr1 po1 p vs ds ed nf nc hp hp1 ra => ?_) fun _ _ _ _ _ _ z => z⟩
      subst ed
      have po2 : Pf Ω0 H0 cl Ew (ret (.nx (ρ.set i (some (.own ds)))) s1) Ω1 H1 _ _ := po1
      refine po2.toNx (l0.trans l1) sr1 _ ((rel.mono l1).setOwn (sl := .own ds) ⟨p, vs, rfl, nc, nf, l0.free hp, hp1, ra⟩ rfl fun j sj hj oj => own_ne rel hp j sj hj oj)
    · cases h
end PL
end

section
set_option Elab.async false
set_option linter.all false
set_option maxRecDepth 100000
set_option maxHeartbeats 4000000
/-! PL14: stores into lists, loops, sequences. -/
namespace PL
open PySem PySem.Spec PyProof.Rows L2

/-! ### worlds -/
theorem LeF.add {Ω : Wd} {H : Hp} {p : Addr} {nc : Ω.cup ≠ some p} : LeF Ω H (Ω.add p nc) H := ⟨fun a (f : Ω.F a) => show Ω.F a ∨ a = p from Or.inl f, rfl, fun _ _ _ h => h, fun _ _ h => h⟩
theorem SlR.add {K : PySem.W.Frag} {H0 : Hp} {Ω : Wd} {H : Hp} {p : Addr} {nc : Ω.cup ≠ some p} {v : V} (n : v ≠ .ref p) : ∀ {sl : Sl}, SlR K H0 Ω H v sl → SlR K H0 (Ω.add p nc) H v sl
  | .val d, h => Rp.monoF LeF.add h
  | .own xs, ⟨a, vs, h1, h2, h3, h4, h5, h6⟩ => ⟨a, vs, h1, h2, fun f => f.elim h3 fun z => n (by rw [h1, z]), h4, h5, h6.monoF LeF.add⟩
  | .owd ks vs, ⟨a, kvs, h1, h2, h3, h4, h5, h6, h7, h8⟩ => ⟨a, kvs, h1, h2, fun f => f.elim h3 fun z => n (by rw [h1, z]), h4, h5, h6, h7, h8.monoF LeF.add⟩
theorem len_get {α : Type} {l : List α} {i : Nat} {x y : α} (h : l[i]? = some x) : (l.set i y)[i]? = some y := by
  rw [List.getElem?_set_self (List.getElem?_eq_some_iff.mp h).1]
/-- own lists become values -/
theorem frz_rel {K : PySem.W.Frag} {Ω0 Ω : Wd} {H0 H : Hp} {ρ : Env} {σ : L2.St} {s : S} (l0 : Le Ω0 H0 Ω H) (rel : Rel K H0 Ω ρ σ H) (sr : SRel Ω s H) (i : Nat) :
    ∃ Ω', Le Ω0 H0 Ω' H ∧ LeF Ω H Ω' H ∧ SRel Ω' s H ∧ Rel K H0 Ω' (frzE ρ i) σ H := by
  have triv : frzE ρ i = ρ → ∃ Ω', Le Ω0 H0 Ω' H ∧ LeF Ω H Ω' H ∧ SRel Ω' s H ∧ Rel K H0 Ω' (frzE ρ i) σ H := fun e => ⟨Ω, l0, LeF.refl _ _, sr, by rw [e]; exact rel⟩
  have main : ∀ (p : Addr) (o : HO) (sl : Sl) (d : D), ρ[i]? = some (some sl) → sl.isOwn = true → σ[i]? = some (some (.ref p)) → (nc : Ω.cup ≠ some p) → H0 p = none → H p = some o → frzE ρ i = ρ.set i (some (.val d)) → Rp K (Ω.add p nc) H (.ref p) d →
      ∃ Ω', Le Ω0 H0 Ω' H ∧ LeF Ω H Ω' H ∧ SRel Ω' s H ∧ Rel K H0 Ω' (frzE ρ i) σ H := by
    intro p o sl d hi ho hσ nc h0 hp ef rp
    refine ⟨Ω.add p nc, ⟨fun a f => Or.inl (l0.F a f), fun a f => f.elim (l0.new a) fun z => .inr (by rw [z]; exact h0), l0.cup, l0.keep, l0.there⟩, LeF.add,
      sr.of rfl (fun _ _ _ h => h) (fun a f => f.elim (sr.st a) fun z => ⟨o, by rw [z]; exact hp⟩), ?_⟩
    rw [ef]
    refine ⟨by rw [List.length_set]; exact rel.len, fun j sj hj => ?_, fun j l sj sl' w hjl h1 h2 o1 o2 h3 h4 => ?_⟩
    · rcases get_set hj with ⟨rfl, e⟩ | ⟨ne, hj⟩
      · cases e
        exact ⟨_, hσ, rp⟩
      · obtain ⟨v, e1, e2⟩ := rel.at_ j sj hj
        refine ⟨v, e1, ?_⟩
        by_cases z : v = .ref p
        · cases sj with
          | val d' => exact Rp.monoF LeF.add e2
          | own xs => subst z; exact absurd e1 (rel.sep i j _ _ _ ne hi hj ho rfl hσ)
          | owd ks vs => subst z; exact absurd e1 (rel.sep i j _ _ _ ne hi hj ho rfl hσ)
        · exact e2.add z
    · rcases get_set h1 with ⟨rfl, e⟩ | ⟨n1, h1⟩
      · cases e; cases o1
      · rcases get_set h2 with ⟨rfl, e⟩ | ⟨n2, h2⟩
        · cases e; cases o2
        · exact rel.sep j l sj sl' w hjl h1 h2 o1 o2 h3 h4
  cases e : ρ[i]? with
  | none => exact triv (by unfold frzE; rw [e])
  | some o =>
    cases o with
    | none => exact triv (by unfold frzE; rw [e])
    | some sl =>
      cases sl with
      | val d => exact triv (by unfold frzE; rw [e])
      | own xs =>
        obtain ⟨v, e1, p, vs, rfl, nc, nf, h0, hp, ra⟩ := rel.at_ i _ e
        exact main p _ _ (.lst xs) e rfl e1 nc h0 hp (by unfold frzE; rw [e]) (.lst (show (Ω.add p nc).F p from Or.inr rfl) hp (ra.monoF LeF.add))
      | owd ks vs =>
        obtain ⟨v, e1, p, kvs, rfl, nc, nf, h0, hp, ok, rfl, ra⟩ := rel.at_ i _ e
        exact main p _ _ (.dic _ vs) e rfl e1 nc h0 hp (by unfold frzE; rw [e]) (.dic (show (Ω.add p nc).F p from Or.inr rfl) (.inl hp) ok (ra.monoF LeF.add))
/-- an own list changes -/
theorem Rel.updOwn {K : PySem.W.Frag} {H0 : Hp} {Ω : Wd} {H : Hp} {ρ : Env} {σ : L2.St} (rel : Rel K H0 Ω ρ σ H) {i : Nat} {p : Addr} {o o' : HO} {sl sl' : Sl} (hi : ρ[i]? = some (some sl)) (ho : sl.isOwn = true) (hσ : σ[i]? = some (some (.ref p)))
    (hp : H p = some o) (nf : ¬ Ω.F p) (nt : ∀ xs, ¬ Rd H p (.tup xs)) (h' : SlR K H0 Ω (upd H p o') (.ref p) sl') (ho' : sl'.isOwn = true) : Rel K H0 Ω (ρ.set i (some sl')) σ (upd H p o') := by
  have lf : LeF Ω H Ω (upd H p o') := LeF.own nf hp nt
  refine ⟨by rw [List.length_set]; exact rel.len, fun j sj hj => ?_, fun j l sj sl2 w hjl h1 h2 o1 o2 h3 h4 => ?_⟩
  · rcases get_set hj with ⟨rfl, e⟩ | ⟨ne, hj⟩
    · cases e; exact ⟨_, hσ, h'⟩
    · obtain ⟨v, e1, e2⟩ := rel.at_ j sj hj
      refine ⟨v, e1, ?_⟩
      cases sj with
      | val d => exact Rp.monoF lf e2
      | own xs =>
        obtain ⟨a, vs, rfl, a1, a2, a3, a4, a5⟩ := e2
        have ap : a ≠ p := fun z => by subst z; exact absurd e1 (rel.sep i j _ _ _ ne hi hj ho rfl hσ)
        exact ⟨a, vs, rfl, a1, a2, a3, by rw [upd_ne ap]; exact a4, a5.monoF lf⟩
      | owd ks vs =>
        obtain ⟨a, kvs, rfl, a1, a2, a3, a4, a5, a6, a7⟩ := e2
        have ap : a ≠ p := fun z => by subst z; exact absurd e1 (rel.sep i j _ _ _ ne hi hj ho rfl hσ)
        exact ⟨a, kvs, rfl, a1, a2, a3, by rw [upd_ne ap]; exact a4, a5, a6, a7.monoF lf⟩
  · rcases get_set h1 with ⟨rfl, e⟩ | ⟨n1, h1⟩
    · rcases get_set h2 with ⟨rfl, _⟩ | ⟨n2, h2⟩
      · exact absurd rfl hjl
      · exact rel.sep i l sl sl2 w hjl hi h2 ho o2 h3 h4
    · rcases get_set h2 with ⟨rfl, e⟩ | ⟨n2, h2⟩
      · exact rel.sep j i sj sl w hjl h1 hi o1 ho h3 h4
      · exact rel.sep j l sj sl2 w hjl h1 h2 o1 o2 h3 h4
/-- the cup changes -/
theorem Le.cupUpd {Ω : Wd} {H : Hp} {c : Addr} {xs ys : List V} (hc : Ω.cup = some c) (h : H c = some (.lst xs)) : Le Ω H Ω (upd H c (.lst ys)) :=
  ⟨fun _ h => h, fun _ h => .inl h, rfl, fun a o ha q => by
    have : a ≠ c := fun z => by
      subst z
      rw [h] at ha; cases ha
      exact absurd (q hc) (by simp [isLst])
    rw [upd_ne this]; exact ha, fun a o ha => there_upd ⟨o, ha⟩⟩

/-! ### stores -/
theorem nosw {N : List Str} {nm : Nm} {sc : Scope} {sh : Bool} {e : E} {x : Expr} (h : chkE N nm sc sh e x = true) {tg : Expr} (ht : ∀ y p, tg ≠ .Name y p) (l : Nat) (env : PySem.Env) : swapsWithSole [tg] x l env = pure false := by
  show swapsWith x (some tg) l env = pure false
  cases tg with
  | Name y p => exact absurd rfl (ht y p)
  | _ => cases x <;> rfl
theorem sc_unp {is : List Nat} {e : E} : SoC (.unp is e) where
  a := fun {X cl Ω0 H0 Ew T nm k st} ok h => by
    unfold chkS at h
    split at h
    · rename_i es kk p v pos
      simp only [Bool.and_eq_true, Bool.not_eq_true'] at h
      obtain ⟨⟨h1, h2⟩, h3⟩ := h
      have pg : PG X (.Tuple es kk p) (rG (vw X cl H0) (.tp is)) := pg_of (cl' := tt1) ok.x.calm ok.x.nd (fun x _ => ok.fn x) (by unfold tgB; exact h2)
      have hw : swappedStores [.Tuple es kk p] v X.env = pure none := by cases v <;> first | rfl | cases h1
      refine PS_imp (ps_asg ((soE e).a (H0 := H0) ok.x h3) pg (nosw h3 (fun _ _ z => by cases z) _ _) hw) fun D σ H ⟨Ω, ρ, s, l0, rel, sr, po⟩ => ?_
      have po : Pf Ω0 H0 cl Ew (bnd (evE T e ρ) (fun d => bnd (asg (.tp is) d ρ) fun ρ1 => ret (.nx ρ1)) s) Ω H _ _ := po
      refine rE_of rel sr (po.bndE (W := vw X cl H0) l0) fun d s1 Ω1 H1 v rel1 l1 sr1 rv po1 => ?_
      have po2 := po1.bndE (W := vw X cl H0) (l0.trans l1)
      cases ea : asg (.tp is) d ρ s1 with
      | no => rw [ea] at po2; exact po2.elim
      | er q s' =>
        exfalso
        cases d with
        | tup ds =>
          have ea : (if ds.length = is.length then ret (setAll is ds ρ) else fail) s1 = .er q s' := ea
          by_cases z : ds.length = is.length
          · rw [if_pos z] at ea; cases ea
          · rw [if_neg z] at ea; cases ea
        | _ => cases ea
      | ok ρ1 s2 =>
        have := asg_same ea
        subst this
        rw [ea] at po2
        exact ⟨Ω1, ρ, d, ρ1, s2, rv, ea, fun σ' hσ _ => (po2 Ω1 H1 (Le.refl _ _) sr1).toNx (l0.trans l1) sr1 σ' (hσ Ω1 H1 (LeF.refl _ _) rel1)⟩
    · cases h
def rAg (K : PySem.W.Frag) (o : Bop) : R2 := fun x y H Q => ∃ Ω s dx dy d, SRel Ω s H ∧ Rp K Ω H x dx ∧ Rp K Ω H y dy ∧ augD o dx dy = some d ∧ Wt K Ω s H d Q
theorem Rp.intE {K : PySem.W.Frag} {Ω : Wd} {H : Hp} {v : V} {i : Int} (h : Rp K Ω H v (.int i)) : v = .int i := by cases h; rfl
theorem ag_int {X : Cx} {op : Operator} {o : Bop} {C : Int → Int → Prop} {g : Int → Int → Int} (h : OpR X (inplaceOp op) (L2.rI C fun i j => .int (g i j))) (hi : ∀ i j d, augD o (.int i) (.int j) = some d → C i j ∧ d = .int (g i j)) (ho : ∀ x y d, augD o x y = some d → ∃ i j, x = .int i ∧ y = .int j) : PIp X op (rAg X.K o) := by
  intro pins s σ H x y v u Q I rx ry ⟨Ω, st, dx, dy, d, sr, hx, hy, e, q⟩
  obtain ⟨i, j, rfl, rfl⟩ := ho _ _ _ e
  obtain ⟨hc, rfl⟩ := hi i j d e
  refine h pins s σ H x y v u Q I rx ry ⟨i, j, hx.intE, hy.intE, hc, q.here sr (.int _)⟩
theorem rI_of0 {X : Cx} {f : Value → Value → Sem Value} {g : Int → Int → V} (h : OpR X f (rI0 g)) : OpR X f (L2.rI (fun _ _ => True) g) := fun pins s σ H x y v u Q I rx ry ⟨i, j, a, b, _, q⟩ => h pins s σ H x y v u Q I rx ry ⟨i, j, a, b, q⟩
theorem ag_ok {X : Cx} : ∀ o : Bop, PIp X (opB o) (rAg X.K o)
  | .sub => ag_int (rI_of0 iop_sub) (fun i j d e => by cases e; exact ⟨trivial, rfl⟩) (fun x y d e => by cases x <;> cases y <;> first | exact ⟨_, _, rfl, rfl⟩ | cases e)
  | .mul => ag_int iop_mul (fun i j d e => by
      have e : (if small i = true ∨ small j = true then some (D.int (i * j)) else none) = some d := e
      by_cases z : small i = true ∨ small j = true
      · rw [if_pos z] at e; cases e
        unfold small at z
        simp only [Bool.and_eq_true, decide_eq_true_eq] at z
        exact ⟨z, rfl⟩
      · rw [if_neg z] at e; cases e) (fun x y d e => by cases x <;> cases y <;> first | exact ⟨_, _, rfl, rfl⟩ | cases e)
  | .fdiv => ag_int iop_fdiv (fun i j d e => by
      have e : (if 0 < j ∧ j < 1073741824 then some (D.int (i / j)) else none) = some d := e
      by_cases z : 0 < j ∧ j < 1073741824
      · rw [if_pos z] at e; cases e
        exact ⟨z, rfl⟩
      · rw [if_neg z] at e; cases e) (fun x y d e => by cases x <;> cases y <;> first | exact ⟨_, _, rfl, rfl⟩ | cases e)
  | .mod => ag_int iop_mod (fun i j d e => by
      have e : (if 0 < j then some (D.int (i % j)) else none) = some d := e
      by_cases z : 0 < j
      · rw [if_pos z] at e; cases e
        exact ⟨z, rfl⟩
      · rw [if_neg z] at e; cases e) (fun x y d e => by cases x <;> cases y <;> first | exact ⟨_, _, rfl, rfl⟩ | cases e)
  | .pow => fun pins s σ H x y v u Q I rx ry ⟨Ω, st, dx, dy, d, sr, hx, hy, e, q⟩ => by cases e
  | .add => fun pins s σ H x y v u Q I rx ry ⟨Ω, st, dx, dy, d, sr, hx, hy, e, q⟩ => by
    cases dx with
    | int i =>
      cases dy with
      | int j =>
        cases e
        exact iop_add pins s σ H x y v u Q I rx ry ⟨i, j, hx.intE, hy.intE, q.here sr (.int _)⟩
      | _ => cases e
    | str a =>
      cases dy with
      | str b =>
        have e : (if a.length + b.length ≤ BIG then some (D.str (a ++ b)) else none) = some d := e
        by_cases z : a.length + b.length ≤ BIG
        · rw [if_pos z] at e; cases e
          obtain ⟨rfl, oa⟩ := Sh.str (Rp.sh hx)
          obtain ⟨rfl, ob⟩ := Sh.str (Rp.sh hy)
          refine iop_add_str pins s σ H _ _ v u Q I rx ry ⟨_, _, rfl, rfl, ?_, ?_⟩
          · rw [sS_length, sS_length]
            exact Nat.le_trans z (Nat.le_of_lt big_line)
          · rw [← sS_append]
            exact q.here sr (.str (okS_append oa ob z))
        · rw [if_neg z] at e; cases e
      | _ => cases e
    | _ => cases dy <;> cases e
theorem sc_aug {i : Nat} {o : Bop} {e : E} : SoC (.aug i o e) where
  a := fun {X cl Ω0 H0 Ew T nm k st} ok h => by
    unfold chkS at h
    split at h
    · simp only [Bool.and_eq_true, decide_eq_true_eq] at h
      obtain ⟨⟨rfl, h1⟩, h2⟩ := h
      obtain ⟨a1, a2, a3⟩ := st_of (X := X) (fun x _ => ok.fn x) h1
      refine PS_imp (ps_aug ok.x.nd a1 a2 ((soE e).a (H0 := H0) ok.x h2) (ag_ok o) a3) fun D σ H ⟨Ω, ρ, s, l0, rel, sr, po⟩ => ?_
      have po : Pf Ω0 H0 cl Ew (bnd (get ρ i) (fun x => bnd (evE T e ρ) fun y => bnd (lift (augD o x y)) fun z => ret (.nx (ρ.set i (some (.val z))))) s) Ω H _ _ := po
      obtain ⟨x, dx, hx, rx, po0⟩ := Po.get (W := vw X cl H0) (po.bndE (W := vw X cl H0) l0) rel sr
      refine ⟨x, hx, ?_⟩
      refine rE_of rel sr (po0.bndE (W := vw X cl H0) l0) fun d s1 Ω1 H1 v rel1 l1 sr1 rv po1 => ?_
      obtain ⟨z, hz, q⟩ := (po1.bndE (W := vw X cl H0) (l0.trans l1)).lift
      refine ⟨Ω1, s1, dx, d, z, sr1, Rp.mono l1 rx, rv, hz, fun Ω' H' l' sr' v' rv' => ?_⟩
      exact (q Ω' H' l' sr').toNx ((l0.trans l1).trans l') sr' _ ((rel1.mono l').set rv')
    · cases h
theorem Po.ownd {ρ : Env} {i : Nat} {s : S} {Ω : Wd} {H : Hp} {k : Unit → S → Wd → Hp → Prop} {ke : Er → S → Wd → Hp → Prop} (h : Po (PL.ownd ρ i s) Ω H k ke) (sr : SRel Ω s H) : ∃ xs, ρ[i]? = some (some (.own xs)) ∧ k () s Ω H := by
  unfold PL.ownd at h
  cases e1 : ρ[i]? with
  | none => rw [e1] at h; exact h.elim
  | some o =>
    cases o with
    | none => rw [e1] at h; exact h.elim
    | some sl =>
      cases sl with
      | own xs => rw [e1] at h; exact ⟨xs, rfl, Po.ret (a := ()) h sr⟩
      | _ => rw [e1] at h; exact h.elim
theorem sc_app {i : Nat} {e : E} : SoC (.app i e) where
  a := fun {X cl Ω0 H0 Ew T nm k st} ok h => by
    unfold chkS at h
    split at h
    · rename_i y p a apos v cpos pos
      simp only [Bool.and_eq_true, decide_eq_true_eq] at h
      obtain ⟨⟨⟨h1, rfl⟩, h3⟩, h4⟩ := h
      obtain ⟨a1, a2, a3, a4⟩ := sl_of h1
      have pe : PE X (.Call (.Attribute (.Name y p) "append" apos) [v] [] cpos) (tBM X.K "list" rAppend (tVar i) (tCons (rE (vw X cl H0) Ew false (evE T e)) tNil)) :=
        pe_bm PySem.F.plainAttrs_list PySem.F.slot_list_append PySem.F.type_list_append mt_append (pe_var a1 a2 a3 a4) (pa_cons ((soE e).a ok.x h4) pa_nil (star_of (okX_of h4) _ _)) rfl
          (by rw [star_of (okX_of h4)]; rfl) h3 (star_of (okX_of h4) _ _) rfl
      refine PS_imp (ps_expr pe rfl) fun D σ H ⟨Ω, ρ, s, l0, rel, sr, po⟩ => ?_
      have po : Pf Ω0 H0 cl Ew (bnd (ownd ρ i) (fun _ => bnd (evE T e ρ) (fun d => bnd (lift (appE ρ i d)) fun ρ1 => ret (.nx ρ1))) s) Ω H _ _ := po
      obtain ⟨xs, hi, po⟩ := (po.bndE (W := vw X cl H0) l0).ownd sr
      obtain ⟨v0, e1, p, vs, rfl, nc, nf, h0, hp, ra⟩ := rel.at_ i _ hi
      refine ⟨_, e1, .inl ⟨rfl, vs, SqL.of hp⟩, ?_⟩
      refine rE_of rel sr (po.bndE (W := vw X cl H0) l0) fun d s1 Ω1 H1 v rel1 l1 sr1 rv po1 => ?_
      obtain ⟨ρ1, hz, q⟩ := (po1.bndE (W := vw X cl H0) (l0.trans l1)).lift
      obtain ⟨v1, e2, p', ws, e3, nc1, nf1, h01, hp1, ra1⟩ := rel1.at_ i _ hi
      rw [e1] at e2
      cases e2
      cases e3
      have hz : appE ρ i d = some ρ1 := hz
      unfold appE at hz
      rw [hi] at hz
      simp only at hz
      by_cases hl : xs.length < BIG
      · rw [if_pos hl] at hz
        cases hz
        have l2 : LeF Ω1 H1 Ω1 (upd H1 p (.lst (ws ++ [v]))) := LeF.own nf1 hp1 (noTup_lst hp1)
        have rel2 := rel1.updOwn (sl' := .own (xs ++ [d])) (o' := .lst (ws ++ [v])) hi rfl e1 hp1 nf1 (noTup_lst hp1) ⟨p, _, rfl, nc1, nf1, h01, upd_same, (ra1.monoF l2).append (.cons (Rp.monoF l2 rv) .nil)⟩ rfl
        refine ⟨p, ws, v, rfl, rfl, hp1, ?_, ?_⟩
        · rw [ra1.length]; exact Nat.lt_trans hl big_line
        · exact q Ω1 H1 (Le.refl _ _) sr1 Ω1 _ ((l0.trans l1).upd_out h01) l2 (sr1.upd_own nc1) σ rel2
      · rw [if_neg hl] at hz; cases hz
    · cases h
end PL
end

section
set_option Elab.async false
set_option linter.all false
set_option maxRecDepth 100000
set_option maxHeartbeats 4000000
/-! PL15: item stores, loops. -/
namespace PL
open PySem PySem.Spec PyProof.Rows L2

theorem ixN_eq {n : Nat} {i : Int} {j : Nat} (h : PL.ixN n i = some j) : L2.ixN n i = some j := h
theorem sc_setI {i : Nat} {kx e : E} : SoC (.setI i kx e) where
  a := fun {X cl Ω0 H0 Ew T nm k st} ok h => by
    unfold chkS at h
    split at h
    · rename_i y p x p2 v pos
      simp only [Bool.and_eq_true, decide_eq_true_eq] at h
      obtain ⟨⟨h1, h2⟩, h3⟩ := h
      obtain ⟨a1, a2, a3, a4⟩ := sl_of h1
      have pg : PG X (.Subscript (.Name y p) x p2) (gSub (tVar i) (rE (vw X cl H0) Ew false (evE T kx)) rSetL) := pg_sub (pe_var a1 a2 a3 a4) ((soE kx).a ok.x h2) set_list (fun v => by cases x <;> first | rfl | (have := okX_of h2; cases this))
      refine PS_imp (ps_asg ((soE e).a (H0 := H0) ok.x h3) pg (nosw h3 (fun _ _ z => by cases z) _ _) rfl) fun D σ H ⟨Ω, ρ, s, l0, rel, sr, po⟩ => ?_
      have po : Pf Ω0 H0 cl Ew (bnd (ownd ρ i) (fun _ => bnd (evE T e ρ) fun d => bnd (evE T kx ρ) fun k => bnd (lift (setIE ρ i k d)) fun ρ1 => ret (.nx ρ1)) s) Ω H _ _ := po
      obtain ⟨xs, hi, po⟩ := (po.bndE (W := vw X cl H0) l0).ownd sr
      refine rE_of rel sr (po.bndE (W := vw X cl H0) l0) fun d s1 Ω1 H1 v rel1 l1 sr1 rv po1 => ?_
      obtain ⟨o, ho, _⟩ := rel1.at_ i _ hi
      refine ⟨o, ho, ?_⟩
      refine rE_of rel1 sr1 (po1.bndE (W := vw X cl H0) (l0.trans l1)) fun kd s2 Ω2 H2 kv rel2 l2 sr2 rkv po2 => ?_
      obtain ⟨ρ1, hz, q⟩ := (po2.bndE (W := vw X cl H0) ((l0.trans l1).trans l2)).lift
      have hz : setIE ρ i kd d = some ρ1 := hz
      unfold setIE at hz
      rw [hi] at hz
      cases kd with
      | int j =>
        obtain ⟨jj, hj, rfl⟩ := Option.map_eq_some_iff.mp hz
        obtain ⟨v1, e2, p', ws, rfl, nc1, nf1, h01, hp1, ra1⟩ := rel2.at_ i _ hi
        rw [ho] at e2
        cases e2
        have rkv : Rp X.K Ω2 H2 kv (.int j) := rkv
        have l3 : LeF Ω2 H2 Ω2 (upd H2 p' (.lst (ws.set jj v))) := LeF.own nf1 hp1 (noTup_lst hp1)
        have rel3 := rel2.updOwn (sl' := .own (xs.set jj d)) (o' := .lst (ws.set jj v)) hi rfl ho hp1 nf1 (noTup_lst hp1) ⟨p', _, rfl, nc1, nf1, h01, upd_same, RpA.set (Rp.monoF l3 (Rp.mono l2 rv)) jj (ra1.monoF l3)⟩ rfl
        refine ⟨p', ws, j, jj, rfl, rkv.intE, hp1, ?_, ?_⟩
        · rw [ra1.length]; exact ixN_eq hj
        · exact q Ω2 H2 (Le.refl _ _) sr2 Ω2 _ (((l0.trans l1).trans l2).upd_out h01) l3 (sr2.upd_own nc1) σ rel3
      | _ => cases hz
    · cases h
theorem cupPut_cases {k d : PL.D} {s : S} {a b : Int} (e : s.cup = some (a, b)) : cupPut k d s = .no ∨ (∃ z, k = .int 0 ∧ d = .int z ∧ cupPut k d s = .ok () { s with cup := some (z, b) }) ∨ (∃ z, k = .int 1 ∧ d = .int z ∧ cupPut k d s = .ok () { s with cup := some (a, z) }) := by
  obtain ⟨c⟩ := s
  have e : c = some (a, b) := e
  subst e
  by_cases h0 : ∃ z, k = .int 0 ∧ d = .int z
  · obtain ⟨z, rfl, rfl⟩ := h0
    exact .inr (.inl ⟨z, rfl, rfl, rfl⟩)
  · by_cases h1 : ∃ z, k = .int 1 ∧ d = .int z
    · obtain ⟨z, rfl, rfl⟩ := h1
      exact .inr (.inr ⟨z, rfl, rfl, rfl⟩)
    · refine .inl ?_
      unfold cupPut
      split
      · rename_i z q1 q2; exact absurd ⟨_, rfl, rfl⟩ h0
      · rename_i z q1 q2; exact absurd ⟨_, rfl, rfl⟩ h1
      · rfl
theorem sc_cupS {i : Nat} {kx e : E} : SoC (.cupS i kx e) where
  a := fun {X cl Ω0 H0 Ew T nm k st} ok h => by
    unfold chkS at h
    split at h
    · rename_i y p x p2 v pos
      simp only [Bool.and_eq_true, decide_eq_true_eq] at h
      obtain ⟨⟨h1, h2⟩, h3⟩ := h
      obtain ⟨a1, a2, a3, a4⟩ := sl_of h1
      have pg : PG X (.Subscript (.Name y p) x p2) (gSub (tVar i) (rE (vw X cl H0) Ew false (evE T kx)) rSetL) := pg_sub (pe_var a1 a2 a3 a4) ((soE kx).a ok.x h2) set_list (fun v => by cases x <;> first | rfl | (have := okX_of h2; cases this))
      refine PS_imp (ps_asg ((soE e).a (H0 := H0) ok.x h3) pg (nosw h3 (fun _ _ z => by cases z) _ _) rfl) fun D σ H ⟨Ω, ρ, s, l0, rel, sr, po⟩ => ?_
      have po : Pf Ω0 H0 cl Ew (bnd (evE T e ρ) (fun d => bnd (get ρ i) fun c => bnd (evE T kx ρ) fun k => (match c with
        | .cup => bnd (cupPut k d) fun _ => ret (.nx ρ)
        | _ => fail)) s) Ω H _ _ := po
      refine rE_of rel sr (po.bndE (W := vw X cl H0) l0) fun d s1 Ω1 H1 v rel1 l1 sr1 rv po1 => ?_
      obtain ⟨o, dc, ho, rc, po1⟩ := Po.get (W := vw X cl H0) (po1.bndE (W := vw X cl H0) (l0.trans l1)) rel1 sr1
      refine ⟨o, ho, ?_⟩
      refine rE_of rel1 sr1 (po1.bndE (W := vw X cl H0) (l0.trans l1)) fun kd s2 Ω2 H2 kv rel2 l2 sr2 rkv po2 => ?_
      cases dc with
      | cup =>
        have po2 : Pf Ω0 H0 cl Ew (bnd (cupPut kd d) (fun _ => ret (.nx ρ)) s2) Ω2 H2 _ _ := po2
        cases rc with
        | cup hc =>
          have hc2 : Ω2.cup = some _ := l2.cup.trans hc
          obtain ⟨a, b, e1, e2⟩ := sr2.cupT hc2
          rename_i c
          have fin : ∀ (j : Nat) (z : Int) (a' b' : Int) (s3 : S), d = .int z → kd = .int j → j < 2 → ([V.int a, V.int b].set j (.int z)) = [.int a', .int b'] → s3 = { s2 with cup := some (a', b') } → cupPut kd d s2 = .ok () s3 → rSetL (.ref c) kv v H2 fun H3 => D.nx σ H3 := by
            intro j z a' b' s3 hd hk hj hs hs3 hp
            subst hd hk
            have rv : Rp X.K Ω1 H1 v (.int z) := rv
            have rkv : Rp X.K Ω2 H2 kv (.int j) := rkv
            have hv := rv.intE
            have hkv := rkv.intE
            subst hv hkv
            have lc : Le Ω2 H2 Ω2 (upd H2 c (.lst ([V.int a, V.int b].set j (.int z)))) := Le.cupUpd hc2 e2
            have po3 := po2.bndE (W := vw X cl H0) ((l0.trans l1).trans l2)
            rw [hp] at po3
            have sr3 : SRel Ω2 s3 (upd H2 c (.lst ([V.int a, V.int b].set j (.int z)))) := by
              refine ⟨?_, fun a f => there_upd (sr2.st a f)⟩
              unfold SRel0
              rw [hc2, hs3]
              simp only
              rw [upd_same, hs]
            refine ⟨c, _, j, j, rfl, rfl, e2, ?_, ?_⟩
            · unfold L2.ixN
              rw [if_pos (by omega), if_pos (by simp; omega)]
              simp
            · exact (po3 Ω2 _ lc sr3).toNx (((l0.trans l1).trans l2).trans lc) sr3 σ (rel2.mono lc)
          have po4 := po2.bndE (W := vw X cl H0) ((l0.trans l1).trans l2)
          rcases cupPut_cases (k := kd) (d := d) e1 with h5 | ⟨z, h5, h6, h7⟩ | ⟨z, h5, h6, h7⟩
          · rw [h5] at po4; exact po4.elim
          · exact fin 0 z z b _ h6 h5 (by omega) rfl rfl h7
          · exact fin 1 z a z _ h6 h5 (by omega) rfl rfl h7
      | _ => exact po2.elim
    · cases h

/-! ### sequences -/
theorem sc_nil : SoCs .nil where
  a := fun {X cl Ω0 H0 Ew T nm k sts} ok h => by
    cases sts with
    | nil =>
      refine PSs_imp pss_nil fun D σ H ⟨Ω, ρ, s, l0, rel, sr, po⟩ => ?_
      exact Pf.toNx po l0 sr σ rel
    | cons _ _ => simp [chkSs] at h
theorem seq_imp {X : Cx} {cl : Nat → Value} {Ω0 : Wd} {H0 : Hp} {Ew : XK} {T : Ct} {c : C} {cs : Cs} {D : Ends} {σ : L2.St} {H : Hp} (h : rS (vw X cl H0) Ω0 Ew (evCs T (.cons c cs)) D σ H) :
    tSeq (rS (vw X cl H0) Ω0 Ew (evC T c)) (rS (vw X cl H0) Ω0 Ew (evCs T cs)) D σ H := by
  obtain ⟨Ω, ρ, s, l0, rel, sr, po⟩ := h
  have po : Pf Ω0 H0 cl Ew (bnd (evC T c ρ) (fun f => match f with | .nx ρ1 => evCs T cs ρ1 | .rt d => ret (.rt d)) s) Ω H _ _ := po
  exact ⟨Ω, ρ, s, l0, rel, sr, po.seq.imp (fun ρ1 s1 Ω1 H1 l1 _ sr1 q σ1 rel1 => ⟨Ω1, ρ1, s1, l1, rel1, sr1, q⟩) fun d s1 Ω1 H1 l1 _ sr1 q => q⟩
theorem chk_cons {N : List Str} {nm : Nm} {sc : Scope} {c : C} {cs : Cs} {st : Stmt} {sts : List Stmt} (h : chkSs N nm sc (.cons c cs) (st :: sts) = true) (hf : ∀ i, c ≠ .frz i) : chkS N nm sc c st = true ∧ chkSs N nm sc cs sts = true := by
  cases c with
  | frz i => exact absurd rfl (hf i)
  | _ => simpa [chkSs] using h
theorem chk_consN {N : List Str} {nm : Nm} {sc : Scope} {c : C} {cs : Cs} (h : chkSs N nm sc (.cons c cs) [] = true) (hf : ∀ i, c ≠ .frz i) : False := by
  cases c with
  | frz i => exact absurd rfl (hf i)
  | _ => simp [chkSs] at h
theorem sc_cons {c : C} {cs : Cs} (hc : SoC c) (hs : SoCs cs) : SoCs (.cons c cs) where
  a := fun {X cl Ω0 H0 Ew T nm k sts} ok h => by
    by_cases hf : ∃ i, c = .frz i
    · obtain ⟨i, rfl⟩ := hf
      have h : chkSs X.N nm X.env.scope cs sts = true := by simpa [chkSs] using h
      refine PSs_imp (hs.a (Ω0 := Ω0) (H0 := H0) ok h) fun D σ H ⟨Ω, ρ, s, l0, rel, sr, po⟩ => ?_
      obtain ⟨Ω', l0', lf, sr', rel'⟩ := frz_rel l0 rel sr i
      have po : Pf Ω0 H0 cl Ew (evCs T cs (frzE ρ i) s) Ω H _ _ := po
      exact ⟨Ω', frzE ρ i, s, l0', rel', sr', po.lf lf⟩
    · have hf : ∀ i, c ≠ .frz i := fun i e => hf ⟨i, e⟩
      cases sts with
      | nil => exact (chk_consN h hf).elim
      | cons st sts =>
        obtain ⟨h1, h2⟩ := chk_cons h hf
        exact PSs_imp (pss_cons (hc.a (Ω0 := Ω0) (H0 := H0) ok h1) (hs.a (Ω0 := Ω0) (H0 := H0) ok h2)) fun D σ H q => seq_imp q

/-! ### loops -/
theorem sc_for {tg : Tg} {it : I} {b : Cs} (hb : SoCs b) : SoC (.for_ tg it b) where
  a := fun {X cl Ω0 H0 Ew T nm k st} ok h => by
    unfold chkS at h
    split at h
    · rename_i t x u pos
      simp only [Bool.and_eq_true] at h
      obtain ⟨⟨h1, h2⟩, h3⟩ := h
      obtain ⟨pi, fo⟩ := (soI it).a (H0 := H0) ok.x h2
      refine PS_imp (ps_for ok.own ok.x.calm pi (pg_of (cl := cl) (H0 := H0) (cl' := tt1) ok.x.calm ok.x.nd (fun x _ => ok.fn x) h1) (hb.a (Ω0 := Ω0) (H0 := H0) ok h3) (fo X.env)) fun D σ H ⟨Ω, ρ, s, l0, rel, sr, po⟩ => ?_
      have po : Pf Ω0 H0 cl Ew (bnd (evI T it ρ) (fun xs => forM (fun ρ => evCs T b ρ) tg xs ρ) s) Ω H _ _ := po
      refine rI_of rel sr (po.bndE (W := vw X cl H0) l0) fun xs s1 Ω1 H1 J rel1 l1 sr1 wk po1 => ?_
      obtain ⟨sz, G, Y, w, g, y⟩ := wk
      refine for_it w (fun i σi Hi => ∃ Ωi ρi si, Le Ω0 H0 Ωi Hi ∧ LeF Ω1 H1 Ωi Hi ∧ Rel X.K H0 Ωi ρi σi Hi ∧ SRel Ωi si Hi ∧
        Pf Ω0 H0 cl Ew (forM (fun ρ => evCs T b ρ) tg (xs.drop i) ρi si) Ωi Hi (fun ρ' _ Ω' H' => ∀ σ', Rel X.K H0 Ω' ρ' σ' H' → D.nx σ' H') (fun d _ Ω' H' => ∀ v, Rp X.K Ω' H' v d → D.rt v H')) ?_ ?_ ?_ ?_
      · exact ⟨Ω1, ρ, s1, l0.trans l1, LeF.refl _ _, rel1, sr1, po1⟩
      · rintro i σi Hi hi ⟨Ωi, ρi, si, _, lf, _⟩
        exact g Ωi Hi lf
      · rintro i x σi Hi Hi' hlt ⟨Ωi, ρi, si, li, lf, reli, sri, poi⟩ hx
        obtain ⟨Ω', d, l', sr', hd, rv⟩ := y i Ωi Hi x Hi' si hlt lf sri hx
        rw [drop_cons hd] at poi
        have poi : Pf Ω0 H0 cl Ew (bnd (asg tg d ρi) (fun ρ1 => bnd (evCs T b ρ1) fun f => match f with
          | .nx ρ2 => forM (fun ρ => evCs T b ρ) tg (xs.drop (i + 1)) ρ2
          | .rt d => ret (.rt d)) si) Ωi Hi _ _ := poi
        have po2 := poi.bndE (W := vw X cl H0) li
        cases ea : asg tg d ρi si with
        | no => rw [ea] at po2; exact po2.elim
        | er q s' =>
          exfalso
          cases tg with
          | nm j => cases ea
          | tp is =>
            cases d with
            | tup ds =>
              have ea : (if ds.length = is.length then ret (setAll is ds ρi) else fail) si = .er q s' := ea
              by_cases z : ds.length = is.length
              · rw [if_pos z] at ea; cases ea
              · rw [if_neg z] at ea; cases ea
            | _ => cases ea
        | ok ρ1 s2 =>
          have := asg_same ea
          subst this
          rw [ea] at po2
          have po3 := po2 Ω' Hi' l' sr'
          refine ⟨Ω', ρi, d, ρ1, s2, rv, ea, fun σ' hσ _ => ?_⟩
          refine ⟨Ω', ρ1, s2, li.trans l', hσ Ω' Hi' (LeF.refl _ _) (reli.mono l'), sr', ?_⟩
          refine po3.seq.imp (fun ρ2 s3 Ω3 H3 l3 lf3 sr3 q σ3 rel3 => ?_) fun d s3 Ω3 H3 l3 lf3 sr3 q => q
          exact ⟨Ω3, ρ2, s3, l3, (lf.trans (Le.f l')).trans lf3, rel3, sr3, q⟩
      · rintro σn Hn ⟨Ωn, ρn, sn, ln, lf, reln, srn, pon⟩
        rw [List.drop_eq_nil_of_le (Nat.le_refl _)] at pon
        exact Pf.toNx pon ln srn σn reln
    · cases h
theorem sc_whl {c : E} {b : Cs} (hb : SoCs b) : SoC (.whl c b) where
  a := fun {X cl Ω0 H0 Ew T nm k st} ok h => by
    unfold chkS at h
    split at h
    · simp only [Bool.and_eq_true] at h
      refine PS_imp (ps_while ok.own ((soE c).t (H0 := H0) ok.x h.1) (hb.a (Ω0 := Ω0) (H0 := H0) ok h.2)) fun D σ H ⟨Ω, ρ, s, l0, rel, sr, po⟩ => ?_
      have po : Pf Ω0 H0 cl Ew (whileM (fun ρ => bnd (evE T c ρ) asB) (fun ρ => evCs T b ρ) loopFuel ρ s) Ω H _ _ := po
      refine ⟨fun m σi Hi => ∃ Ωi ρi si, Le Ω0 H0 Ωi Hi ∧ Rel X.K H0 Ωi ρi σi Hi ∧ SRel Ωi si Hi ∧
        Pf Ω0 H0 cl Ew (whileM (fun ρ => bnd (evE T c ρ) asB) (fun ρ => evCs T b ρ) m ρi si) Ωi Hi (fun ρ' _ Ω' H' => ∀ σ', Rel X.K H0 Ω' ρ' σ' H' → D.nx σ' H') (fun d _ Ω' H' => ∀ v, Rp X.K Ω' H' v d → D.rt v H'), ⟨loopFuel, Ω, ρ, s, l0, rel, sr, po⟩, ?_⟩
      rintro m σi Hi ⟨Ωi, ρi, si, li, reli, sri, poi⟩
      cases m with
      | zero => exact poi.elim
      | succ n =>
        have poi : Pf Ω0 H0 cl Ew (bnd (bnd (evE T c ρi) asB) (fun bb => if bb = true then bnd (evCs T b ρi) fun f => (match f with
          | .nx ρ2 => whileM (fun ρ => bnd (evE T c ρ) asB) (fun ρ => evCs T b ρ) n ρ2
          | .rt d => ret (.rt d)) else ret (.nx ρi)) si) Ωi Hi _ _ := poi
        rw [bnd_assoc] at poi
        refine rT_of reli sri (poi.bndE (W := vw X cl H0) li) fun d s1 Ω1 H1 rel1 l1 sr1 po1 => ?_
        obtain ⟨kb, rfl, q⟩ := (po1.bndE (W := vw X cl H0) (li.trans l1)).asB sr1
        refine ⟨kb, rfl, ?_⟩
        cases kb
        · simp only [Bool.false_eq_true, if_false] at q ⊢
          exact Pf.toNx q (li.trans l1) sr1 σi rel1
        · simp only [if_true] at q ⊢
          refine ⟨fun σ' H' => ∃ Ωi ρi si, Le Ω0 H0 Ωi H' ∧ Rel X.K H0 Ωi ρi σ' H' ∧ SRel Ωi si H' ∧
            Pf Ω0 H0 cl Ew (whileM (fun ρ => bnd (evE T c ρ) asB) (fun ρ => evCs T b ρ) n ρi si) Ωi H' (fun ρ' _ Ω' H' => ∀ σ', Rel X.K H0 Ω' ρ' σ' H' → D.nx σ' H') (fun d _ Ω' H' => ∀ v, Rp X.K Ω' H' v d → D.rt v H'), fun σ' H' q => ⟨n, Nat.lt_succ_self n, q⟩, ?_⟩
          exact ⟨Ω1, ρi, s1, li.trans l1, rel1, sr1, q.seq.imp (fun ρ2 s3 Ω3 H3 l3 lf3 sr3 q σ3 rel3 => ⟨Ω3, ρ2, s3, l3, rel3, sr3, q⟩) fun d s3 Ω3 H3 l3 lf3 sr3 q => q⟩
    · cases h
end PL
end

section
set_option Elab.async false
set_option linter.all false
set_option maxRecDepth 100000
set_option maxHeartbeats 4000000
/-! PL16: a, b = x, y; every checked statement. -/
namespace PL
open PySem PySem.Spec PyProof.Rows L2

/-! ### which road the stores take -/
theorem sw_unf (ts vs : List Expr) (k k2 : Nat) (p p2 : Pos) {env : PySem.Env} (hk : env.scope.kind = .function) :
    swappedStores [.Tuple ts k p] (.Tuple vs k2 p2) env =
      if (!(ts.length == 2 || ts.length == 3) || vs.length != ts.length || false) = true then pure none else
      if (vs.any fun | .Starred .. => true | _ => false) = true then pure none else
      if ((nmsOf env.scope ((ts.head?.map (·.pos.line)).getD 0) ts).length != ts.length || (nmsOf env.scope ((ts.head?.map (·.pos.line)).getD 0) ts).eraseDups.length != (nmsOf env.scope ((ts.head?.map (·.pos.line)).getD 0) ts).length) = true then pure none else
      if vs.all (foldedForSure 8) = true then pure none else
      if vs.all (constantsAlone 8) = true then unsupported "assign.tuple-of-constant-expressions:order-of-the-stores" else
      pure (some (nmsOf env.scope ((ts.head?.map (·.pos.line)).getD 0) ts)) := by
  have hb : env.blockKind = .function := by unfold Env.blockKind; rw [hk]; rfl
  unfold swappedStores
  simp only [hb]
  rfl
theorem no_star {vs : List Expr} (h : ∀ x ∈ vs, okX x = true) : (vs.any fun | .Starred .. => true | _ => false) = false := by
  rw [List.any_eq_false]
  intro x hx
  have := h x hx
  cases x <;> first | (simp; done) | cases this
theorem sw_some {ts vs : List Expr} {k k2 : Nat} {p p2 : Pos} {env : PySem.Env} (hk : env.scope.kind = .function) (hv : ∀ x ∈ vs, okX x = true) (h : parSw env.scope ts vs = true) :
    swappedStores [.Tuple ts k p] (.Tuple vs k2 p2) env = pure (some (nmsOf env.scope ((ts.head?.map (·.pos.line)).getD 0) ts)) := by
  rw [sw_unf ts vs k k2 p p2 hk]
  unfold parSw at h
  simp only [Bool.and_eq_true, Bool.not_eq_true', beq_iff_eq] at h
  obtain ⟨⟨⟨⟨⟨h1, h2⟩, h3⟩, h4⟩, h5⟩, h6⟩ := h
  rw [no_star hv, h5, h6]
  simp only [h1, h2, h3, h4, bne_self_eq_false, Bool.or_false, Bool.not_true, if_false, Bool.false_eq_true]
theorem sw_none {ts vs : List Expr} {k k2 : Nat} {p p2 : Pos} {env : PySem.Env} (hk : env.scope.kind = .function) (hv : ∀ x ∈ vs, okX x = true) (h : parNo env.scope ts vs = true) :
    swappedStores [.Tuple ts k p] (.Tuple vs k2 p2) env = pure none := by
  rw [sw_unf ts vs k k2 p p2 hk, no_star hv]
  unfold parNo at h
  by_cases h1 : (!(ts.length == 2 || ts.length == 3)) = true
  · rw [h1]; rfl
  · have h1 : (!(ts.length == 2 || ts.length == 3)) = false := by simpa using h1
    rw [h1] at h ⊢
    simp only [Bool.false_or, Bool.and_eq_true, beq_iff_eq, Bool.or_eq_true] at h
    obtain ⟨h2, h3⟩ := h
    rw [h2]
    simp only [bne_self_eq_false, Bool.or_false, Bool.false_eq_true, if_false]
    rcases h3 with h3 | ⟨h3, h4⟩
    · rw [h3]; rfl
    · rw [h4]
      split <;> rfl
theorem locs2 {N : List Str} {sc : Scope} {is : List (Nat × Bool)} {ts : List Expr} (h : locsB N sc is ts = true) : ts.length = is.length := by
  induction is generalizing ts with
  | nil => cases ts with
    | nil => rfl
    | cons _ _ => simp [locsB] at h
  | cons i is ih => cases ts with
    | nil => simp [locsB] at h
    | cons t ts =>
      cases t with
      | Name x p =>
        simp only [locsB, Bool.and_eq_true] at h
        rw [List.length_cons, List.length_cons, ih h.2]
      | _ => simp [locsB] at h

/-! ### the values -/
inductive PaA (K : PySem.W.Frag) (Hs : Hp) (Ω : Wd) (H : Hp) : List (Nat × Bool) → List V → List D → Prop
  | nil : PaA K Hs Ω H [] [] []
  | val {i : Nat} {is : List (Nat × Bool)} {v : V} {vs : List V} {d : D} {ds : List D} : Rp K Ω H v d → PaA K Hs Ω H is vs ds → PaA K Hs Ω H ((i, false) :: is) (v :: vs) (d :: ds)
  | own {i : Nat} {is : List (Nat × Bool)} {p : Addr} {vs : List V} {xs : List D} {ds : List D} : Hs p = none → SlR K Hs Ω H (.ref p) (.own xs) → (∀ (l j : Nat), is[l]? = some (j, true) → vs[l]? ≠ some (.ref p)) → PaA K Hs Ω H is vs ds → PaA K Hs Ω H ((i, true) :: is) (.ref p :: vs) (.lst xs :: ds)
section
variable {K : PySem.W.Frag} {Hs Hs' : Hp} {Ω Ω' : Wd} {H H' : Hp}
theorem PaA.mono (e : Le Ω H Ω' H') : ∀ {is : List (Nat × Bool)} {vs : List V} {ds : List D}, PaA K Hs Ω H is vs ds → PaA K Hs Ω' H' is vs ds
  | _, _, _, .nil => .nil
  | _, _, _, .val a b => .val (a.mono e) (PaA.mono e b)
  | _, _, _, .own a b c d => .own a (b.mono e) c (PaA.mono e d)
theorem PaA.back (h : ∀ p, Hs' p = none → Hs p = none) : ∀ {is : List (Nat × Bool)} {vs : List V} {ds : List D}, PaA K Hs' Ω H is vs ds → PaA K Hs Ω H is vs ds
  | _, _, _, .nil => .nil
  | _, _, _, .val a b => .val a (PaA.back h b)
  | _, _, _, .own (p := p) a ⟨q, vs, h1, h2, h3, h4, h5, h6⟩ c d => .own (h p a) ⟨q, vs, h1, h2, h3, h q h4, h5, h6⟩ c (PaA.back h d)
theorem PaA.length : ∀ {is : List (Nat × Bool)} {vs : List V} {ds : List D}, PaA K Hs Ω H is vs ds → vs.length = is.length
  | _, _, _, .nil => rfl
  | _, _, _, .val _ b => by rw [List.length_cons, List.length_cons, PaA.length b]
  | _, _, _, .own _ _ _ d => by rw [List.length_cons, List.length_cons, PaA.length d]
/-- the new lists are new -/
theorem PaA.new {p : Addr} (hp : Hs p ≠ none) : ∀ {is : List (Nat × Bool)} {vs : List V} {ds : List D}, PaA K Hs Ω H is vs ds → ∀ (l j : Nat), is[l]? = some (j, true) → vs[l]? ≠ some (.ref p)
  | _, _, _, .nil, l, j, h => by simp at h
  | _, _, _, .val _ b, 0, j, h => by simp at h
  | _, _, _, .val _ b, l + 1, j, h => by simpa using PaA.new hp b l j (by simpa using h)
  | _, _, _, .own a _ _ b, 0, j, h => by
    intro e
    simp at e
    subst e
    exact hp a
  | _, _, _, .own _ _ _ b, l + 1, j, h => by simpa using PaA.new hp b l j (by simpa using h)
end
/-- the slots behind the stores -/
theorem Rel.setPar {K : PySem.W.Frag} {H0 : Hp} {Ω : Wd} {H : Hp} (hh : ∀ p, Hs p = none → H0 p = none) : ∀ {is : List (Nat × Bool)} {vs : List V} {ds : List D} {ρ ρ' : Env} {σ : L2.St}, Rel K H0 Ω ρ σ H → PaA K Hs Ω H is vs ds → PL.setPar is ds ρ = some ρ' →
    (∀ (l j : Nat) v, is[l]? = some (j, true) → vs[l]? = some v → ∀ (q : Nat) sq, ρ[q]? = some (some sq) → sq.isOwn = true → σ[q]? ≠ some (some v)) → Rel K H0 Ω ρ' (PL.setV (is.map (·.1)) vs σ) H
  | _, _, _, ρ, ρ', σ, r, .nil, e, _ => by cases e; exact r
  | (_ :: is), (_ :: vs), _, ρ, ρ', σ, r, .val (i := i) (v := v) (d := d) a b, e, f => by
    show Rel K H0 Ω ρ' (PL.setV (is.map (·.1)) vs (σ.set i (some v))) H
    have e : PL.setPar _ _ (ρ.set i (some (.val d))) = some ρ' := e
    refine Rel.setPar hh (r.set a) b e fun l j w h1 h2 q sq h3 h4 h5 => ?_
    rcases get_set h3 with ⟨rfl, z⟩ | ⟨n, h3⟩
    · cases z; cases h4
    · rw [List.getElem?_set_ne n] at h5
      exact f (l + 1) j w (by simpa using h1) (by simpa using h2) q sq h3 h4 h5
  | (_ :: is), (_ :: vs), _, ρ, ρ', σ, r, .own (i := i) (p := p) (xs := xs) a ⟨q0, ws, w1, w2, w3, w4, w5, w6⟩ nd b, e, f => by
    show Rel K H0 Ω ρ' (PL.setV (is.map (·.1)) vs (σ.set i (some (.ref p)))) H
    have e : PL.setPar _ _ (ρ.set i (some (.own xs))) = some ρ' := e
    cases w1
    have r2 := r.setOwn (i := i) (v := .ref p) (sl := .own xs) ⟨p, ws, rfl, w2, w3, hh p w4, w5, w6⟩ rfl fun j sj h1 h2 => f 0 i (.ref p) rfl rfl j sj h1 h2
    refine Rel.setPar hh r2 b e fun l j w h1 h2 q sq h3 h4 h5 => ?_
    rcases get_set h3 with ⟨rfl, z⟩ | ⟨n, h3⟩
    · rcases get_set h5 with ⟨_, z2⟩ | ⟨n2, _⟩
      · cases z2
        exact nd l j h1 h2
      · exact n2 rfl
    · rw [List.getElem?_set_ne n] at h5
      exact f (l + 1) j w (by simpa using h1) (by simpa using h2) q sq h3 h4 h5

/-- the reading of the right sides -/
def rPar (W : Vw) (Ew : XK) (is : List (Nat × Bool)) (m : Env → M (List D)) : TA := fun σ H Q => ∃ Ω ρ s, Rel W.K W.H0 Ω ρ σ H ∧ SRel Ω s H ∧ Po (m ρ s) Ω H (fun ds _ Ω' H' => ∀ vs, PaA W.K H Ω' H' is vs ds → Q vs H') (kR W Ew)
theorem pa_par : ∀ {is : List (Nat × Bool)} {es : Es} {X : Cx} {cl : Nat → Value} {H0 : Hp} {Ew : XK} {T : Ct} {nm : Nm} {k : Nat} {xs : List Expr}, XOk X cl Ew T nm k → frsB is es = true → chkEs X.N nm X.env.scope false es xs = true → PA X xs (rPar (vw X cl H0) Ew is (evEs T es))
  | [], .nil, X, cl, H0, Ew, T, nm, k, xs, ok, hf, h => by
    cases xs with
    | nil =>
      refine ⟨fun pos pins s σ H Q I ⟨Ω, ρ, st, rel, sr, po⟩ => pa_nil.run pos pins s σ H Q I ?_⟩
      have po : Po (ret [] st) Ω H _ _ := po
      exact po.ret sr [] .nil
    | cons _ _ => simp [chkEs] at h
  | [], .cons _ _, _, _, _, _, _, _, _, _, _, hf, _ => by simp [frsB] at hf
  | _ :: _, .nil, _, _, _, _, _, _, _, _, _, hf, _ => by simp [frsB] at hf
  | (i, b) :: is, .cons e es, X, cl, H0, Ew, T, nm, k, xs, ok, hf, h => by
    cases xs with
    | nil => simp [chkEs] at h
    | cons y ys =>
      simp only [chkEs, Bool.and_eq_true] at h
      simp only [frsB, Bool.and_eq_true, Bool.or_eq_true, Bool.not_eq_true'] at hf
      obtain ⟨hb, hf⟩ := hf
      have rest := pa_par (is := is) (H0 := H0) ok hf h.2
      cases b with
      | false =>
        refine ⟨fun pos pins s σ H Q I ⟨Ω, ρ, st, rel, sr, po⟩ => (pa_cons ((soE e).a (H0 := H0) ok h.1) rest (star_of (okX_of h.1) ys X.env)).run pos pins s σ H Q I ?_⟩
        have po : Po (bnd (evE T e ρ) (fun d => bnd (evEs T es ρ) fun ds => ret (d :: ds)) st) Ω H _ _ := po
        refine rE_of rel sr po.bnd fun d s1 Ω1 H1 v rel1 l1 sr1 rv po1 => ?_
        refine ⟨Ω1, ρ, s1, rel1, sr1, po1.bnd.mono (fun ds s2 Ω2 H2 l2 sr2 po2 vs pa => ?_) fun _ _ _ _ _ _ z => z⟩
        exact po2.ret sr2 _ (.val (Rp.mono l2 rv) (pa.back fun p hp => l1.free hp))
      | true =>
        have hfr : isFr e = true := by simpa using hb
        refine ⟨fun pos pins s σ H Q I ⟨Ω, ρ, st, rel, sr, po⟩ => (pa_cons ((soE e).f hfr (H0 := H0) ok h.1) rest (star_of (okX_of h.1) ys X.env)).run pos pins s σ H Q I ?_⟩
        have po : Po (bnd (evE T e ρ) (fun d => bnd (evEs T es ρ) fun ds => ret (d :: ds)) st) Ω H _ _ := po
        refine ⟨Ω, ρ, st, rel, sr, po.bnd.mono (fun d s1 Ω1 H1 l1 sr1 po1 p ws ds ed nf nc hp hp1 ra => ?_) fun _ _ _ _ _ _ z => z⟩
        subst ed
        refine ⟨Ω1, ρ, s1, rel.mono l1, sr1, po1.bnd.mono (fun ds2 s2 Ω2 H2 l2 sr2 po2 vs pa => ?_) fun _ _ _ _ _ _ z => z⟩
        have sl : SlR X.K H Ω1 H1 (.ref p) (.own ds) := ⟨p, ws, rfl, nc, nf, hp, hp1, ra⟩
        exact po2.ret sr2 _ (.own hp (sl.mono l2) (pa.new (by rw [hp1]; simp)) (pa.back fun p hp => l1.free hp))
theorem par_go {W : Vw} {Ω0 : Wd} {is : List (Nat × Bool)} {ds : List D} {ρ ρ' : Env} {σ : L2.St} {H H1 : Hp} {Ω Ω1 : Wd} {vs : List V} (l0 : Le Ω0 W.H0 Ω H) (rel : Rel W.K W.H0 Ω ρ σ H) (l1 : Le Ω H Ω1 H1) (pa : PaA W.K H Ω1 H1 is vs ds) (hz : PL.setPar is ds ρ = some ρ') : Rel W.K W.H0 Ω1 ρ' (setV (is.map (·.1)) vs σ) H1 := by
  refine Rel.setPar (fun p hp => l0.free hp) (rel.mono l1) pa hz fun l j v h1 h2 q sq h3 h4 h5 => ?_
  obtain ⟨v', e1, e2⟩ := rel.at_ q sq h3
  rw [h5] at e1
  cases e1
  obtain ⟨a, ob, rfl, _, e3⟩ := e2.ref h4
  exact pa.new (p := a) (by rw [e3]; simp) l j h1 h2
theorem nms2 {N : List Str} {sc : Scope} {line : Nat} : ∀ {is : List (Nat × Bool)} {ts : List Expr}, locsB N sc is ts = true → (nmsOf sc line ts).length ≤ ts.length
  | _, ts, _ => by unfold nmsOf; exact List.length_filterMap_le _ _
theorem nms_cons {sc : Scope} {line : Nat} {x : Str} {p : Pos} {ts : List Expr} (h : (nmsOf sc line (.Name x p :: ts)).length = (Expr.Name x p :: ts).length) : nmsOf sc line (.Name x p :: ts) = x :: nmsOf sc line ts ∧ (nmsOf sc line ts).length = ts.length := by
  have hle : (nmsOf sc line ts).length ≤ ts.length := by unfold nmsOf; exact List.length_filterMap_le _ _
  have e : nmsOf sc line (.Name x p :: ts) = if sc.names.lookup x == some .local && p.line == line then x :: nmsOf sc line ts else nmsOf sc line ts := by
    unfold nmsOf
    rw [List.filterMap_cons]
    by_cases c : (sc.names.lookup x == some .local && p.line == line) = true
    · rw [if_pos c]; simp only [c, if_true]
    · rw [if_neg c]; simp only [c]; rfl
  by_cases c : (sc.names.lookup x == some .local && p.line == line) = true
  · rw [if_pos c] at e
    rw [e] at h ⊢
    exact ⟨rfl, by simpa using h⟩
  · rw [if_neg c] at e
    rw [e, List.length_cons] at h
    omega
theorem sc_par {is : List (Nat × Bool)} {es : Es} : SoC (.par is es) where
  a := fun {X cl Ω0 H0 Ew T nm k st} ok h => by
    unfold chkS at h
    split at h
    · rename_i ts kt pt vs kv pv pos
      simp only [Bool.and_eq_true, decide_eq_true_eq, Bool.or_eq_true] at h
      obtain ⟨⟨⟨⟨⟨hnd, hfr⟩, hes⟩, hst⟩, hl⟩, hm⟩ := h
      have hx := chkEs_ok hes
      have pa := pa_par (is := is) (H0 := H0) ok.x hfr hes
      have swf : swapsWithSole [.Tuple ts kt pt] (.Tuple vs kv pv) pos.line X.env = pure false := rfl
      rcases hm with ⟨hs, hlc⟩ | hn
      · have hw := sw_some (k := kt) (k2 := kv) (p := pt) (p2 := pv) ok.kind hx hs
        have hs' := hs
        unfold parSw at hs'
        simp only [Bool.and_eq_true, Bool.not_eq_true', beq_iff_eq, Bool.or_eq_true] at hs'
        obtain ⟨⟨⟨⟨⟨e1, e2⟩, e3⟩, e4⟩, e5⟩, e6⟩ := hs'
        cases ts with
        | nil => simp at e1
        | cons t1 ts =>
          cases is with
          | nil => simp [locsB] at hlc
          | cons i1 is =>
            obtain ⟨i1, b1⟩ := i1
            cases t1 with
            | Name x px =>
              simp only [locsB, Bool.and_eq_true, decide_eq_true_eq, beq_iff_eq] at hlc
              obtain ⟨⟨n1, lx⟩, hlc⟩ := hlc
              obtain ⟨m1, m1'⟩ := nms_cons e3
              cases ts with
              | nil => simp at e1
              | cons t2 ts =>
                cases is with
                | nil => simp [locsB] at hlc
                | cons i2 is =>
                  obtain ⟨i2, b2⟩ := i2
                  cases t2 with
                  | Name y py =>
                    simp only [locsB, Bool.and_eq_true, decide_eq_true_eq, beq_iff_eq] at hlc
                    obtain ⟨⟨n2, ly⟩, hlc⟩ := hlc
                    obtain ⟨m2, m2'⟩ := nms_cons m1'
                    rw [m1, m2] at hw
                    have nd12 : i1 ≠ i2 := fun z => by
                      simp only [List.map_cons, List.nodup_cons, List.mem_cons, not_or] at hnd
                      exact hnd.1.1 z
                    cases ts with
                    | nil =>
                      cases is with
                      | cons _ _ => simp [locsB] at hlc
                      | nil =>
                        cases vs with
                        | nil => simp at e2
                        | cons a vs =>
                          cases vs with
                          | nil => simp at e2
                          | cons b vs =>
                            cases vs with
                            | cons _ _ => simp at e2
                            | nil =>
                              refine PS_imp (ps_par ok.x.calm ok.x.nd n1 n2 nd12 lx ly pa hw swf) fun D σ H ⟨Ω, ρ, s, l0, rel, sr, po⟩ => ?_
                              have po : Pf Ω0 H0 cl Ew (bnd (evEs T es ρ) (fun ds => bnd (lift (setPar [(i1, b1), (i2, b2)] ds ρ)) fun ρ1 => ret (.nx ρ1)) s) Ω H _ _ := po
                              refine ⟨Ω, ρ, s, rel, sr, (po.bndE (W := vw X cl H0) l0).mono (fun ds s1 Ω1 H1 l1 sr1 po1 ws pw => ?_) fun _ _ _ _ _ _ z => z⟩
                              obtain ⟨ρ1, hz, q⟩ := (po1.bndE (W := vw X cl H0) (l0.trans l1)).lift
                              have rel2 := par_go (W := vw X cl H0) l0 rel l1 pw hz
                              have hl := pw.length
                              match ws, hl, rel2 with
                              | [v, w], _, rel2 => exact ⟨v, w, rfl, (q Ω1 H1 (Le.refl _ _) sr1).toNx (l0.trans l1) sr1 _ rel2⟩
                    | cons t3 ts =>
                      cases ts with
                      | cons _ _ => simp at e1
                      | nil =>
                        cases is with
                        | nil => simp [locsB] at hlc
                        | cons i3 is =>
                          obtain ⟨i3, b3⟩ := i3
                          cases t3 with
                          | Name z pz =>
                            simp only [locsB, Bool.and_eq_true, decide_eq_true_eq, beq_iff_eq] at hlc
                            obtain ⟨⟨n3, lz⟩, hlc⟩ := hlc
                            obtain ⟨m3, m3'⟩ := nms_cons m2'
                            rw [m3] at hw
                            cases is with
                            | cons _ _ => simp [locsB] at hlc
                            | nil =>
                              have nd13 : i1 ≠ i3 := fun z => by
                                simp only [List.map_cons, List.nodup_cons, List.mem_cons, not_or] at hnd
                                exact hnd.1.2.1 z
                              have nd23 : i2 ≠ i3 := fun z => by
                                simp only [List.map_cons, List.nodup_cons, List.mem_cons, not_or] at hnd
                                exact hnd.2.1.1 z
                              cases vs with
                              | nil => simp at e2
                              | cons a vs =>
                                cases vs with
                                | nil => simp at e2
                                | cons b vs =>
                                  cases vs with
                                  | nil => simp at e2
                                  | cons c vs =>
                                    cases vs with
                                    | cons _ _ => simp at e2
                                    | nil =>
                                      refine PS_imp (ps_par3 ok.x.calm ok.x.nd n1 n2 n3 nd12 nd13 nd23 lx ly lz pa hw swf) fun D σ H ⟨Ω, ρ, s, l0, rel, sr, po⟩ => ?_
                                      have po : Pf Ω0 H0 cl Ew (bnd (evEs T es ρ) (fun ds => bnd (lift (setPar [(i1, b1), (i2, b2), (i3, b3)] ds ρ)) fun ρ1 => ret (.nx ρ1)) s) Ω H _ _ := po
                                      refine ⟨Ω, ρ, s, rel, sr, (po.bndE (W := vw X cl H0) l0).mono (fun ds s1 Ω1 H1 l1 sr1 po1 ws pw => ?_) fun _ _ _ _ _ _ z => z⟩
                                      obtain ⟨ρ1, hz, q⟩ := (po1.bndE (W := vw X cl H0) (l0.trans l1)).lift
                                      have rel2 := par_go (W := vw X cl H0) l0 rel l1 pw hz
                                      have hl := pw.length
                                      match ws, hl, rel2 with
                                      | [u, v, w], _, rel2 => exact ⟨u, v, w, rfl, (q Ω1 H1 (Le.refl _ _) sr1).toNx (l0.trans l1) sr1 _ rel2⟩
                          | _ => simp [locsB] at hlc
                  | _ => simp [locsB] at hlc
            | _ => simp [locsB] at hlc
      · have hw := sw_none (k := kt) (k2 := kv) (p := pt) (p2 := pv) ok.kind hx hn
        obtain ⟨g1, g2, g3⟩ := sts_of (X := X) (cl := tt1) ok.x.nd (fun x _ => ok.fn x) hst
        refine PS_imp (ps_asg (pe_tup pa) (pg_tup ok.x.calm g1 g2 g3) swf hw) fun D σ H ⟨Ω, ρ, s, l0, rel, sr, po⟩ => ?_
        have po : Pf Ω0 H0 cl Ew (bnd (evEs T es ρ) (fun ds => bnd (lift (setPar is ds ρ)) fun ρ1 => ret (.nx ρ1)) s) Ω H _ _ := po
        refine ⟨Ω, ρ, s, rel, sr, ((po.bndE (W := vw X cl H0) l0).with fun a s' e => evEs_len T hes e).mono (fun ds s1 Ω1 H1 l1 sr1 po1 ws pw => ?_) fun _ _ _ _ _ _ z => z⟩
        obtain ⟨el, po1⟩ := po1
        obtain ⟨ρ1, hz, q⟩ := (po1.bndE (W := vw X cl H0) (l0.trans l1)).lift
        have hlen := pw.length
        have hfl : ∀ {is : List (Nat × Bool)} {es : Es} {xs : List Expr}, frsB is es = true → chkEs X.N nm X.env.scope false es xs = true → is.length = xs.length := by
          intro is
          induction is with
          | nil =>
            intro es xs h1 h2
            cases es with
            | nil => cases xs with
              | nil => rfl
              | cons _ _ => simp [chkEs] at h2
            | cons _ _ => simp [frsB] at h1
          | cons i is ih =>
            intro es xs h1 h2
            cases es with
            | nil => simp [frsB] at h1
            | cons e es =>
              cases xs with
              | nil => simp [chkEs] at h2
              | cons x xs =>
                simp only [chkEs, Bool.and_eq_true] at h2
                simp only [frsB, Bool.and_eq_true] at h1
                rw [List.length_cons, List.length_cons, ih h1.2 h2.2]
        refine ⟨?_, fun p hp => ?_⟩
        · rw [hlen, hfl hfr hes, sizeLine_eq]; omega
        · have lu : Le Ω1 H1 Ω1 (upd H1 p (.tup ws)) := Le.upd_new hp
          have rel2 := par_go (W := vw X cl H0) l0 rel (l1.trans lu) (pw.mono lu) hz
          refine ⟨p, ws, rfl, SqT.of upd_same, by rw [hlen, List.length_map], gNms_of (by rw [hlen, List.length_map]) ?_⟩
          exact (q Ω1 _ lu (sr1.upd_new hp)).toNx ((l0.trans l1).trans lu) (sr1.upd_new hp) _ rel2
    · cases h
theorem sc_no {c : C} (h : ∀ N nm sc st, chkS N nm sc c st = false) : SoC c where
  a := fun {X cl Ω0 H0 Ew T nm k st} ok hc => by rw [h] at hc; cases hc
mutual
theorem soC : ∀ c : C, SoC c
  | .set _ _ => sc_set
  | .setO _ _ => sc_setO
  | .unp _ _ => sc_unp
  | .par _ _ => sc_par
  | .aug _ _ _ => sc_aug
  | .app _ _ => sc_app
  | .setI _ _ _ => sc_setI
  | .cupS _ _ _ => sc_cupS
  | .exp _ => sc_exp
  | .ret _ => sc_ret
  | .retN => sc_retN
  | .ifs c a b => sc_ifs (soCs a) (soCs b)
  | .for_ tg it b => sc_for (soCs b)
  | .whl c b => sc_whl (soCs b)
  | .rse _ _ => sc_no fun _ _ _ _ => by simp [chkS]
  | .frz _ => sc_no fun _ _ _ _ => by simp [chkS]
  | .pass => sc_pass
  | .nev => sc_nev
theorem soCs : ∀ cs : Cs, SoCs cs
  | .nil => sc_nil
  | .cons c cs => sc_cons (soC c) (soCs cs)
end
end PL
end

section
set_option Elab.async false
set_option linter.all false
set_option maxRecDepth 100000
set_option maxHeartbeats 4000000
/-! PL17: defs, by the depth of the calls. -/
namespace PL
open PySem PySem.Spec PyProof.Rows L2

theorem start_get {ds : List D} {n i : Nat} {sl : Sl} (h : (startE n ds)[i]? = some (some sl)) : ∃ d, ds[i]? = some d ∧ sl = .val d := by
  unfold startE at h
  by_cases hi : i < ds.length
  · rw [List.getElem?_append_left (by simpa using hi), List.getElem?_map] at h
    obtain ⟨d, h1, h2⟩ := Option.map_eq_some_iff.mp h
    cases h2
    exact ⟨d, h1, rfl⟩
  · rw [List.getElem?_append_right (by simpa using hi), List.getElem?_replicate] at h
    split at h <;> cases h
theorem start_rel {K : PySem.W.Frag} {H0 : Hp} {Ω : Wd} {H : Hp} {N : List Str} {vs : List V} {ds : List D} (r : RpA K Ω H vs ds) : Rel K H0 Ω (startE N.length ds) (L2.start N vs) H := by
  have el := r.length
  refine ⟨by simp [startE, L2.start, el], fun i sl h => ?_, fun i j si sj v hij h1 h2 o1 o2 h3 => ?_⟩
  · obtain ⟨d, h1, rfl⟩ := start_get h
    obtain ⟨v, h2, h3⟩ := r.get h1
    refine ⟨v, ?_, h3⟩
    have hi : i < vs.length := (List.getElem?_eq_some_iff.mp h2).1
    unfold L2.start
    rw [List.getElem?_append_left (by simpa using hi), List.getElem?_map, h2]
    rfl
  · obtain ⟨d, _, rfl⟩ := start_get h1
    cases o1
/-- what is known of a def -/
structure FnS (K : PySem.W.Frag) (mg : Str → Option Value) (Pt : Nat → Option Fn) (nm : Nm) (n : Nat) : Prop where
  ex : ∃ (a : Addr) (fd : FuncData) (ps N : List Str) (x qual : Str) (params : Arguments) (body : List Stmt) (scope : Scope) (fn : Fn), Pt n = some fn ∧ mg (nm.fn n) = some (.ref a) ∧ Binds K fd ps [] ∧ FunD K x qual params body scope [] [] a fd ∧
    FnScope N ps scope ∧ chkSs N nm scope fn.body body = true ∧ ps.length = fn.ps ∧ N.length = fn.sl
theorem calls_succ (Pt : Nat → Option Fn) (cs : Nat → Option D) (k n : Nat) {fn : Fn} (h : Pt n = some fn) : calls Pt cs (k + 1) n = runF ⟨calls Pt cs k, cs⟩ fn := by
  funext ds
  show (match Pt n with | some d => runF ⟨calls Pt cs k, cs⟩ d ds | none => fail) = _
  rw [h]
theorem body_ok {P : Program} {w : World} {K : PySem.W.Frag} {mg : Str → Option Value} {base : Heap} {cl : Nat → Value} {T : Ct} {nm : Nm} {k : Nat} {N ps : List Str} {qual : Str} {scope : Scope} {f : Addr} {cdv : Value} {A : Around} {outer : List PySem.Env} {s : Shared} {H : Hp} {E : XK}
    (S : FnScope N ps scope) (g : Gk P w K mg base cl T nm k) (hr : Room k (A.deeper (envOfC qual scope s.heap.objs.size f cdv))) : SOk (cxOf (L2.CX P w) P w K mg base N qual scope f cdv A outer s H E) cl E T nm k :=
  ⟨⟨S.nd, rfl, hr, g, passes_call (takes_of rfl rfl rfl rfl) (fun _ _ _ _ h => h)⟩, passes_of rfl, fun _ => rfl, S.kind, takes_of rfl rfl rfl rfl⟩
theorem fn_ok {P : Program} {w : World} {K : PySem.W.Frag} {mg : Str → Option Value} {base : Heap} {cl : Nat → Value} {Pt : Nat → Option Fn} {cs : Nat → Option D} {nm : Nm} {k n : Nat} (S : FnS K mg Pt nm n) (g : Gk P w K mg base cl ⟨calls Pt cs k, cs⟩ nm k) :
    FnH P w K mg base cl (k + 1) (calls Pt cs (k + 1) n) (nm.fn n) := by
  obtain ⟨a, fd, ps, N, x, qual, params, body, scope, fn, h1, h2, h3, h4, h5, h6, h7, h8⟩ := S.ex
  rw [calls_succ Pt cs k n h1]
  refine ⟨a, fd, ps, h2, h4.kp, h3, ?_, fun ds s hn => ?_⟩
  · refine h4.ok h5 (fun vs H Q E h => ?_) fun cdv A outer s H vs Q E hr h => ?_
    · obtain ⟨Ω, st, ds, e1, _, r, _⟩ := h
      rw [r.length, e1]
    · obtain ⟨Ω, st, ds, e1, sr, r, po⟩ := h
      have ok := body_ok (P := P) (outer := outer) (H := H) (E := E) h5 g hr
      refine ⟨_, (soCs fn.body).a (Ω0 := Ω) (H0 := H) ok h6, Ω, startE fn.sl ds, st, Le.refl _ _, ?_, sr, ?_⟩
      · rw [← h8]; exact start_rel r
      · unfold runF at po
        rw [if_pos (by rw [e1, h7])] at po
        unfold bnd at po
        show Pf Ω H cl E (evCs ⟨calls Pt cs k, cs⟩ fn.body (startE fn.sl ds) st) Ω H _ _
        cases e2 : evCs ⟨calls Pt cs k, cs⟩ fn.body (startE fn.sl ds) st with
        | no => rw [e2] at po; exact po.elim
        | er q s' =>
          rw [e2] at po
          exact fun Ω' H' l sr' => po Ω' H' l sr'
        | ok f s' =>
          rw [e2] at po
          cases f with
          | nx ρ => exact fun Ω' H' l _ sr' σ' _ => po Ω' H' l sr' .non .non
          | rt d => exact fun Ω' H' l _ sr' v rv => po Ω' H' l sr' v rv
  · unfold runF at hn
    by_cases e : ds.length = fn.ps
    · rw [e, h7]
    · rw [if_neg e] at hn; exact absurd rfl hn
theorem alls_ok {P : Program} {w : World} {K : PySem.W.Frag} {mg : Str → Option Value} {base : Heap} {cl : Nat → Value} {Pt : Nat → Option Fn} {cs : Nat → Option D} {nm : Nm} (bl : ∀ x ∈ bNames, mg x = none)
    (S : ∀ n, nm.isF n = true → FnS K mg Pt nm n) (hc : ∀ n d, cs n = some d → ∃ v u, mg (nm.cs n) = some u ∧ RelV v u ∧ ∀ Ω H, Rp K Ω H v d) : ∀ k, Gk P w K mg base cl ⟨calls Pt cs k, cs⟩ nm k
  | 0 => ⟨bl, fun n hn => by
      obtain ⟨a, fd, ps, N, x, qual, params, body, scope, fn, h1, h2, h3, h4, h5, h6, h7, h8⟩ := (S n hn).ex
      refine ⟨a, fd, ps, h2, h4.kp, h3, ⟨fun vs H Q E h => ?_, fun A outer s H args us vs Q E hr he hb hv h => ?_⟩, fun ds s hn => absurd rfl hn⟩
      · obtain ⟨Ω, st, ds, e1, sr, r, po⟩ := h
        exact po.elim
      · obtain ⟨Ω, st, ds, e1, sr, r, po⟩ := h
        exact po.elim, hc⟩
  | k + 1 => ⟨bl, fun n hn => fn_ok (S n hn) (alls_ok bl S hc k), hc⟩
end PL
end

section
set_option Elab.async false
set_option linter.all false
set_option maxRecDepth 100000
set_option maxHeartbeats 4000000
/-! PL18: the cup is made; the law. -/
namespace PL
open PySem PySem.Spec PyProof.Rows L2

/-- cell = abs((list(script) + [0])[0]) -/
def cupSt (N : List Str) (sc : Scope) : Stmt → Bool
  | .Assign [.Name y _] (.Call (.Name f1 _) [.Subscript (.BinOp (.Call (.Name f2 _) [.Name z _] [] _) .Add (.List [.Constant (.int n) _ _] _) _) (.Constant (.int m) _ _) _] [] _) _ =>
    stB N sc tt1 1 y && decide (f1 = "abs") && glB sc f1 && decide (f2 = "list") && glB sc f2 && slB N sc 0 z && decide (n = 0) && decide (m = 0)
  | _ => false
def Wd0 : Wd := ⟨fun _ => False, none, fun _ h => h.elim⟩
theorem sr0 (H : Hp) : SRel Wd0 ⟨none⟩ H := ⟨trivial, fun _ h => h.elim⟩
/-- the heap grows -/
def Grw (H H' : Hp) : Prop := ∀ b o, H b = some o → H' b = some o
theorem grw_le {Ω Ω' : Wd} {H H' : Hp} (l : Le Ω H Ω' H') (hc : Ω.cup = none) : Grw H H' := fun b o h => l.keep b o h fun q => by rw [hc] at q; cases q
theorem Grw.trans {H H1 H2 : Hp} (a : Grw H H1) (b : Grw H1 H2) : Grw H H2 := fun x o h => b x o (a x o h)
theorem grw_upd {H : Hp} {p : Addr} {o : HO} (hp : H p = none) : Grw H (upd H p o) := fun b u h => by rw [upd_ne (ne_of_none h hp)]; exact h
def cellOf (ns : List Int) : Int := if ns.headD 0 < 0 then -(ns.headD 0) else ns.headD 0
theorem cell_nn (ns : List Int) : 0 ≤ cellOf ns := by unfold cellOf; split <;> omega
theorem rel_none {K : PySem.W.Frag} {H0 : Hp} {Ω : Wd} {H : Hp} {σ : L2.St} : Rel K H0 Ω (List.replicate σ.length none) σ H :=
  have h0 : ∀ (i : Nat) (sl : Sl), (List.replicate σ.length (none : Option Sl))[i]? ≠ some (some sl) := fun i sl h => by
    rw [List.getElem?_replicate] at h
    split at h <;> cases h
  ⟨by simp, fun i sl h => absurd h (h0 i sl), fun i j si sj v _ h => absurd h (h0 i si)⟩
/-- whatever the entry -/
theorem pss_ex {X : Cx} {cl : Nat → Value} {Ew : XK} {T : Ct} {nm : Nm} {k : Nat} {cs : Cs} {sts : List Stmt} (ok : SOk X cl Ew T nm k) (h : chkSs X.N nm X.env.scope cs sts = true) : PSs X sts (fun D σ H => ∃ Ω0 H0, rS (vw X cl H0) Ω0 Ew (evCs T cs) D σ H) :=
  ⟨fun pins s σ H D I ⟨Ω0, H0, q⟩ => ((soCs cs).a (Ω0 := Ω0) (H0 := H0) ok h).run pins s σ H D I q⟩
theorem ints_rp {K : PySem.W.Frag} {Ω : Wd} {H : Hp} (ns : List Int) : RpA K Ω H (ns.map V.int) (ns.map D.int) := RpA.ofInts ns
def tCupSt (K : PySem.W.Frag) : TS := fun D σ H => ∃ (a : Addr) (ns : List Int), σ[0]? = some (some (.ref a)) ∧ SqL K H a (ns.map V.int) ∧ ns.length ≤ 1000 ∧ ∀ H', Grw H H' → D.nx (σ.set 1 (some (.int (cellOf ns)))) H'
theorem cup_st {X : Cx} {cl : Nat → Value} {Ew : XK} {T : Ct} {nm : Nm} {k : Nat} {st : Stmt} (ok : SOk X cl Ew T nm k) (h : cupSt X.N X.env.scope st = true) : PS X st (tCupSt X.K) := by
  unfold cupSt at h
  split at h
  · rename_i y p1 f1 p2 f2 p3 z p4 p5 n k1 p6 p7 p8 m k2 p9 p10 p11 p12
    simp only [Bool.and_eq_true, decide_eq_true_eq] at h
    obtain ⟨⟨⟨⟨⟨⟨⟨h1, rfl⟩, h2⟩, rfl⟩, h3⟩, h4⟩, rfl⟩, rfl⟩ := h
    obtain ⟨a1, a2, a3⟩ := st_of (X := X) (fun x _ => ok.fn x) h1
    obtain ⟨g1, g2, g3⟩ := gl_of h2
    obtain ⟨l1, l2, l3⟩ := gl_of h3
    obtain ⟨s1, s2, s3, s4⟩ := sl_of h4
    obtain ⟨c1, c2, c3, _⟩ := bf_ok (X := X) ok.x.calm (b := .abs) rfl
    obtain ⟨d1, d2, d3, _⟩ := bf_ok (X := X) ok.x.calm (b := .list) rfl
    have e0 : PE X (.List [.Constant (.int 0) k1 p6] p7) (rE (vw X cl (fun _ => none)) E0 true (evE T (.lst (.cons (.int 0) .nil)))) := PE_imp (rE_up (PE_imp (pe_lst (pa_cons pe_int pa_nil)) (t' := rE (vw X cl (fun _ => none)) E0 false (evE T (.lst (.cons (.int 0) .nil)))) fun σ H Q ⟨Ω, ρ, s, rel, sr, po⟩ => by
      refine ⟨by show 1 ≤ sizeLine; rw [sizeLine_eq]; omega, fun p hp => ?_⟩
      have po : Po (ret (D.lst [.int 0]) s) Ω H _ _ := po
      exact po _ _ (Le.new_at hp (sr.ne hp)) (sr.new_at hp) _ (.lst (show (Ω.add p (sr.ne hp)).F p from Or.inr rfl) upd_same (.cons (.int 0) .nil)))) fun σ H Q q => q
    have pe := pe_callB c1 g1 (ok.x.g.bl _ c2) c3 (pa_cons (pe_ix (pos := p10) idx_ok (pe_op (pos := p8) (bop_ok .add) (pe_callTy (p := p3) (pos := p5) call_list_of l1 (ok.x.g.bl _ d2) d3 (pa_cons (pe_var (pos := p4) s1 s2 s3 s4) pa_nil) l3 l2) e0) (pe_int (j := k2) (pos := p9) (i := 0)) (fun _ _ => rfl)) pa_nil) g3 g2 (p := p2) (pos := p11)
    refine PS_imp (ps_set ok.x.nd a1 a2 pe rfl a3) fun En σ H ⟨a, ns, e, hS, hl, q⟩ => ?_
    refine ⟨_, e, a, ns.map V.int, rfl, .inl hS, fun l hl0 => ?_⟩
    have hle : Le Wd0 H Wd0 (upd H l (.lst (ns.map V.int))) := Le.upd_new hl0
    refine ⟨Wd0, List.replicate σ.length none, ⟨none⟩, rel_none, sr0 _, fun Ω1 H1 le1 sr1 v1 rv1 => ?_⟩
    have hA : H1 l = some (.lst (ns.map V.int)) := le1.keep l _ upd_same fun z => by cases z
    refine ⟨Ω1, ⟨none⟩, .lst (ns.map D.int), .lst [.int 0], .lst (ns.map D.int ++ [.int 0]), sr1, ⟨l, _, rfl, (fun z => by have q := le1.cup; rw [z] at q; cases q), hA, ints_rp ns⟩, rv1, ?_, fun Ω2 H2 le2 sr2 v2 rv2 => ?_⟩
    · show (if (ns.map D.int).length + [D.int 0].length ≤ BIG then some (D.lst (ns.map D.int ++ [.int 0])) else none) = _
      rw [if_pos]
      simp only [List.length_map, List.length_cons, List.length_nil]
      have : (1001 : Nat) ≤ BIG := by decide
      omega
    · refine ⟨Ω2, ⟨none⟩, .lst (ns.map D.int ++ [.int 0]), .int 0, .int (ns.headD 0), sr2, Rp.sh rv2, (Rp.int 0 : Rp _ _ _ _ _), ?_, fun Ω3 H3 le3 sr3 v3 rv3 => ?_⟩
      · show lift (atI (ns.map D.int ++ [.int 0]) 0) ⟨none⟩ = _
        cases ns with
        | nil => rfl
        | cons n r =>
          unfold PL.atI PL.ixN
          rw [if_pos (by omega), if_pos (by simp; omega)]
          rfl
      · refine ⟨Ω3, ⟨none⟩, [.int (ns.headD 0)], .int (cellOf ns), sr3, .cons (Rp.sh rv3) .nil, rfl, fun Ω4 H4 le4 sr4 v4 rv4 => ?_⟩
        cases rv4
        have c1 : Ω1.cup = none := le1.cup
        have c2 : Ω2.cup = none := le2.cup.trans c1
        have c3 : Ω3.cup = none := le3.cup.trans c2
        exact q H4 ((grw_upd hl0).trans ((grw_le le1 rfl).trans ((grw_le le2 c1).trans ((grw_le le3 c2).trans (grw_le le4 c3)))))
  · cases h
/-- the cup that is made -/
def CupV (x y : Int) : Prop := 0 ≤ x ∧ 0 ≤ y ∧ y < 8589934592
def spCup (K : PySem.W.Frag) : Sp := fun vs H Q _ => ∃ (a : Addr) (ns : List Int), vs = [.ref a] ∧ SqL K H a (ns.map V.int) ∧ ns.length ≤ 1000 ∧ ∀ (H' : Hp) (c : Addr) (x y : Int), Grw H H' → H c = none → H' c = some (.lst [.int x, .int y]) → CupV x y → Q (.ref c) H'
theorem cup_ok {P : Program} {w : World} {K : PySem.W.Frag} {mg : Str → Option Value} {base : Heap} {cl : Nat → Value} {T : Ct} {nm : Nm} {k : Nat} {x qual : Str} {params : Arguments} {scope : Scope} {a : Addr} {fd : FuncData} {N ps : List Str} {st : Stmt} {rest : List Stmt} {e : E}
    (F : FunD K x qual params (st :: rest) scope [] [] a fd) (S : FnScope N ps scope) (g : Gk P w K mg base cl T nm k) (hps : ps.length = 1) (hN : N.length = 2) (h1 : cupSt N scope st = true) (h2 : chkSs N nm scope (.cons (.ret e) .nil) rest = true)
    (he : ∀ cell : Int, 0 ≤ cell → ∃ x y, CupV x y ∧ ∀ s, evE T e [none, some (.val (.int cell))] s = .ok (.lst [.int x, .int y]) s) : FnOk P w K mg base (L2.CX P w) (k + 1) a fd ps (spCup K) := by
  refine F.ok S (fun vs H Q E h => ?_) fun cdv A outer s H vs Q E hr h => ?_
  · obtain ⟨a, ns, rfl, _⟩ := h
    rw [hps]; rfl
  · obtain ⟨a, ns, rfl, hS, hl, q⟩ := h
    have ok := body_ok (P := P) (outer := outer) (H := H) (E := E) S g hr
    refine ⟨_, pss_cons (cup_st ok h1) (pss_ex ok h2), ?_⟩
    refine ⟨a, ns, rfl, hS, hl, fun H1 g1 => ?_⟩
    obtain ⟨x, y, cv, ev⟩ := he (cellOf ns) (cell_nn ns)
    refine ⟨Wd0, H1, Wd0, [none, some (.val (.int (cellOf ns)))], ⟨none⟩, Le.refl _ _, ?_, sr0 _, ?_⟩
    · refine ⟨by simp [L2.start, hN], fun i sl h => ?_, fun i j si sj v _ h _ o => ?_⟩
      · match i, h with
        | 1, h =>
          cases h
          refine ⟨.int (cellOf ns), ?_, .int _⟩
          have : (L2.start N [V.ref a]).length = 2 := by simp [L2.start, hN]
          rw [List.getElem?_set_self (by omega)]
      · match i, h with
        | 1, h => cases h; cases o
    · show Pf Wd0 H1 cl E (evCs T (.cons (.ret e) .nil) [none, some (.val (.int (cellOf ns)))] ⟨none⟩) Wd0 H1 _ _
      have e2 : evCs T (.cons (.ret e) .nil) [none, some (.val (.int (cellOf ns)))] ⟨none⟩ = .ok (.rt (.lst [.int x, .int y])) ⟨none⟩ := by
        have h1 : evC T (.ret e) [none, some (.val (.int (cellOf ns)))] ⟨none⟩ = .ok (.rt (.lst [.int x, .int y])) ⟨none⟩ := by
          show bnd (evE T e _) (fun d => ret (Fl.rt d)) _ = _
          unfold bnd
          rw [ev]
          rfl
        show bnd (evC T (.ret e) _) _ _ = _
        unfold bnd
        rw [h1]
        rfl
      rw [e2]
      intro Ω' H' l0 lf sr' v rv
      cases rv with
      | lst f hp r =>
        cases r with
        | cons r1 r2 =>
          cases r2 with
          | cons r2 r3 =>
            cases r3
            cases r1
            cases r2
            have gr : Grw H1 H' := grw_le l0 rfl
            refine q H' _ x y (g1.trans gr) ?_ hp cv
            rcases l0.new _ f with z | z
            · exact z.elim
            · rename_i p
              cases e3 : H p with
              | none => rfl
              | some o => rw [g1 p o e3] at z; cases z

/-! ### the law -/
/-- cup = _law_cup(script) -/
def lawSt (N : List Str) (sc : Scope) (fc : Str) : Stmt → Bool
  | .Assign [.Name y _] (.Call (.Name f1 _) [.Name z _] [] _) _ => stB N sc tt1 1 y && decide (f1 = fc) && glB sc f1 && slB N sc 0 z
  | _ => false
def spLaw (K : PySem.W.Frag) : Sp := fun vs H Q _ => ∃ (a : Addr) (ns : List Int), vs = [.ref a] ∧ SqL K H a (ns.map V.int) ∧ ns.length ≤ 1000 ∧ ∀ H', Q (.bl true) H'
def cupEnv (n : Nat) : Env := none :: some (.val .cup) :: List.replicate (n - 2) none
theorem law_st {X : Cx} {cl : Nat → Value} {Ew : XK} {T : Ct} {nm : Nm} {k : Nat} {fc : Str} {st : Stmt} {a : Addr} {fd : FuncData} {ps : List Str} (ok : SOk X cl Ew T nm k) (h : lawSt X.N X.env.scope fc st = true)
    (F : FnOk X.prog X.w X.K X.mg X.base (L2.CX X.prog X.w) k a fd ps (spCup X.K)) (hm : X.mg fc = some (.ref a)) (hk : PySem.W.keepIn X.K (.ref a) = true) (hb : Binds X.K fd ps []) :
    PS X st (tAsg (tCall (spCup X.K) [] Ew (tCons (tVar 0) tNil)) (gName 1)) := by
  unfold lawSt at h
  split at h
  · simp only [Bool.and_eq_true, decide_eq_true_eq] at h
    obtain ⟨⟨⟨h1, rfl⟩, h2⟩, h3⟩ := h
    obtain ⟨a1, a2, a3⟩ := st_of (X := X) (fun x _ => ok.fn x) h1
    obtain ⟨g1, g2, g3⟩ := gl_of h2
    obtain ⟨s1, s2, s3, s4⟩ := sl_of h3
    exact ps_set ok.x.nd a1 a2 (pe_call F ok.x.room g1 hm hk hb .nil ok.x.ps (pa_cons (pe_var s1 s2 s3 s4) pa_nil) g2) rfl a3
  · cases h
theorem law_ok {P : Program} {w : World} {K : PySem.W.Frag} {mg : Str → Option Value} {base : Heap} {cl : Nat → Value} {T : Ct} {nm : Nm} {k : Nat} {x qual : Str} {params : Arguments} {scope : Scope} {a ac : Addr} {fd fdc : FuncData} {N ps psc : List Str} {fc : Str} {st : Stmt} {rest : List Stmt} {cs : Cs}
    (F : FunD K x qual params (st :: rest) scope [] [] a fd) (S : FnScope N ps scope) (g : Gk P w K mg base cl T nm k) (hps : ps.length = 1) (hN : 2 ≤ N.length) (h1 : lawSt N scope fc st = true) (h2 : chkSs N nm scope cs rest = true)
    (Fc : FnOk P w K mg base (L2.CX P w) k ac fdc psc (spCup K)) (hm : mg fc = some (.ref ac)) (hk : PySem.W.keepIn K (.ref ac) = true) (hb : Binds K fdc psc [])
    (hl : ∀ x y, CupV x y → ∃ s', evCs T cs (cupEnv N.length) ⟨some (x, y)⟩ = .ok (.rt (.bl true)) s') : FnOk P w K mg base (L2.CX P w) (k + 1) a fd ps (spLaw K) := by
  refine F.ok S (fun vs H Q E h => ?_) fun cdv A outer s H vs Q E hr h => ?_
  · obtain ⟨a, ns, rfl, _⟩ := h
    rw [hps]; rfl
  · obtain ⟨a, ns, rfl, hS, hz, q⟩ := h
    have ok := body_ok (P := P) (outer := outer) (H := H) (E := E) S g hr
    refine ⟨_, pss_cons (law_st ok h1 Fc hm hk hb) (pss_ex ok h2), ?_⟩
    refine ⟨.ref a, rfl, a, ns, rfl, hS, hz, fun H1 c x y g1 hc hv cv => ?_⟩
    obtain ⟨s', ev⟩ := hl x y cv
    have nf : ¬ (fun _ : Addr => False) c := fun z => z
    refine ⟨⟨fun _ => False, some c, fun _ h => h.elim⟩, H1, ⟨fun _ => False, some c, fun _ h => h.elim⟩, cupEnv N.length, ⟨some (x, y)⟩, Le.refl _ _, ?_, ⟨hv, fun _ h => h.elim⟩, ?_⟩
    · have hlen : (L2.start N [V.ref a]).length = N.length := by simp [L2.start]; omega
      have hget : ∀ (i : Nat) (sl : Sl), (cupEnv N.length)[i]? = some (some sl) → i = 1 ∧ sl = .val .cup := by
        intro i sl h
        match i, h with
        | 0, h => cases h
        | 1, h => cases h; exact ⟨rfl, rfl⟩
        | i + 2, h =>
          have h : (List.replicate (N.length - 2) (none : Option Sl))[i]? = some (some sl) := h
          rw [List.getElem?_replicate] at h
          split at h <;> cases h
      refine ⟨by rw [List.length_set, hlen]; simp [cupEnv]; omega, fun i sl h => ?_, fun i j si sj v _ h _ o => ?_⟩
      · obtain ⟨rfl, rfl⟩ := hget i sl h
        exact ⟨.ref c, by rw [List.getElem?_set_self (by rw [hlen]; omega)], .cup rfl⟩
      · obtain ⟨rfl, rfl⟩ := hget i si h
        cases o
    · rw [ev]
      intro Ω' H' _ _ _ v rv
      cases rv
      exact q H'
/-- nothing is let out -/
theorem FnOk.cx0 {P : Program} {w : World} {K : PySem.W.Frag} {mg : Str → Option Value} {base : Heap} {k : Nat} {f : Addr} {fd : FuncData} {ps : List Str} {sp : Sp} (F : L2.FnOk P w K mg base (L2.CX P w) k f fd ps sp) (h : ∀ vs H Q E, sp vs H Q E → sp vs H Q E0) :
    L2.FnOk P w K mg base (fun _ _ _ _ _ _ => False) k f fd ps sp :=
  ⟨F.len, fun A outer s H args us vs Q E hr he hb hv hs => codeAny_mono (F.run A outer s H args us vs Q E0 hr he hb hv (h _ _ _ _ hs)) fun r s' q => by
    cases r with
    | error e =>
      obtain ⟨_, _, _, _, _, _, _, _, _, _, _, _, z⟩ := q
      exact z
    | ok fl => cases fl <;> exact q⟩
end PL
end

section
set_option Elab.async false
set_option linter.all false
set_option maxRecDepth 100000
set_option maxHeartbeats 4000000
/-! PM: rules of the small language, in plain Lean. -/
namespace PL

/-! ### the monad -/
section
variable {α β γ : Type}
@[simp] theorem bnd_ret (a : α) (f : α → M β) : bnd (ret a) f = f a := Eq.trans rfl rfl
@[simp] theorem bnd_bnd (x : M α) (f : α → M β) (g : β → M γ) : bnd (bnd x f) g = bnd x fun a => bnd (f a) g := bnd_assoc x f g
@[simp] theorem bnd_id (x : M α) : bnd x (fun d => ret d) = x := by funext s; unfold bnd; cases x s <;> rfl
@[simp] theorem lift_some (a : α) : lift (some a) = ret a := Eq.trans rfl rfl
@[simp] theorem ret_inj (a b : α) : (ret a = ret b) = (a = b) := by
  apply propext
  constructor
  · intro h
    have := congrFun h ⟨none⟩
    cases this; rfl
  · intro h; rw [h]
@[simp] theorem nr_ret (a : α) : nr (ret a) = ret a := Eq.trans rfl rfl
@[simp] theorem asB_bl (b : Bool) : asB (.bl b) = ret b := Eq.trans rfl rfl
@[simp] theorem asI_int (i : Int) : asI (.int i) = ret i := Eq.trans rfl rfl
@[simp] theorem asIo_none : asIo none = ret none := Eq.trans rfl rfl
@[simp] theorem asIo_some (i : Int) : asIo (some (.int i)) = ret (some i) := Eq.trans rfl rfl
end
def rng1 (j : Int) : M (List D) := if -1000000 ≤ j ∧ j ≤ BIG then ret (rangeD 0 j.toNat) else fail
def rng2 (i j : Int) : M (List D) := if -1000000 ≤ i ∧ i ≤ 1000000 ∧ -1000000 ≤ j ∧ j ≤ 1000000 ∧ (j - i) ≤ BIG then ret (rangeD i (j - i).toNat) else fail
def capL (ys : List D) : M D := if ys.length ≤ BIG then ret (.lst ys) else fail
theorem rng1_nat {n : Nat} (h : n ≤ 100000) : rng1 (n : Int) = ret ((List.range n).map fun (i : Nat) => .int (i : Int)) := by
  unfold rng1 rangeD
  have : (BIG : Int) = 100000 := rfl
  rw [if_pos (by omega)]
  simp
theorem rng1_int {j : Int} (h : j ≤ 100000) (h0 : 0 ≤ j) : rng1 j = ret ((List.range j.toNat).map fun (i : Nat) => .int (i : Int)) := by
  obtain ⟨n, rfl⟩ := Int.eq_ofNat_of_zero_le h0
  rw [rng1_nat (by omega)]
  simp
theorem rng2_nat {i j : Nat} (h : j ≤ 100000) (hi : i ≤ 100000) : rng2 (i : Int) (j : Int) = ret ((List.range (j - i)).map fun (k : Nat) => .int ((i + k : Nat) : Int)) := by
  unfold rng2 rangeD
  have : (BIG : Int) = 100000 := rfl
  rw [if_pos (by omega)]
  have e : ((j : Int) - (i : Int)).toNat = j - i := by omega
  rw [e]
  simp
theorem capL_ok {ys : List D} (h : ys.length ≤ 100000) : capL ys = ret (.lst ys) := by
  unfold capL
  rw [if_pos (show ys.length ≤ BIG from h)]
section
variable (T : Ct) (ρ : Env)
@[simp] theorem ev_non : evE T .non ρ = ret .non := Eq.trans rfl rfl
@[simp] theorem ev_bl (b : Bool) : evE T (.bl b) ρ = ret (.bl b) := Eq.trans rfl rfl
@[simp] theorem ev_int (i : Int) : evE T (.int i) ρ = ret (.int i) := Eq.trans rfl rfl
@[simp] theorem ev_str (l : List Nat) : evE T (.str l) ρ = ret (.str l) := Eq.trans rfl rfl
@[simp] theorem ev_var (i : Nat) : evE T (.var i) ρ = get ρ i := Eq.trans rfl rfl
@[simp] theorem ev_own (i : Nat) : evE T (.own i) ρ = getO ρ i := Eq.trans rfl rfl
@[simp] theorem ev_glo (n : Nat) : evE T (.glo n) ρ = lift (T.cs n) := Eq.trans rfl rfl
@[simp] theorem ev_tup (es : Es) : evE T (.tup es) ρ = bnd (evEs T es ρ) fun ds => ret (.tup ds) := Eq.trans rfl rfl
@[simp] theorem ev_lst (es : Es) : evE T (.lst es) ρ = bnd (evEs T es ρ) fun ds => ret (.lst ds) := Eq.trans rfl rfl
@[simp] theorem ev_bin (o : Bop) (a b : E) : evE T (.bin o a b) ρ = bnd (evE T a ρ) fun x => bnd (evE T b ρ) fun y => lift (bopD o x y) := Eq.trans rfl rfl
@[simp] theorem ev_neg (a : E) : evE T (.neg a) ρ = bnd (evE T a ρ) fun x => bnd (asI x) fun i => ret (.int (-i)) := Eq.trans rfl rfl
@[simp] theorem ev_not (a : E) : evE T (.not a) ρ = bnd (evE T a ρ) fun x => bnd (asB x) fun b => ret (.bl (!b)) := Eq.trans rfl rfl
@[simp] theorem ev_and (es : Es) : evE T (.and es) ρ = evAnd T es ρ := Eq.trans rfl rfl
@[simp] theorem ev_or (es : Es) : evE T (.or es) ρ = evOr T es ρ := Eq.trans rfl rfl
@[simp] theorem ev_ite (c a b : E) : evE T (.ite c a b) ρ = bnd (evE T c ρ) fun x => bnd (asB x) fun k => if k = true then evE T a ρ else evE T b ρ := Eq.trans rfl rfl
@[simp] theorem ev_cmp (o : Cop) (a b : E) : evE T (.cmp o a b) ρ = bnd (evE T a ρ) fun x => bnd (evE T b ρ) fun y => bnd (lift (copD o x y)) fun k => ret (.bl k) := Eq.trans rfl rfl
@[simp] theorem ev_chn (o p : Cop) (a b c : E) : evE T (.chn o p a b c) ρ = bnd (evE T a ρ) fun x => bnd (evE T b ρ) fun y => bnd (lift (copD o x y)) fun k =>
      if k = true then bnd (evE T c ρ) fun z => bnd (lift (copD p y z)) fun k2 => ret (.bl k2) else ret (.bl false) := Eq.trans rfl rfl
@[simp] theorem ev_idx (a i : E) : evE T (.idx a i) ρ = bnd (evE T a ρ) fun x => bnd (evE T i ρ) fun y => idxM x y := Eq.trans rfl rfl
@[simp] theorem ev_slc (a : E) (lo hi : OE) : evE T (.slc a lo hi) ρ = bnd (evE T a ρ) fun x => bnd (evO T lo ρ) fun l => bnd (asIo l) fun l => bnd (evO T hi ρ) fun h => bnd (asIo h) fun h => lift (slcD x l h) := Eq.trans rfl rfl
@[simp] theorem ev_isi (t : Nat) (a : E) : evE T (.isi t a) ρ = bnd (evE T a ρ) fun x => bnd (lift (isiD t x)) fun k => ret (.bl k) := Eq.trans rfl rfl
@[simp] theorem ev_bif (b : Bf) (es : Es) : evE T (.bif b es) ρ = bnd (evEs T es ρ) fun ds => lift (bifD b ds) := Eq.trans rfl rfl
@[simp] theorem ev_call (f : Nat) (es : Es) : evE T (.call f es) ρ = bnd (evEs T es ρ) fun ds => T.cf f ds := Eq.trans rfl rfl
@[simp] theorem ev_met (m : Mf) (o : E) (es : Es) : evE T (.met m o es) ρ = bnd (evE T o ρ) fun x => bnd (lift (recD m x)) fun _ => bnd (evEs T es ρ) fun ds => lift (metD m x ds) := Eq.trans rfl rfl
@[simp] theorem ev_lc (elt : E) (tg : Tg) (it : I) (c : OE) (own : List Nat) : evE T (.lc elt tg it c own) ρ = bnd (evI T it ρ) fun xs =>
      bnd (catM (fun x => nr (bnd (asg tg x (wipeE ρ own)) fun ρ1 => bnd (evTs T c ρ1) fun k =>
        if k = true then bnd (evE T elt ρ1) fun d => ret [d] else ret [])) xs) fun ys => ret (.lst ys) := Eq.trans rfl rfl
@[simp] theorem ev_lc2 (elt : E) (tg : Tg) (it : I) (c : OE) (tg1 : Tg) (it1 : I) (c1 : OE) (own own1 : List Nat) : evE T (.lc2 elt tg it c tg1 it1 c1 own own1) ρ = bnd (evI T it ρ) fun xs =>
      bnd (catM (fun x => nr (bnd (asg tg x (wipeE ρ own)) fun ρ1 => bnd (evTs T c ρ1) fun k =>
        if k = true then bnd (evI T it1 ρ1) fun zs => catM (fun z => bnd (asg tg1 z (wipeE ρ1 own1)) fun ρ2 => bnd (evTs T c1 ρ2) fun k =>
          if k = true then bnd (evE T elt ρ2) fun d => ret [d] else ret []) zs else ret [])) xs) capL := Eq.trans rfl rfl
@[simp] theorem ev_tsn : evTs T .no ρ = ret true := Eq.trans rfl rfl
@[simp] theorem ev_tss (e : E) : evTs T (.so e) ρ = bnd (evE T e ρ) asB := Eq.trans rfl rfl
@[simp] theorem ev_on : evO T .no ρ = ret none := Eq.trans rfl rfl
@[simp] theorem ev_os (e : E) : evO T (.so e) ρ = bnd (evE T e ρ) fun d => ret (some d) := Eq.trans rfl rfl
@[simp] theorem ev_ie (a : E) : evI T (.e a) ρ = bnd (evE T a ρ) fun x => lift (itemsD x) := Eq.trans rfl rfl
@[simp] theorem ev_ir1 (a : E) : evI T (.r1 a) ρ = bnd (evE T a ρ) fun x => bnd (asI x) rng1 := Eq.trans rfl rfl
@[simp] theorem ev_ir2 (a b : E) : evI T (.r2 a b) ρ = bnd (evE T a ρ) fun x => bnd (evE T b ρ) fun y => bnd (asI x) fun i => bnd (asI y) fun j => rng2 i j := Eq.trans rfl rfl
@[simp] theorem ev_izp (a b : E) : evI T (.zp a b) ρ = bnd (evE T a ρ) fun x => bnd (evE T b ρ) fun y => bnd (lift (zipI x y)) ret := Eq.trans rfl rfl
@[simp] theorem ev_ien (a : E) : evI T (.en a) ρ = bnd (evE T a ρ) fun x => bnd (lift (enumI x)) ret := Eq.trans rfl rfl
@[simp] theorem ev_nil : evEs T .nil ρ = ret [] := Eq.trans rfl rfl
@[simp] theorem ev_cons (e : E) (es : Es) : evEs T (.cons e es) ρ = bnd (evE T e ρ) fun d => bnd (evEs T es ρ) fun ds => ret (d :: ds) := Eq.trans rfl rfl
@[simp] theorem ev_and1 (e : E) : evAnd T (.cons e .nil) ρ = evE T e ρ := Eq.trans rfl rfl
@[simp] theorem ev_or1 (e : E) : evOr T (.cons e .nil) ρ = evE T e ρ := Eq.trans rfl rfl
@[simp] theorem ev_and2 (e e2 : E) (es : Es) : evAnd T (.cons e (.cons e2 es)) ρ = bnd (evE T e ρ) fun x => bnd (asB x) fun b => if b = true then evAnd T (.cons e2 es) ρ else ret (.bl false) := evAnd_cons T e e2 es ρ
@[simp] theorem ev_or2 (e e2 : E) (es : Es) : evOr T (.cons e (.cons e2 es)) ρ = bnd (evE T e ρ) fun x => bnd (asB x) fun b => if b = true then ret (.bl true) else evOr T (.cons e2 es) ρ := evOr_cons T e e2 es ρ
end
section
variable (T : Ct) (ρ : Env)
@[simp] theorem ec_set (i : Nat) (e : E) : evC T (.set i e) ρ = bnd (evE T e ρ) fun d => ret (.nx (ρ.set i (some (.val d)))) := Eq.trans rfl rfl
@[simp] theorem ec_setO (i : Nat) (e : E) : evC T (.setO i e) ρ = bnd (evE T e ρ) fun d => bnd (lift (toOwn d)) fun o => ret (.nx (ρ.set i (some o))) := Eq.trans rfl rfl
@[simp] theorem ec_unp (is : List Nat) (e : E) : evC T (.unp is e) ρ = bnd (evE T e ρ) fun d => bnd (asg (.tp is) d ρ) fun ρ1 => ret (.nx ρ1) := Eq.trans rfl rfl
@[simp] theorem ec_par (is : List (Nat × Bool)) (es : Es) : evC T (.par is es) ρ = bnd (evEs T es ρ) fun ds => bnd (lift (setPar is ds ρ)) fun ρ1 => ret (.nx ρ1) := Eq.trans rfl rfl
@[simp] theorem ec_aug (i : Nat) (o : Bop) (e : E) : evC T (.aug i o e) ρ = bnd (get ρ i) fun x => bnd (evE T e ρ) fun y => bnd (lift (augD o x y)) fun z => ret (.nx (ρ.set i (some (.val z)))) := Eq.trans rfl rfl
@[simp] theorem ec_app (i : Nat) (e : E) : evC T (.app i e) ρ = bnd (ownd ρ i) fun _ => bnd (evE T e ρ) fun d => bnd (lift (appE ρ i d)) fun ρ1 => ret (.nx ρ1) := Eq.trans rfl rfl
@[simp] theorem ec_setI (i : Nat) (k e : E) : evC T (.setI i k e) ρ = bnd (ownd ρ i) fun _ => bnd (evE T e ρ) fun d => bnd (evE T k ρ) fun k => bnd (lift (setIE ρ i k d)) fun ρ1 => ret (.nx ρ1) := Eq.trans rfl rfl
@[simp] theorem ec_cupS (i : Nat) (k e : E) : evC T (.cupS i k e) ρ = bnd (evE T e ρ) fun d => bnd (get ρ i) fun c => bnd (evE T k ρ) fun k => (match c with
      | .cup => bnd (cupPut k d) fun _ => ret (.nx ρ)
      | _ => fail) := Eq.trans rfl rfl
@[simp] theorem ec_exp (e : E) : evC T (.exp e) ρ = bnd (evE T e ρ) fun _ => ret (.nx ρ) := Eq.trans rfl rfl
@[simp] theorem ec_ret (e : E) : evC T (.ret e) ρ = bnd (evE T e ρ) fun d => ret (.rt d) := Eq.trans rfl rfl
@[simp] theorem ec_retN : evC T .retN ρ = ret (.rt .non) := Eq.trans rfl rfl
@[simp] theorem ec_ifs (c : E) (a b : Cs) : evC T (.ifs c a b) ρ = bnd (evE T c ρ) fun x => bnd (asB x) fun k => if k = true then evCs T a ρ else evCs T b ρ := Eq.trans rfl rfl
theorem ec_for (tg : Tg) (it : I) (b : Cs) : evC T (.for_ tg it b) ρ = bnd (evI T it ρ) fun xs => forM (fun ρ => evCs T b ρ) tg xs ρ := rfl
theorem ec_whl (c : E) (b : Cs) : evC T (.whl c b) ρ = whileM (fun ρ => bnd (evE T c ρ) asB) (fun ρ => evCs T b ρ) loopFuel ρ := rfl
@[simp] theorem ec_frz (i : Nat) : evC T (.frz i) ρ = ret (.nx (frzE ρ i)) := Eq.trans rfl rfl
@[simp] theorem ec_pass : evC T .pass ρ = ret (.nx ρ) := Eq.trans rfl rfl
@[simp] theorem es_nil : evCs T .nil ρ = ret (.nx ρ) := Eq.trans rfl rfl
@[simp] theorem es_cons (c : C) (cs : Cs) : evCs T (.cons c cs) ρ = bnd (evC T c ρ) fun f => match f with
    | .nx ρ1 => evCs T cs ρ1
    | .rt d => ret (.rt d) := Eq.trans rfl rfl
end
@[simp] theorem asg_nm (i : Nat) (d : D) (ρ : Env) : asg (.nm i) d ρ = ret (ρ.set i (some (.val d))) := Eq.trans rfl rfl
@[simp] theorem asg_tp (is : List Nat) (ds : List D) (ρ : Env) : asg (.tp is) (.tup ds) ρ = if ds.length = is.length then ret (setAll is ds ρ) else fail := Eq.trans rfl rfl
@[simp] theorem idxM_lst (xs : List D) (i : D) : idxM (.lst xs) i = lift (idxD (.lst xs) i) := Eq.trans rfl rfl
@[simp] theorem idxM_tup (xs : List D) (i : D) : idxM (.tup xs) i = lift (idxD (.tup xs) i) := Eq.trans rfl rfl
@[simp] theorem idxM_str (xs : List Nat) (i : D) : idxM (.str xs) i = lift (idxD (.str xs) i) := Eq.trans rfl rfl
@[simp] theorem get_val {ρ : Env} {i : Nat} {d : D} (h : ρ[i]? = some (some (.val d))) : get ρ i = ret d := by unfold get; rw [h]
@[simp] theorem getO_own {ρ : Env} {i : Nat} {d : List D} (h : ρ[i]? = some (some (.own d))) : getO ρ i = ret (.lst d) := by unfold getO; rw [h]
@[simp] theorem getO_val {ρ : Env} {i : Nat} {d : D} (h : ρ[i]? = some (some (.val d))) : getO ρ i = ret d := by unfold getO; rw [h]
@[simp] theorem ownd_own {ρ : Env} {i : Nat} {d : List D} (h : ρ[i]? = some (some (.own d))) : ownd ρ i = ret () := by unfold ownd; rw [h]

@[simp] theorem bnd_cup0 {β : Type} (f : D → M β) (x y : Int) : bnd (idxM .cup (.int 0)) f ⟨some (x, y)⟩ = f (.int x) ⟨some (x, y)⟩ := Eq.trans rfl rfl
@[simp] theorem bnd_cup1 {β : Type} (f : D → M β) (x y : Int) : bnd (idxM .cup (.int 1)) f ⟨some (x, y)⟩ = f (.int y) ⟨some (x, y)⟩ := Eq.trans rfl rfl
@[simp] theorem bnd_put0 {β : Type} (f : Unit → M β) (x y z : Int) : bnd (cupPut (.int 0) (.int z)) f ⟨some (x, y)⟩ = f () ⟨some (z, y)⟩ := Eq.trans rfl rfl
@[simp] theorem bnd_put1 {β : Type} (f : Unit → M β) (x y z : Int) : bnd (cupPut (.int 1) (.int z)) f ⟨some (x, y)⟩ = f () ⟨some (x, z)⟩ := Eq.trans rfl rfl
@[simp] theorem ret_at {α : Type} (a : α) (s : S) : ret a s = .ok a s := Eq.trans rfl rfl
theorem small_in {i : Int} (h : -(2 ^ 64) < i) (h2 : i < 2 ^ 64) : small i = true := by
  unfold small
  rw [decide_eq_true h, decide_eq_true h2]; rfl
theorem mulD_small {i j : Int} (h : small i = true ∨ small j = true) : mulD (.int i) (.int j) = some (.int (i * j)) := by
  show (if small i = true ∨ small j = true then some (D.int (i * j)) else none) = _
  rw [if_pos h]
theorem modD_pos {i j : Int} (h : 0 < j) : modD (.int i) (.int j) = some (.int (i % j)) := by
  show (if 0 < j then some (D.int (i % j)) else none) = _
  rw [if_pos h]
theorem fdivD_pos {i j : Int} (h : 0 < j) (h2 : j < 1073741824) : fdivD (.int i) (.int j) = some (.int (i / j)) := by
  show (if 0 < j ∧ j < 1073741824 then some (D.int (i / j)) else none) = _
  rw [if_pos ⟨h, h2⟩]
/-! ### operators of known data -/
@[simp] theorem x_add (a b : D) : bopD .add a b = addD a b := Eq.trans rfl rfl
@[simp] theorem x_sub (a b : D) : bopD .sub a b = subD a b := Eq.trans rfl rfl
@[simp] theorem x_mul (a b : D) : bopD .mul a b = mulD a b := Eq.trans rfl rfl
@[simp] theorem x_fdiv (a b : D) : bopD .fdiv a b = fdivD a b := Eq.trans rfl rfl
@[simp] theorem x_mod (a b : D) : bopD .mod a b = modD a b := Eq.trans rfl rfl
@[simp] theorem x_pow (a b : D) : bopD .pow a b = powD a b := Eq.trans rfl rfl
@[simp] theorem x_addI (i j : Int) : addD (.int i) (.int j) = some (.int (i + j)) := Eq.trans rfl rfl
@[simp] theorem x_subI (i j : Int) : subD (.int i) (.int j) = some (.int (i - j)) := Eq.trans rfl rfl
theorem x_addS {a b : List Nat} (h : a.length + b.length ≤ 100000) : addD (.str a) (.str b) = some (.str (a ++ b)) := by
  show (if a.length + b.length ≤ BIG then some (D.str (a ++ b)) else none) = _
  rw [if_pos (show a.length + b.length ≤ BIG from h)]
theorem x_addL {a b : List D} (h : a.length + b.length ≤ 100000) : addD (.lst a) (.lst b) = some (.lst (a ++ b)) := by
  show (if a.length + b.length ≤ BIG then some (D.lst (a ++ b)) else none) = _
  rw [if_pos (show a.length + b.length ≤ BIG from h)]
theorem x_addT {a b : List D} (h : a.length + b.length ≤ 100000) : addD (.tup a) (.tup b) = some (.tup (a ++ b)) := by
  show (if a.length + b.length ≤ BIG then some (D.tup (a ++ b)) else none) = _
  rw [if_pos (show a.length + b.length ≤ BIG from h)]
theorem x_rep1 {c : Nat} {k : Nat} (h : k ≤ 20000) : mulD (.str [c]) (.int (k : Int)) = some (.str (List.replicate k c)) := by
  show (if [c].length ≤ 100 ∧ 0 ≤ (k : Int) ∧ (k : Int) ≤ 20000 then some (D.str (List.replicate (k : Int).toNat [c]).flatten) else none) = _
  rw [if_pos ⟨by simp, by omega, by omega⟩]
  congr 2
  simp [List.flatten_replicate_singleton]
@[simp] theorem x_eq (a b : D) : copD .eq a b = eqD a b := Eq.trans rfl rfl
@[simp] theorem x_ne (a b : D) : copD .ne a b = (eqD a b).map (!·) := Eq.trans rfl rfl
@[simp] theorem x_lt (a b : D) : copD .lt a b = ltD a b := Eq.trans rfl rfl
@[simp] theorem x_le (a b : D) : copD .le a b = leD a b := Eq.trans rfl rfl
@[simp] theorem x_gt (a b : D) : copD .gt a b = ltD b a := Eq.trans rfl rfl
@[simp] theorem x_ge (a b : D) : copD .ge a b = leD b a := Eq.trans rfl rfl
@[simp] theorem x_in (a b : D) : copD .inn a b = inD a b := Eq.trans rfl rfl
@[simp] theorem x_nin (a b : D) : copD .nin a b = (inD a b).map (!·) := Eq.trans rfl rfl
@[simp] theorem x_is (a b : D) : copD .is a b = isD a b := Eq.trans rfl rfl
@[simp] theorem x_isn (a b : D) : copD .isn a b = (isD a b).map (!·) := Eq.trans rfl rfl
@[simp] theorem x_ltI (i j : Int) : ltD (.int i) (.int j) = some (decide (i < j)) := Eq.trans rfl rfl
@[simp] theorem x_leI (i j : Int) : leD (.int i) (.int j) = some (decide (i ≤ j)) := Eq.trans rfl rfl
@[simp] theorem dok_str (n : Nat) (l : List Nat) : dok n (.str l) = true := by cases n <;> rfl
@[simp] theorem dok_int (n : Nat) (l : Int) : dok n (.int l) = true := by cases n <;> rfl
@[simp] theorem dok_bl (n : Nat) (l : Bool) : dok n (.bl l) = true := by cases n <;> rfl
@[simp] theorem eqD_int (i j : Int) : eqD (.int i) (.int j) = some (i == j) := Eq.trans rfl rfl
@[simp] theorem eqD_str (i j : List Nat) : eqD (.str i) (.str j) = some (i == j) := Eq.trans rfl rfl
@[simp] theorem eqD_bl (i j : Bool) : eqD (.bl i) (.bl j) = some (i == j) := Eq.trans rfl rfl
@[simp] theorem x_len1 (x : D) : bifD .len [x] = lenD x := Eq.trans rfl rfl
@[simp] theorem x_lenL (l : List D) : lenD (.lst l) = some (.int l.length) := Eq.trans rfl rfl
@[simp] theorem x_lenT (l : List D) : lenD (.tup l) = some (.int l.length) := Eq.trans rfl rfl
@[simp] theorem x_lenS (l : List Nat) : lenD (.str l) = some (.int l.length) := Eq.trans rfl rfl
@[simp] theorem x_tup1 (x : D) : bifD .tuple [x] = tupleD x := Eq.trans rfl rfl
@[simp] theorem x_tupL (l : List D) : tupleD (.lst l) = some (.tup l) := Eq.trans rfl rfl
@[simp] theorem x_int1 (i : Int) : bifD .int [.int i] = some (.int i) := Eq.trans rfl rfl
@[simp] theorem x_str1 (i : List Nat) : bifD .str [.str i] = some (.str i) := Eq.trans rfl rfl
@[simp] theorem x_itL (l : List D) : itemsD (.lst l) = some l := Eq.trans rfl rfl
@[simp] theorem x_itT (l : List D) : itemsD (.tup l) = some l := Eq.trans rfl rfl
@[simp] theorem x_itS (l : List Nat) : itemsD (.str l) = some (l.map fun c => .str [c]) := Eq.trans rfl rfl
@[simp] theorem x_ixL (l : List D) (i : Int) : idxD (.lst l) (.int i) = atI l i := Eq.trans rfl rfl
@[simp] theorem x_ixT (l : List D) (i : Int) : idxD (.tup l) (.int i) = atI l i := Eq.trans rfl rfl
@[simp] theorem x_ixS (l : List Nat) (i : Int) : idxD (.str l) (.int i) = (atI l i).map fun c => .str [c] := Eq.trans rfl rfl
@[simp] theorem x_zipL (a b : List D) : zipI (.lst a) (.lst b) = some (zipD a b) := Eq.trans rfl rfl
@[simp] theorem x_zipT (a b : List D) : zipI (.tup a) (.tup b) = some (zipD a b) := Eq.trans rfl rfl
@[simp] theorem x_recJ (l : List Nat) : recD .join (.str l) = some () := Eq.trans rfl rfl
@[simp] theorem x_join (s : List Nat) (l : List D) : metD .join (.str s) [.lst l] = joinD s l := Eq.trans rfl rfl
@[simp] theorem x_own (l : List D) : toOwn (.lst l) = some (.own l) := Eq.trans rfl rfl
@[simp] theorem x_wn (ρ : Env) : wipeE ρ [] = ρ := Eq.trans rfl rfl
@[simp] theorem x_wc (ρ : Env) (v : Nat) (vs : List Nat) : wipeE ρ (v :: vs) = (wipeE ρ vs).set v none := Eq.trans rfl rfl
@[simp] theorem x_pn (ρ : Env) : setPar [] [] ρ = some ρ := Eq.trans rfl rfl
@[simp] theorem x_pv (i : Nat) (is : List (Nat × Bool)) (d : D) (ds : List D) (ρ : Env) : setPar ((i, false) :: is) (d :: ds) ρ = setPar is ds (ρ.set i (some (.val d))) := Eq.trans rfl rfl
@[simp] theorem x_po (i : Nat) (is : List (Nat × Bool)) (d : D) (ds : List D) (ρ : Env) : setPar ((i, true) :: is) (d :: ds) ρ = (toOwn d).bind fun o => setPar is ds (ρ.set i (some o)) := Eq.trans rfl rfl
@[simp] theorem x_sn (ds : List D) (ρ : Env) : setAll [] ds ρ = ρ := Eq.trans rfl rfl
@[simp] theorem x_sc (i : Nat) (is : List Nat) (d : D) (ds : List D) (ρ : Env) : setAll (i :: is) (d :: ds) ρ = setAll is ds (ρ.set i (some (.val d))) := Eq.trans rfl rfl
/-! ### comprehensions, loops: pure -/
theorem catM_map {α : Type} (turn : D → M (List D)) (enc h : α → D) : ∀ l : List α, (∀ a ∈ l, turn (enc a) = ret [h a]) → catM turn (l.map enc) = ret (l.map h)
  | [], _ => rfl
  | a :: l, hh => by
    show bnd (turn (enc a)) (fun l1 => bnd (catM turn (l.map enc)) fun r => ret (l1 ++ r)) = _
    rw [hh a List.mem_cons_self, catM_map turn enc h l fun b hb => hh b (List.mem_cons_of_mem _ hb)]
    rfl
theorem catM_filter {α : Type} (turn : D → M (List D)) (enc h : α → D) (p : α → Bool) : ∀ l : List α, (∀ a ∈ l, turn (enc a) = ret (if p a = true then [h a] else [])) → catM turn (l.map enc) = ret ((l.filter p).map h)
  | [], _ => rfl
  | a :: l, hh => by
    show bnd (turn (enc a)) (fun l1 => bnd (catM turn (l.map enc)) fun r => ret (l1 ++ r)) = _
    rw [hh a List.mem_cons_self, catM_filter turn enc h p l fun b hb => hh b (List.mem_cons_of_mem _ hb)]
    by_cases c : p a = true
    · rw [if_pos c, List.filter_cons_of_pos c]; rfl
    · rw [if_neg c, List.filter_cons_of_neg c]; rfl
theorem catM_flat {α : Type} (turn : D → M (List D)) (enc : α → D) (g : α → List D) : ∀ l : List α, (∀ a ∈ l, turn (enc a) = ret (g a)) → catM turn (l.map enc) = ret (l.flatMap g)
  | [], _ => rfl
  | a :: l, hh => by
    show bnd (turn (enc a)) (fun l1 => bnd (catM turn (l.map enc)) fun r => ret (l1 ++ r)) = _
    rw [hh a List.mem_cons_self, catM_flat turn enc g l fun b hb => hh b (List.mem_cons_of_mem _ hb)]
    rfl
theorem forM_cons (body : Env → M Fl) (tg : Tg) (x : D) (xs : List D) (ρ : Env) : forM body tg (x :: xs) ρ = bnd (bnd (asg tg x ρ) body) fun f => match f with
      | .nx ρ2 => forM body tg xs ρ2
      | .rt d => ret (.rt d) := by
  rw [bnd_assoc]; rfl
/-- a loop, by an invariant over what is done -/
theorem forM_pure {α : Type} {body : Env → M Fl} {tg : Tg} (enc : α → D) (I : List α → Env → Prop) (L : List α) (ρ : Env) (h0 : I [] ρ)
    (hs : ∀ pre x post ρ, L = pre ++ x :: post → I pre ρ → ∃ ρ', bnd (asg tg (enc x) ρ) body = ret (.nx ρ') ∧ I (pre ++ [x]) ρ') :
    ∃ ρ', forM body tg (L.map enc) ρ = ret (.nx ρ') ∧ I L ρ' := by
  have go : ∀ (l pre : List α) (ρ : Env), L = pre ++ l → I pre ρ → ∃ ρ', forM body tg (l.map enc) ρ = ret (.nx ρ') ∧ I L ρ' := by
    intro l
    induction l with
    | nil => intro pre ρ e h; rw [List.append_nil] at e; subst e; exact ⟨ρ, rfl, h⟩
    | cons x l ih =>
      intro pre ρ e h
      obtain ⟨ρ1, e1, h1⟩ := hs pre x l ρ e h
      obtain ⟨ρ2, e2, h2⟩ := ih (pre ++ [x]) ρ1 (by rw [e, List.append_assoc]; rfl) h1
      refine ⟨ρ2, ?_, h2⟩
      rw [List.map_cons, forM_cons, e1]
      exact e2
  exact go L [] ρ rfl h0

/-! ### draws -/
def Cv (s : S) : Prop := ∃ x y, s.cup = some (x, y) ∧ CupV x y
def Dr {α : Type} (m : M α) (P : α → Prop) : Prop := ∀ s, Cv s → ∃ a s', m s = .ok a s' ∧ Cv s' ∧ P a
section
variable {α β : Type} {P P' : α → Prop} {Q : β → Prop}
theorem Dr.ret {a : α} (h : P a) : Dr (PL.ret a) P := fun s c => ⟨a, s, rfl, c, h⟩
theorem Dr.bnd {m : M α} {f : α → M β} (h : Dr m P) (k : ∀ a, P a → Dr (f a) Q) : Dr (PL.bnd m f) Q := fun s c => by
  obtain ⟨a, s1, e1, c1, h1⟩ := h s c
  obtain ⟨b, s2, e2, c2, h2⟩ := k a h1 s1 c1
  refine ⟨b, s2, ?_, c2, h2⟩
  unfold PL.bnd
  rw [e1]
  exact e2
theorem Dr.imp {m : M α} (h : Dr m P) (i : ∀ a, P a → P' a) : Dr m P' := fun s c => by
  obtain ⟨a, s1, e1, c1, h1⟩ := h s c
  exact ⟨a, s1, e1, c1, i a h1⟩
theorem Dr.nr {m : M α} (h : Dr m P) : Dr (PL.nr m) P := fun s c => by
  obtain ⟨a, s1, e1, c1, h1⟩ := h s c
  exact ⟨a, s1, by unfold PL.nr; rw [e1], c1, h1⟩
end
/-- a draw for each -/
theorem Dr.catM {α β : Type} {turn : D → M (List D)} (enc : α → D) (dec : β → D) (P : α → β → Prop) : ∀ l : List α, (∀ a ∈ l, Dr (turn (enc a)) fun r => ∃ b, r = [dec b] ∧ P a b) →
    Dr (PL.catM turn (l.map enc)) fun r => ∃ bs : List β, r = bs.map dec ∧ bs.length = l.length ∧ ∀ i (h : i < l.length) (h2 : i < bs.length), P l[i] bs[i]
  | [], _ => Dr.ret ⟨[], rfl, rfl, fun i h => absurd h (by simp)⟩
  | a :: l, hh => by
    show Dr (PL.bnd (turn (enc a)) fun l1 => PL.bnd (PL.catM turn (l.map enc)) fun r => PL.ret (l1 ++ r)) _
    refine Dr.bnd (hh a List.mem_cons_self) fun r1 ⟨b, e1, p1⟩ => ?_
    refine Dr.bnd (Dr.catM enc dec P l fun c hc => hh c (List.mem_cons_of_mem _ hc)) fun r2 ⟨bs, e2, l2, p2⟩ => ?_
    refine Dr.ret ⟨b :: bs, by rw [e1, e2]; rfl, by simp [l2], fun i h h2 => ?_⟩
    cases i with
    | zero => exact p1
    | succ i => exact p2 i (by simpa using h) (by simpa using h2)
/-- a loop that draws -/
theorem Dr.forM {α : Type} {body : Env → M Fl} {tg : Tg} (enc : α → D) (I : List α → Env → Prop) (L : List α) (ρ : Env) (h0 : I [] ρ)
    (hs : ∀ pre x post ρ, L = pre ++ x :: post → I pre ρ → Dr (PL.bnd (asg tg (enc x) ρ) body) fun f => ∃ ρ', f = .nx ρ' ∧ I (pre ++ [x]) ρ') :
    Dr (PL.forM body tg (L.map enc) ρ) fun f => ∃ ρ', f = .nx ρ' ∧ I L ρ' := by
  have go : ∀ (l pre : List α) (ρ : Env), L = pre ++ l → I pre ρ → Dr (PL.forM body tg (l.map enc) ρ) fun f => ∃ ρ', f = .nx ρ' ∧ I L ρ' := by
    intro l
    induction l with
    | nil => intro pre ρ e h; rw [List.append_nil] at e; subst e; exact Dr.ret ⟨ρ, rfl, h⟩
    | cons x l ih =>
      intro pre ρ e h
      rw [List.map_cons, forM_cons]
      refine Dr.bnd (hs pre x l ρ e h) fun f ⟨ρ1, e1, h1⟩ => ?_
      subst e1
      exact ih (pre ++ [x]) ρ1 (by rw [e, List.append_assoc]; rfl) h1
  exact go L [] ρ rfl h0

/-! ### loops as statements -/
section
variable {α β : Type} {T : Ct} {tg : Tg} {it : I} {b : Cs} {ρ : Env} {k : Fl → M β}
theorem bnd_for {r : M β} (enc : α → D) (Inv : List α → Env → Prop) (L : List α) (hit : evI T it ρ = ret (L.map enc)) (h0 : Inv [] ρ)
    (hs : ∀ pre x post ρ, L = pre ++ x :: post → Inv pre ρ → ∃ ρ', bnd (asg tg (enc x) ρ) (fun ρ => evCs T b ρ) = ret (.nx ρ') ∧ Inv (pre ++ [x]) ρ')
    (hk : ∀ ρ', Inv L ρ' → k (.nx ρ') = r) : bnd (evC T (.for_ tg it b) ρ) k = r := by
  obtain ⟨ρ', e, hI⟩ := forM_pure (body := fun ρ => evCs T b ρ) (tg := tg) enc Inv L ρ h0 hs
  rw [ec_for, hit, bnd_ret, e, bnd_ret]
  exact hk ρ' hI
theorem dr_for {P : β → Prop} (enc : α → D) (Inv : List α → Env → Prop) (L : List α) (hit : evI T it ρ = ret (L.map enc)) (h0 : Inv [] ρ)
    (hs : ∀ pre x post ρ, L = pre ++ x :: post → Inv pre ρ → Dr (bnd (asg tg (enc x) ρ) (fun ρ => evCs T b ρ)) fun f => ∃ ρ', f = .nx ρ' ∧ Inv (pre ++ [x]) ρ')
    (hk : ∀ ρ', Inv L ρ' → Dr (k (.nx ρ')) P) : Dr (bnd (evC T (.for_ tg it b) ρ) k) P := by
  rw [ec_for, hit, bnd_ret]
  exact Dr.bnd (Dr.forM (body := fun ρ => evCs T b ρ) (tg := tg) enc Inv L ρ h0 hs) fun f ⟨ρ', e, hI⟩ => by subst e; exact hk ρ' hI
end
/-! ### lists -/
theorem allBl_map {α : Type} (f : α → Bool) : ∀ l : List α, allBl (l.map fun a => .bl (f a)) = some (l.map f)
  | [] => rfl
  | a :: l => by
    show (allBl (l.map fun a => .bl (f a))).map (f a :: ·) = _
    rw [allBl_map f l]; rfl
theorem allInt_map {α : Type} (f : α → Int) : ∀ l : List α, allInt (l.map fun a => .int (f a)) = some (l.map f)
  | [] => rfl
  | a :: l => by
    show (allInt (l.map fun a => .int (f a))).map (f a :: ·) = _
    rw [allInt_map f l]; rfl
theorem allStr_map {α : Type} (f : α → List Nat) : ∀ l : List α, allStr (l.map fun a => .str (f a)) = some (l.map f)
  | [] => rfl
  | a :: l => by
    show (allStr (l.map fun a => .str (f a))).map (f a :: ·) = _
    rw [allStr_map f l]; rfl
theorem atI_nat {α : Type} {xs : List α} {i : Nat} {x : α} (h : xs[i]? = some x) : atI xs (i : Int) = some x := by
  obtain ⟨hi, _⟩ := List.getElem?_eq_some_iff.mp h
  unfold atI ixN
  rw [if_pos (by omega), if_pos (by omega)]
  simpa using h
/-- the i-th, or d -/
def nth {α : Type} (l : List α) (i : Nat) (d : α) : α := l.getD i d
theorem nth_mem {α : Type} {l : List α} {i : Nat} {d : α} (h : i < l.length) : nth l i d ∈ l := by
  unfold nth
  rw [List.getD_eq_getElem?_getD, List.getElem?_eq_getElem h]; simp
theorem nth_some {α : Type} {l : List α} {i : Nat} {d : α} (h : i < l.length) : l[i]? = some (nth l i d) := by
  unfold nth
  rw [List.getD_eq_getElem?_getD, List.getElem?_eq_getElem h]; simp
theorem nth_map {α : Type} (f : α → D) {l : List α} {i : Nat} {d : α} (h : i < l.length) : (l.map f)[i]? = some (f (nth l i d)) := by
  rw [List.getElem?_map, nth_some h]; rfl
theorem atI_map {α : Type} (f : α → D) {l : List α} {i : Nat} (d : α) (h : i < l.length) : atI (l.map f) (i : Int) = some (f (nth l i d)) := atI_nat (nth_map f h)
theorem atI_nth {α : Type} {l : List α} {i : Nat} (d : α) (h : i < l.length) : atI l (i : Int) = some (nth l i d) := atI_nat (nth_some h)
theorem atI_map0 {α : Type} (f : α → D) {l : List α} (d : α) (h : 0 < l.length) : atI (l.map f) 0 = some (f (nth l 0 d)) := atI_nat (i := 0) (nth_map f h)
theorem depth_of {d n : Nat} (h : d + 1 ≤ n) : ∃ m, n = m + 1 ∧ d ≤ m := ⟨n - 1, by omega, by omega⟩
end PL
end

section
set_option Elab.async false
set_option linter.all false
set_option maxRecDepth 100000
set_option maxHeartbeats 0
namespace QL
open PL PySem PySem.Spec PyProof.Rows L2
def top (i : Nat) : Stmt := PySem.Challenge.pw_orchardrows_k52_whole_yields.main.body.getD i (.Pass ⟨0, 0, 0, 0⟩)
abbrev dd (x : Str) (i : Nat) : He.DefD := ⟨(x, none), x, x, defArgs (top i), defBody (top i), defScope (top i), [], []⟩
def fn0 : List He.DefD := [dd "is_whole" 10, dd "fits_whole" 11, dd "is_tuple_of" 12, dd "fits_row" 13, dd "fits_plot" 14, dd "need_plot" 15, dd "places_in" 16, dd "trees_in" 17, dd "fits_ages" 22, dd "need_ages" 23, dd "fits_curve" 24, dd "need_curve" 25, dd "need_age" 26, dd "need_years" 27, dd "ages_in" 28, dd "older_in" 29, dd "limited_in" 30, dd "pounds_in" 31, dd "yield_in" 32, dd "divisor" 33]
def fn1 : List He.DefD := [dd "yield_of" 34, dd "yields_over" 35, dd "ages_by_limit" 36, dd "yields_by_limit" 37, dd "renewed_many" 38, dd "mean_yield" 39, dd "best_limit" 40, dd "_law_cup" 42, dd "_law_roll" 43, dd "_law_some" 44, dd "_law_same" 45, dd "_law_plot" 46, dd "_law_ages" 47, dd "_law_curve" 48, dd "_law_grown" 49, dd "_law_yield" 50, dd "_law_right" 51, dd "law" 52]
def fn : List He.DefD := fn0 ++ fn1
def fa0 : List He.Fa := [.glo "is_whole", .glo "fits_whole", .glo "is_tuple_of", .glo "fits_row", .glo "fits_plot", .glo "need_plot", .glo "places_in", .glo "trees_in", .glo "fits_ages", .glo "need_ages", .glo "fits_curve", .glo "need_curve", .glo "need_age", .glo "need_years", .glo "ages_in", .glo "older_in", .glo "limited_in", .glo "pounds_in", .glo "yield_in", .glo "divisor"]
def fa1 : List He.Fa := [.glo "yield_of", .glo "yields_over", .glo "ages_by_limit", .glo "yields_by_limit", .glo "renewed_many", .glo "mean_yield", .glo "best_limit", .glo "_law_cup", .glo "_law_roll", .glo "_law_some", .glo "_law_same", .glo "_law_plot", .glo "_law_ages", .glo "_law_curve", .glo "_law_grown", .glo "_law_yield", .glo "_law_right", .glo "law", .free "len", .free "abs"]
def fa2 : List He.Fa := [.free "int", .free "str", .free "tuple", .free "list", .free "sum", .free "max", .free "min", .free "all", .free "any", .free "sorted", .free "isinstance", .free "range", .free "zip", .free "enumerate", .free "set", .free "bool", .str "BARE" ".", .str "KINDS" "abcdefgh", .int "SIDE" 12, .int "OLD" 60]
def fa3 : List He.Fa := [.int "POUNDS" 99, .int "YEARS" 200]
def fa : List He.Fa := fa0 ++ fa1 ++ fa2 ++ fa3
def loose0 : List Str := ["__name__", "OrchardError", "InvalidPlot", "InvalidPlan", "InvalidDays", "InvalidNumber", "BARE", "KINDS", "SIDE", "is_whole", "fits_whole", "is_tuple_of", "fits_row", "fits_plot", "need_plot", "places_in", "trees_in", "OLD", "POUNDS", "YEARS"]
def loose1 : List Str := ["fits_ages", "need_ages", "fits_curve", "need_curve", "need_age", "need_years", "ages_in", "older_in", "limited_in", "pounds_in", "yield_in", "divisor", "yield_of", "yields_over", "ages_by_limit", "yields_by_limit", "renewed_many", "mean_yield", "best_limit", "_law_cup"]
def loose2 : List Str := ["_law_roll", "_law_some", "_law_same", "_law_plot", "_law_ages", "_law_curve", "_law_grown", "_law_yield", "_law_right"]
abbrev R : PySem.W.OpenRow := PySem.W.OpenLaw.row PySem.Challenge.rw_orchardrows_k52_whole_yields
abbrev hk : PySem.W.Hook := He.hookD 4 fa fn
def ob (s : PySem.W.SharedT) : He.AlD := He.obsDG 4 fa fn (HandSHeadRun.getT s)
theorem ob_eq (s : PySem.W.SharedT) : ob s = hk.obs s.abs := He.obsDG_eq (HandSHeadRun.getT_eq s)
theorem run (w : World) : HandSHeadRun.RunEq R (PySem.W.view R.prog [52]) hk ob 6000 (loose0 ++ loose1 ++ loose2) w := by
  intro os
  kernel_rfl
/-! ### the defs in the small language -/
def ir_is_whole : Fn := ⟨1, 1, (.cons (.ret (.and (.cons (.isi 0 (.var 0)) (.cons (.not (.isi 1 (.var 0))) .nil))))
.nil)⟩
def ir_fits_whole : Fn := ⟨3, 3, (.cons (.ret (.and (.cons (.call 0 (.cons (.var 0) .nil)) (.cons (.chn .le .le (.var 1) (.var 0) (.var 2)) .nil))))
.nil)⟩
def ir_is_tuple_of : Fn := ⟨3, 3, (.cons (.ret (.and (.cons (.isi 3 (.var 0)) (.cons (.chn .le .le (.var 1) (.bif .len (.cons (.var 0) .nil)) (.var 2)) .nil))))
.nil)⟩
def ir_fits_row : Fn := ⟨1, 2, (.cons (.ret (.and (.cons (.isi 2 (.var 0)) (.cons (.chn .le .le (.int 1) (.bif .len (.cons (.var 0) .nil)) (.glo 2)) (.cons (.bif .all (.cons (.lc (.or (.cons (.cmp .eq (.var 1) (.glo 0)) (.cons (.cmp .inn (.var 1) (.glo 1)) .nil))) (.nm 1) (.e (.var 0)) .no [1]) .nil)) .nil)))))
.nil)⟩
def ir_fits_plot : Fn := ⟨1, 2, (.cons (.ifs (.or (.cons (.not (.call 2 (.cons (.var 0) (.cons (.int 1) (.cons (.glo 2) .nil))))) (.cons (.not (.bif .all (.cons (.lc (.call 3 (.cons (.var 1) .nil)) (.nm 1) (.e (.var 0)) .no [1]) .nil))) .nil)))
(.cons (.ret (.bl false))
.nil)
.nil)
(.cons (.ret (.bif .all (.cons (.lc (.cmp .eq (.bif .len (.cons (.var 1) .nil)) (.bif .len (.cons (.idx (.var 0) (.int 0)) .nil))) (.nm 1) (.e (.var 0)) .no [1]) .nil)))
.nil))⟩
def ir_need_plot : Fn := ⟨1, 1, (.cons (.ifs (.not (.call 4 (.cons (.var 0) .nil)))
(.cons .nev
.nil)
.nil)
.nil)⟩
def ir_places_in : Fn := ⟨1, 3, (.cons (.ret (.lc2 (.tup (.cons (.var 1) (.cons (.var 2) .nil))) (.nm 1) (.r1 (.bif .len (.cons (.var 0) .nil))) .no (.nm 2) (.r1 (.bif .len (.cons (.idx (.var 0) (.int 0)) .nil))) .no [1, 2] [2]))
.nil)⟩
def ir_trees_in : Fn := ⟨1, 3, (.cons (.ret (.lc (.tup (.cons (.var 1) (.cons (.var 2) .nil))) (.tp [1, 2]) (.e (.call 8 (.cons (.var 0) .nil))) (.so (.cmp .ne (.idx (.idx (.var 0) (.var 1)) (.var 2)) (.glo 0))) [1, 2]))
.nil)⟩
def ir_fits_ages : Fn := ⟨2, 7, (.cons (.par [(2, false), (3, false)] (.cons (.bif .len (.cons (.var 0) .nil)) (.cons (.bif .len (.cons (.idx (.var 0) (.int 0)) .nil)) .nil)))
(.cons (.ifs (.or (.cons (.not (.call 2 (.cons (.var 1) (.cons (.var 2) (.cons (.var 2) .nil))))) (.cons (.not (.bif .all (.cons (.lc (.call 2 (.cons (.var 4) (.cons (.var 3) (.cons (.var 3) .nil)))) (.nm 4) (.e (.var 1)) .no [4]) .nil))) .nil)))
(.cons (.ret (.bl false))
.nil)
.nil)
(.cons (.ifs (.not (.bif .all (.cons (.lc2 (.call 1 (.cons (.var 6) (.cons (.int 0) (.cons (.glo 3) .nil)))) (.nm 4) (.e (.var 1)) .no (.nm 6) (.e (.var 4)) .no [4, 6] [6]) .nil)))
(.cons (.ret (.bl false))
.nil)
.nil)
(.cons (.ret (.bif .all (.cons (.lc (.cmp .eq (.cmp .eq (.idx (.idx (.var 0) (.var 4)) (.var 5)) (.glo 0)) (.cmp .eq (.idx (.idx (.var 1) (.var 4)) (.var 5)) (.int 0))) (.tp [4, 5]) (.e (.call 8 (.cons (.var 0) .nil))) .no [4, 5]) .nil)))
.nil))))⟩
def ir_need_ages : Fn := ⟨2, 2, (.cons (.exp (.call 5 (.cons (.var 0) .nil)))
(.cons (.ifs (.not (.call 9 (.cons (.var 0) (.cons (.var 1) .nil))))
(.cons .nev
.nil)
.nil)
.nil))⟩
def ir_fits_curve : Fn := ⟨1, 2, (.cons (.ret (.and (.cons (.call 2 (.cons (.var 0) (.cons (.int 1) (.cons (.glo 3) .nil)))) (.cons (.bif .all (.cons (.lc (.call 1 (.cons (.var 1) (.cons (.int 0) (.cons (.glo 4) .nil)))) (.nm 1) (.e (.var 0)) .no [1]) .nil)) .nil))))
.nil)⟩
def ir_need_curve : Fn := ⟨1, 1, (.cons (.ifs (.not (.call 11 (.cons (.var 0) .nil)))
(.cons .nev
.nil)
.nil)
.nil)⟩
def ir_need_age : Fn := ⟨1, 1, (.cons (.ifs (.not (.call 1 (.cons (.var 0) (.cons (.int 1) (.cons (.glo 3) .nil)))))
(.cons .nev
.nil)
.nil)
.nil)⟩
def ir_need_years : Fn := ⟨1, 1, (.cons (.ifs (.not (.call 1 (.cons (.var 0) (.cons (.int 0) (.cons (.glo 5) .nil)))))
(.cons .nev
.nil)
.nil)
.nil)⟩
def ir_ages_in : Fn := ⟨2, 4, (.cons (.ret (.lc (.idx (.idx (.var 1) (.var 2)) (.var 3)) (.tp [2, 3]) (.e (.call 31 (.cons (.var 0) .nil))) .no [2, 3]))
.nil)⟩
def ir_older_in : Fn := ⟨2, 4, (.cons (.ret (.bif .tuple (.cons (.lc (.bif .tuple (.cons (.lc (.ite (.cmp .gt (.var 3) (.int 0)) (.bin .add (.var 3) (.var 1)) (.int 0)) (.nm 3) (.e (.var 2)) .no [3]) .nil)) (.nm 2) (.e (.var 0)) .no [2]) .nil)))
.nil)⟩
def ir_limited_in : Fn := ⟨2, 5, (.cons (.setO 2 (.lst .nil))
(.cons (.for_ (.nm 3) (.e (.var 0))
(.cons (.app 2 (.bif .tuple (.cons (.lc (.ite (.cmp .eq (.var 4) (.int 0)) (.int 0) (.ite (.cmp .ge (.var 4) (.var 1)) (.int 1) (.bin .add (.var 4) (.int 1)))) (.nm 4) (.e (.var 3)) .no [4]) .nil)))
.nil))
(.cons (.ret (.bif .tuple (.cons (.own 2) .nil)))
.nil)))⟩
def ir_pounds_in : Fn := ⟨2, 2, (.cons (.ret (.ite (.cmp .le (.var 1) (.bif .len (.cons (.var 0) .nil))) (.idx (.var 0) (.bin .sub (.var 1) (.int 1))) (.int 0)))
.nil)⟩
def ir_yield_in : Fn := ⟨3, 4, (.cons (.ret (.bif .sum (.cons (.lc (.call 44 (.cons (.var 2) (.cons (.var 3) .nil))) (.nm 3) (.e (.call 33 (.cons (.var 0) (.cons (.var 1) .nil)))) .no [3]) .nil)))
.nil)⟩
def ir_divisor : Fn := ⟨2, 2, (.cons (.whl (.cmp .ne (.var 1) (.int 0))
(.cons (.par [(0, false), (1, false)] (.cons (.var 1) (.cons (.bin .mod (.var 0) (.var 1)) .nil)))
.nil))
(.cons (.ret (.var 0))
.nil))⟩
def ir_yield_of : Fn := ⟨3, 3, (.cons (.exp (.call 10 (.cons (.var 0) (.cons (.var 1) .nil))))
(.cons (.exp (.call 42 (.cons (.var 2) .nil)))
(.cons (.ret (.call 45 (.cons (.var 0) (.cons (.var 1) (.cons (.var 2) .nil)))))
.nil)))⟩
def ir_yields_over : Fn := ⟨4, 5, (.cons (.exp (.call 10 (.cons (.var 0) (.cons (.var 1) .nil))))
(.cons (.exp (.call 42 (.cons (.var 2) .nil)))
(.cons (.exp (.call 32 (.cons (.var 3) .nil)))
(.cons (.ret (.bif .tuple (.cons (.lc (.call 45 (.cons (.var 0) (.cons (.call 34 (.cons (.var 1) (.cons (.var 4) .nil))) (.cons (.var 2) .nil)))) (.nm 4) (.r1 (.var 3)) .no [4]) .nil)))
.nil))))⟩
def ir_ages_by_limit : Fn := ⟨4, 5, (.cons (.exp (.call 10 (.cons (.var 0) (.cons (.var 1) .nil))))
(.cons (.exp (.call 12 (.cons (.var 2) .nil)))
(.cons (.exp (.call 32 (.cons (.var 3) .nil)))
(.cons (.for_ (.nm 4) (.r1 (.var 3))
(.cons (.set 1 (.call 43 (.cons (.var 1) (.cons (.var 2) .nil))))
.nil))
(.cons (.ret (.var 1))
.nil)))))⟩
def ir_yields_by_limit : Fn := ⟨5, 7, (.cons (.exp (.call 10 (.cons (.var 0) (.cons (.var 1) .nil))))
(.cons (.exp (.call 42 (.cons (.var 2) .nil)))
(.cons (.exp (.call 12 (.cons (.var 3) .nil)))
(.cons (.exp (.call 32 (.cons (.var 4) .nil)))
(.cons (.setO 5 (.lst .nil))
(.cons (.for_ (.nm 6) (.r1 (.var 4))
(.cons (.app 5 (.call 45 (.cons (.var 0) (.cons (.var 1) (.cons (.var 2) .nil)))))
(.cons (.set 1 (.call 43 (.cons (.var 1) (.cons (.var 3) .nil))))
.nil)))
(.cons (.ret (.bif .tuple (.cons (.own 5) .nil)))
.nil)))))))⟩
def ir_renewed_many : Fn := ⟨4, 7, (.cons (.exp (.call 10 (.cons (.var 0) (.cons (.var 1) .nil))))
(.cons (.exp (.call 12 (.cons (.var 2) .nil)))
(.cons (.exp (.call 32 (.cons (.var 3) .nil)))
(.cons (.set 4 (.int 0))
(.cons (.for_ (.nm 5) (.r1 (.var 3))
(.cons (.aug 4 .add (.bif .len (.cons (.lc (.int 1) (.nm 6) (.e (.call 33 (.cons (.var 0) (.cons (.var 1) .nil)))) (.so (.cmp .ge (.var 6) (.var 2))) [6]) .nil)))
(.cons (.set 1 (.call 43 (.cons (.var 1) (.cons (.var 2) .nil))))
.nil)))
(.cons (.ret (.var 4))
.nil))))))⟩
def ir_mean_yield : Fn := ⟨2, 5, (.cons (.exp (.call 42 (.cons (.var 0) .nil)))
(.cons (.exp (.call 12 (.cons (.var 1) .nil)))
(.cons (.set 2 (.bif .sum (.cons (.lc (.call 44 (.cons (.var 0) (.cons (.var 4) .nil))) (.nm 4) (.r2 (.int 1) (.bin .add (.var 1) (.int 1))) .no [4]) .nil)))
(.cons (.set 3 (.call 35 (.cons (.var 2) (.cons (.var 1) .nil))))
(.cons (.ret (.tup (.cons (.bin .fdiv (.var 2) (.var 3)) (.cons (.bin .fdiv (.var 1) (.var 3)) .nil))))
.nil)))))⟩
def ir_best_limit : Fn := ⟨1, 5, (.cons (.exp (.call 42 (.cons (.var 0) .nil)))
(.cons (.par [(1, false), (2, false), (3, false)] (.cons (.int 1) (.cons (.idx (.var 0) (.int 0)) (.cons (.int 0) .nil))))
(.cons (.for_ (.nm 4) (.r2 (.int 1) (.bin .add (.bif .len (.cons (.var 0) .nil)) (.int 1)))
(.cons (.aug 3 .add (.idx (.var 0) (.bin .sub (.var 4) (.int 1))))
(.cons (.ifs (.cmp .gt (.bin .mul (.var 3) (.var 1)) (.bin .mul (.var 2) (.var 4)))
(.cons (.par [(1, false), (2, false)] (.cons (.var 4) (.cons (.var 3) .nil)))
.nil)
.nil)
.nil)))
(.cons (.ret (.var 1))
.nil))))⟩
def ir__law_roll : Fn := ⟨2, 4, (.cons (.ifs (.cmp .gt (.idx (.var 0) (.int 0)) (.int 0))
(.cons (.set 3 (.bin .mod (.bif .int (.cons (.idx (.var 0) (.int 0)) .nil)) (.var 1)))
(.cons (.cupS 0 (.int 0) (.bin .fdiv (.idx (.var 0) (.int 0)) (.var 1)))
(.cons (.ret (.var 3))
.nil)))
.nil)
(.cons (.cupS 0 (.int 1) (.bin .mod (.bif .int (.cons (.bin .add (.bin .mul (.idx (.var 0) (.int 1)) (.int 30829)) (.int 7873)) .nil)) (.int 2147482951)))
(.cons (.set 2 (.bin .mod (.bif .int (.cons (.bin .mul (.idx (.var 0) (.int 1)) (.bin .add (.idx (.var 0) (.int 1)) (.int 277))) .nil)) (.int 2147483059)))
(.cons (.ret (.bin .mod (.bif .int (.cons (.bin .fdiv (.var 2) (.int 883)) .nil)) (.var 1)))
.nil))))⟩
def ir__law_some : Fn := ⟨2, 2, (.cons (.ret (.idx (.var 1) (.call 21 (.cons (.var 0) (.cons (.bif .len (.cons (.var 1) .nil)) .nil)))))
.nil)⟩
def ir__law_same : Fn := ⟨2, 3, (.cons (.ifs (.isi 3 (.var 1))
(.cons (.ifs (.or (.cons (.not (.isi 3 (.var 0))) (.cons (.cmp .ne (.bif .len (.cons (.var 0) .nil)) (.bif .len (.cons (.var 1) .nil))) .nil)))
(.cons (.ret (.bl false))
.nil)
.nil)
(.cons (.ret (.bif .all (.cons (.lc (.call 23 (.cons (.idx (.var 0) (.var 2)) (.cons (.idx (.var 1) (.var 2)) .nil))) (.nm 2) (.r1 (.bif .len (.cons (.var 1) .nil))) .no [2]) .nil)))
.nil))
.nil)
(.cons (.ifs (.cmp .is (.var 1) .non)
(.cons (.ret (.cmp .is (.var 0) .non))
.nil)
.nil)
(.cons (.ifs (.isi 1 (.var 1))
(.cons (.ret (.ite (.var 1) (.cmp .is (.var 0) (.bl true)) (.cmp .is (.var 0) (.bl false))))
.nil)
.nil)
(.cons (.ifs (.isi 0 (.var 1))
(.cons (.ret (.and (.cons (.isi 0 (.var 0)) (.cons (.not (.isi 1 (.var 0))) (.cons (.cmp .eq (.bif .int (.cons (.var 0) .nil)) (.var 1)) .nil)))))
.nil)
.nil)
(.cons (.ret (.and (.cons (.isi 2 (.var 0)) (.cons (.cmp .eq (.bif .str (.cons (.var 0) .nil)) (.var 1)) .nil))))
.nil)))))⟩
def ir__law_plot : Fn := ⟨3, 8, (.cons (.par [(3, false), (4, false)] (.cons (.bin .add (.int 1) (.call 21 (.cons (.var 0) (.cons (.var 1) .nil)))) (.cons (.bin .add (.int 1) (.call 21 (.cons (.var 0) (.cons (.var 1) .nil)))) .nil)))
(.cons (.set 5 (.call 22 (.cons (.var 0) (.cons (.lst (.cons (.var 2) (.cons (.bin .add (.var 2) (.str [46])) (.cons (.bin .add (.var 2) (.str [46, 46])) (.cons (.bin .add (.bin .mul (.str [46]) (.bif .len (.cons (.var 2) .nil))) (.var 2)) .nil))))) .nil))))
(.cons (.ret (.bif .tuple (.cons (.lc (.met .join (.str []) (.cons (.lc (.call 22 (.cons (.var 0) (.cons (.var 5) .nil))) (.nm 7) (.r1 (.var 4)) .no [7]) .nil)) (.nm 6) (.r1 (.var 3)) .no [6]) .nil)))
.nil)))⟩
def ir__law_ages : Fn := ⟨3, 6, (.cons (.setO 3 (.lst .nil))
(.cons (.for_ (.nm 4) (.e (.var 1))
(.cons (.app 3 (.bif .tuple (.cons (.lc (.ite (.cmp .eq (.var 5) (.str [46])) (.int 0) (.bin .add (.int 1) (.call 21 (.cons (.var 0) (.cons (.var 2) .nil))))) (.nm 5) (.e (.var 4)) .no [5]) .nil)))
.nil))
(.cons (.ret (.bif .tuple (.cons (.own 3) .nil)))
.nil)))⟩
def ir__law_curve : Fn := ⟨2, 3, (.cons (.ret (.bif .tuple (.cons (.lc (.call 21 (.cons (.var 0) (.cons (.int 100) .nil))) (.nm 2) (.r1 (.bin .add (.int 1) (.call 21 (.cons (.var 0) (.cons (.var 1) .nil))))) .no [2]) .nil)))
.nil)⟩
def ir__law_grown : Fn := ⟨2, 6, (.cons (.setO 2 (.lst .nil))
(.cons (.for_ (.nm 3) (.e (.var 0))
(.cons (.setO 4 (.lst .nil))
(.cons (.for_ (.nm 5) (.e (.var 3))
(.cons (.app 4 (.ite (.cmp .eq (.var 5) (.int 0)) (.int 0) (.ite (.and (.cons (.cmp .gt (.var 1) (.int 0)) (.cons (.cmp .gt (.bin .add (.var 5) (.int 1)) (.var 1)) .nil))) (.int 1) (.bin .add (.var 5) (.int 1)))))
.nil))
(.cons (.app 2 (.bif .tuple (.cons (.own 4) .nil)))
.nil))))
(.cons (.ret (.bif .tuple (.cons (.own 2) .nil)))
.nil)))⟩
def ir__law_yield : Fn := ⟨2, 5, (.cons (.set 2 (.int 0))
(.cons (.for_ (.nm 3) (.e (.var 0))
(.cons (.for_ (.nm 4) (.e (.var 3))
(.cons (.set 2 (.bin .add (.var 2) (.ite (.chn .lt .le (.int 0) (.var 4) (.bif .len (.cons (.var 1) .nil))) (.idx (.var 1) (.bin .sub (.var 4) (.int 1))) (.int 0))))
.nil))
.nil))
(.cons (.ret (.var 2))
.nil)))⟩
def ir__law_right : Fn := ⟨1, 24, (.cons (.set 1 (.call 24 (.cons (.var 0) (.cons (.int 4) (.cons (.str [97, 98]) .nil)))))
(.cons (.par [(2, false), (3, false)] (.cons (.call 27 (.cons (.var 0) (.cons (.var 1) (.cons (.call 22 (.cons (.var 0) (.cons (.lst (.cons (.int 5) (.cons (.int 60) .nil))) .nil))) .nil)))) (.cons (.call 28 (.cons (.var 0) (.cons (.call 22 (.cons (.var 0) (.cons (.lst (.cons (.int 4) (.cons (.int 60) .nil))) .nil))) .nil))) .nil)))
(.cons (.par [(4, false), (5, false)] (.cons (.bin .add (.int 1) (.call 21 (.cons (.var 0) (.cons (.call 22 (.cons (.var 0) (.cons (.lst (.cons (.int 6) (.cons (.int 60) .nil))) .nil))) .nil)))) (.cons (.call 21 (.cons (.var 0) (.cons (.call 22 (.cons (.var 0) (.cons (.lst (.cons (.int 5) (.cons (.int 40) .nil))) .nil))) .nil))) .nil)))
(.cons (.par [(6, false), (7, false), (8, false), (9, false), (10, false)] (.cons (.lst .nil) (.cons (.lst .nil) (.cons (.var 2) (.cons (.var 2) (.cons (.int 0) .nil))))))
(.cons (.for_ (.nm 11) (.r1 (.var 5))
(.cons (.par [(6, false), (7, false)] (.cons (.bin .add (.var 6) (.lst (.cons (.call 53 (.cons (.var 8) (.cons (.var 3) .nil))) .nil))) (.cons (.bin .add (.var 7) (.lst (.cons (.call 53 (.cons (.var 9) (.cons (.var 3) .nil))) .nil))) .nil)))
(.cons (.set 17 (.call 41 (.cons (.var 9) (.cons (.var 4) .nil))))
(.cons (.for_ (.tp [18, 19]) (.zp (.var 9) (.var 17))
(.cons (.set 10 (.bin .add (.var 10) (.bif .len (.cons (.lc (.int 1) (.tp [21, 22]) (.zp (.var 18) (.var 19)) (.so (.and (.cons (.cmp .gt (.var 21) (.int 0)) (.cons (.cmp .eq (.var 22) (.int 1)) .nil)))) [21, 22]) .nil))))
.nil))
(.cons (.par [(8, false), (9, false)] (.cons (.call 41 (.cons (.var 8) (.cons (.int 0) .nil))) (.cons (.var 17) .nil)))
.nil)))))
(.cons (.set 12 (.tup (.cons (.call 46 (.cons (.var 1) (.cons (.var 2) (.cons (.var 3) .nil)))) (.cons (.call 47 (.cons (.var 1) (.cons (.var 2) (.cons (.var 3) (.cons (.var 5) .nil))))) (.cons (.call 49 (.cons (.var 1) (.cons (.var 2) (.cons (.var 3) (.cons (.var 4) (.cons (.var 5) .nil)))))) .nil)))))
(.cons (.ifs (.not (.call 23 (.cons (.var 12) (.cons (.tup (.cons (.call 53 (.cons (.var 2) (.cons (.var 3) .nil))) (.cons (.bif .tuple (.cons (.var 6) .nil)) (.cons (.bif .tuple (.cons (.var 7) .nil)) .nil)))) .nil))))
(.cons (.ret (.bl false))
.nil)
.nil)
(.cons (.set 12 (.tup (.cons (.call 48 (.cons (.var 1) (.cons (.var 2) (.cons (.var 4) (.cons (.var 5) .nil))))) (.cons (.call 50 (.cons (.var 1) (.cons (.var 2) (.cons (.var 4) (.cons (.var 5) .nil))))) .nil))))
(.cons (.ifs (.not (.call 23 (.cons (.var 12) (.cons (.tup (.cons (.var 9) (.cons (.var 10) .nil))) .nil))))
(.cons (.ret (.bl false))
.nil)
.nil)
(.cons (.set 13 (.lc (.bif .sum (.cons (.slc (.var 3) .no (.so (.var 20))) .nil)) (.nm 20) (.r2 (.int 1) (.int 61)) .no [20]))
(.cons (.set 14 (.idx (.lc (.var 20) (.nm 20) (.r2 (.int 1) (.int 61)) (.so (.cmp .eq (.lc (.var 23) (.nm 23) (.r2 (.int 1) (.int 61)) (.so (.cmp .gt (.bin .mul (.idx (.var 13) (.bin .sub (.var 23) (.int 1))) (.var 20)) (.bin .mul (.idx (.var 13) (.bin .sub (.var 20) (.int 1))) (.var 23)))) [23]) (.lst .nil))) [20]) (.int 0)))
(.cons (.set 15 (.idx (.var 13) (.bin .sub (.var 4) (.int 1))))
(.cons (.set 16 (.idx (.lc (.var 20) (.nm 20) (.r2 (.int 1) (.bin .add (.var 4) (.int 1))) (.so (.and (.cons (.cmp .eq (.bin .mod (.var 4) (.var 20)) (.int 0)) (.cons (.cmp .eq (.bin .mod (.var 15) (.var 20)) (.int 0)) .nil)))) [20]) (.neg (.int 1))))
(.cons (.ret (.call 23 (.cons (.tup (.cons (.call 52 (.cons (.var 3) .nil)) (.cons (.call 51 (.cons (.var 3) (.cons (.var 4) .nil))) .nil))) (.cons (.tup (.cons (.var 14) (.cons (.tup (.cons (.bin .fdiv (.var 15) (.var 16)) (.cons (.bin .fdiv (.var 4) (.var 16)) .nil))) .nil))) .nil))))
.nil))))))))))))))⟩
def ir_cup : E := (.lst (.cons (.ite (.cmp .ge (.var 1) (.bin .pow (.int 10) (.int 18))) (.bin .fdiv (.var 1) (.int 137)) (.int 0)) (.cons (.bin .add (.bin .mod (.bif .int (.cons (.bin .add (.bin .mul (.var 1) (.int 383)) (.int 4003)) .nil)) (.int 2077502087)) (.int 257)) .nil)))
def ir_law : Cs := (.cons (.for_ (.nm 2) (.r1 (.int 4))
(.cons (.ifs (.not (.call 29 (.cons (.var 1) .nil)))
(.cons (.ret (.bl false))
.nil)
.nil)
.nil))
(.cons (.set 3 (.call 28 (.cons (.var 1) (.cons (.int 20) .nil))))
(.cons (.par [(4, false), (5, false)] (.cons (.bif .len (.cons (.var 3) .nil)) (.cons (.call 21 (.cons (.var 1) (.cons (.int 201) .nil))) .nil)))
(.cons (.set 6 (.tup (.cons (.call 49 (.cons (.tup (.cons (.str [97]) .nil)) (.cons (.tup (.cons (.tup (.cons (.int 1) .nil)) .nil)) (.cons (.var 3) (.cons (.var 4) (.cons (.var 5) .nil)))))) (.cons (.call 50 (.cons (.tup (.cons (.str [97]) .nil)) (.cons (.tup (.cons (.tup (.cons (.int 1) .nil)) .nil)) (.cons (.var 4) (.cons (.var 5) .nil))))) .nil))))
(.cons (.ret (.call 23 (.cons (.var 6) (.cons (.tup (.cons (.bif .tuple (.cons (.lc (.idx (.var 3) (.bin .mod (.var 7) (.var 4))) (.nm 7) (.r1 (.var 5)) .no [7]) .nil)) (.cons (.bin .fdiv (.var 5) (.var 4)) .nil))) .nil))))
.nil)))))
def Pt (n : Nat) : Option Fn := if n = 0 then some ir_is_whole else if n = 1 then some ir_fits_whole else if n = 2 then some ir_is_tuple_of else if n = 3 then some ir_fits_row else if n = 4 then some ir_fits_plot else if n = 5 then some ir_need_plot else if n = 8 then some ir_places_in else if n = 31 then some ir_trees_in else if n = 9 then some ir_fits_ages else if n = 10 then some ir_need_ages else if n = 11 then some ir_fits_curve else if n = 42 then some ir_need_curve else if n = 12 then some ir_need_age else if n = 32 then some ir_need_years else if n = 33 then some ir_ages_in else if n = 34 then some ir_older_in else if n = 43 then some ir_limited_in else if n = 44 then some ir_pounds_in else if n = 45 then some ir_yield_in else if n = 35 then some ir_divisor else if n = 46 then some ir_yield_of else if n = 47 then some ir_yields_over else if n = 48 then some ir_ages_by_limit else if n = 49 then some ir_yields_by_limit else if n = 50 then some ir_renewed_many else if n = 51 then some ir_mean_yield else if n = 52 then some ir_best_limit else if n = 21 then some ir__law_roll else if n = 22 then some ir__law_some else if n = 23 then some ir__law_same else if n = 24 then some ir__law_plot else if n = 27 then some ir__law_ages else if n = 28 then some ir__law_curve else if n = 41 then some ir__law_grown else if n = 53 then some ir__law_yield else if n = 29 then some ir__law_right else none
def fnN (n : Nat) : Str := if n = 0 then "is_whole" else if n = 1 then "fits_whole" else if n = 2 then "is_tuple_of" else if n = 3 then "fits_row" else if n = 4 then "fits_plot" else if n = 5 then "need_plot" else if n = 8 then "places_in" else if n = 31 then "trees_in" else if n = 9 then "fits_ages" else if n = 10 then "need_ages" else if n = 11 then "fits_curve" else if n = 42 then "need_curve" else if n = 12 then "need_age" else if n = 32 then "need_years" else if n = 33 then "ages_in" else if n = 34 then "older_in" else if n = 43 then "limited_in" else if n = 44 then "pounds_in" else if n = 45 then "yield_in" else if n = 35 then "divisor" else if n = 46 then "yield_of" else if n = 47 then "yields_over" else if n = 48 then "ages_by_limit" else if n = 49 then "yields_by_limit" else if n = 50 then "renewed_many" else if n = 51 then "mean_yield" else if n = 52 then "best_limit" else if n = 21 then "_law_roll" else if n = 22 then "_law_some" else if n = 23 then "_law_same" else if n = 24 then "_law_plot" else if n = 27 then "_law_ages" else if n = 28 then "_law_curve" else if n = 41 then "_law_grown" else if n = 53 then "_law_yield" else if n = 29 then "_law_right" else ""
def cst (n : Nat) : Option D := if n = 0 then some (.str [46]) else if n = 1 then some (.str [97, 98, 99, 100, 101, 102, 103, 104]) else if n = 2 then some (.int 12) else if n = 3 then some (.int 60) else if n = 4 then some (.int 99) else if n = 5 then some (.int 200) else none
def csN (n : Nat) : Str := if n = 0 then "BARE" else if n = 1 then "KINDS" else if n = 2 then "SIDE" else if n = 3 then "OLD" else if n = 4 then "POUNDS" else if n = 5 then "YEARS" else ""
def ids : List Nat := [0, 1, 2, 3, 4, 5, 8, 31, 9, 10, 11, 42, 12, 32, 33, 34, 43, 44, 45, 35, 46, 47, 48, 49, 50, 51, 52, 21, 22, 23, 24, 27, 28, 41, 53, 29]
def nm : Nm := ⟨fun n => decide (n ∈ ids), fnN, csN⟩
theorem pt_is_whole : Pt 0 = some ir_is_whole := rfl
theorem pt_fits_whole : Pt 1 = some ir_fits_whole := rfl
theorem pt_is_tuple_of : Pt 2 = some ir_is_tuple_of := rfl
theorem pt_fits_row : Pt 3 = some ir_fits_row := rfl
theorem pt_fits_plot : Pt 4 = some ir_fits_plot := rfl
theorem pt_need_plot : Pt 5 = some ir_need_plot := rfl
theorem pt_places_in : Pt 8 = some ir_places_in := rfl
theorem pt_trees_in : Pt 31 = some ir_trees_in := rfl
theorem pt_fits_ages : Pt 9 = some ir_fits_ages := rfl
theorem pt_need_ages : Pt 10 = some ir_need_ages := rfl
theorem pt_fits_curve : Pt 11 = some ir_fits_curve := rfl
theorem pt_need_curve : Pt 42 = some ir_need_curve := rfl
theorem pt_need_age : Pt 12 = some ir_need_age := rfl
theorem pt_need_years : Pt 32 = some ir_need_years := rfl
theorem pt_ages_in : Pt 33 = some ir_ages_in := rfl
theorem pt_older_in : Pt 34 = some ir_older_in := rfl
theorem pt_limited_in : Pt 43 = some ir_limited_in := rfl
theorem pt_pounds_in : Pt 44 = some ir_pounds_in := rfl
theorem pt_yield_in : Pt 45 = some ir_yield_in := rfl
theorem pt_divisor : Pt 35 = some ir_divisor := rfl
theorem pt_yield_of : Pt 46 = some ir_yield_of := rfl
theorem pt_yields_over : Pt 47 = some ir_yields_over := rfl
theorem pt_ages_by_limit : Pt 48 = some ir_ages_by_limit := rfl
theorem pt_yields_by_limit : Pt 49 = some ir_yields_by_limit := rfl
theorem pt_renewed_many : Pt 50 = some ir_renewed_many := rfl
theorem pt_mean_yield : Pt 51 = some ir_mean_yield := rfl
theorem pt_best_limit : Pt 52 = some ir_best_limit := rfl
theorem pt__law_roll : Pt 21 = some ir__law_roll := rfl
theorem pt__law_some : Pt 22 = some ir__law_some := rfl
theorem pt__law_same : Pt 23 = some ir__law_same := rfl
theorem pt__law_plot : Pt 24 = some ir__law_plot := rfl
theorem pt__law_ages : Pt 27 = some ir__law_ages := rfl
theorem pt__law_curve : Pt 28 = some ir__law_curve := rfl
theorem pt__law_grown : Pt 41 = some ir__law_grown := rfl
theorem pt__law_yield : Pt 53 = some ir__law_yield := rfl
theorem pt__law_right : Pt 29 = some ir__law_right := rfl
theorem cs_BARE : cst 0 = some (.str [46]) := rfl
theorem cs_KINDS : cst 1 = some (.str [97, 98, 99, 100, 101, 102, 103, 104]) := rfl
theorem cs_SIDE : cst 2 = some (.int 12) := rfl
theorem cs_OLD : cst 3 = some (.int 60) := rfl
theorem cs_POUNDS : cst 4 = some (.int 99) := rfl
theorem cs_YEARS : cst 5 = some (.int 200) := rfl
/-! ### the checks -/
theorem ck_is_whole : chkSs ["value"] nm (defScope (top 10)) ir_is_whole.body (defBody (top 10)) = true := by decide +kernel
theorem sc_is_whole : FnScope ["value"] ["value"] (defScope (top 10)) := C8.fnScope_by (by decide +kernel)
theorem ck_fits_whole : chkSs ["value", "low", "high"] nm (defScope (top 11)) ir_fits_whole.body (defBody (top 11)) = true := by decide +kernel
theorem sc_fits_whole : FnScope ["value", "low", "high"] ["value", "low", "high"] (defScope (top 11)) := C8.fnScope_by (by decide +kernel)
theorem ck_is_tuple_of : chkSs ["value", "least", "most"] nm (defScope (top 12)) ir_is_tuple_of.body (defBody (top 12)) = true := by decide +kernel
theorem sc_is_tuple_of : FnScope ["value", "least", "most"] ["value", "least", "most"] (defScope (top 12)) := C8.fnScope_by (by decide +kernel)
theorem ck_fits_row : chkSs ["value", "sign"] nm (defScope (top 13)) ir_fits_row.body (defBody (top 13)) = true := by decide +kernel
theorem sc_fits_row : FnScope ["value", "sign"] ["value"] (defScope (top 13)) := C8.fnScope_by (by decide +kernel)
theorem ck_fits_plot : chkSs ["value", "one"] nm (defScope (top 14)) ir_fits_plot.body (defBody (top 14)) = true := by decide +kernel
theorem sc_fits_plot : FnScope ["value", "one"] ["value"] (defScope (top 14)) := C8.fnScope_by (by decide +kernel)
theorem ck_need_plot : chkSs ["value"] nm (defScope (top 15)) ir_need_plot.body (defBody (top 15)) = true := by decide +kernel
theorem sc_need_plot : FnScope ["value"] ["value"] (defScope (top 15)) := C8.fnScope_by (by decide +kernel)
theorem ck_places_in : chkSs ["plot", "row", "column"] nm (defScope (top 16)) ir_places_in.body (defBody (top 16)) = true := by decide +kernel
theorem sc_places_in : FnScope ["plot", "row", "column"] ["plot"] (defScope (top 16)) := C8.fnScope_by (by decide +kernel)
theorem ck_trees_in : chkSs ["plot", "row", "column"] nm (defScope (top 17)) ir_trees_in.body (defBody (top 17)) = true := by decide +kernel
theorem sc_trees_in : FnScope ["plot", "row", "column"] ["plot"] (defScope (top 17)) := C8.fnScope_by (by decide +kernel)
theorem ck_fits_ages : chkSs ["plot", "value", "high", "wide", "row", "column", "one"] nm (defScope (top 22)) ir_fits_ages.body (defBody (top 22)) = true := by decide +kernel
theorem sc_fits_ages : FnScope ["plot", "value", "high", "wide", "row", "column", "one"] ["plot", "value"] (defScope (top 22)) := C8.fnScope_by (by decide +kernel)
theorem ck_need_ages : chkSs ["plot", "value"] nm (defScope (top 23)) ir_need_ages.body (defBody (top 23)) = true := by decide +kernel
theorem sc_need_ages : FnScope ["plot", "value"] ["plot", "value"] (defScope (top 23)) := C8.fnScope_by (by decide +kernel)
theorem ck_fits_curve : chkSs ["value", "one"] nm (defScope (top 24)) ir_fits_curve.body (defBody (top 24)) = true := by decide +kernel
theorem sc_fits_curve : FnScope ["value", "one"] ["value"] (defScope (top 24)) := C8.fnScope_by (by decide +kernel)
theorem ck_need_curve : chkSs ["value"] nm (defScope (top 25)) ir_need_curve.body (defBody (top 25)) = true := by decide +kernel
theorem sc_need_curve : FnScope ["value"] ["value"] (defScope (top 25)) := C8.fnScope_by (by decide +kernel)
theorem ck_need_age : chkSs ["value"] nm (defScope (top 26)) ir_need_age.body (defBody (top 26)) = true := by decide +kernel
theorem sc_need_age : FnScope ["value"] ["value"] (defScope (top 26)) := C8.fnScope_by (by decide +kernel)
theorem ck_need_years : chkSs ["value"] nm (defScope (top 27)) ir_need_years.body (defBody (top 27)) = true := by decide +kernel
theorem sc_need_years : FnScope ["value"] ["value"] (defScope (top 27)) := C8.fnScope_by (by decide +kernel)
theorem ck_ages_in : chkSs ["plot", "ages", "row", "column"] nm (defScope (top 28)) ir_ages_in.body (defBody (top 28)) = true := by decide +kernel
theorem sc_ages_in : FnScope ["plot", "ages", "row", "column"] ["plot", "ages"] (defScope (top 28)) := C8.fnScope_by (by decide +kernel)
theorem ck_older_in : chkSs ["ages", "years", "row", "one"] nm (defScope (top 29)) ir_older_in.body (defBody (top 29)) = true := by decide +kernel
theorem sc_older_in : FnScope ["ages", "years", "row", "one"] ["ages", "years"] (defScope (top 29)) := C8.fnScope_by (by decide +kernel)
theorem ck_limited_in : chkSs ["ages", "limit", "rows", "row", "one"] nm (defScope (top 30)) ir_limited_in.body (defBody (top 30)) = true := by decide +kernel
theorem sc_limited_in : FnScope ["ages", "limit", "rows", "row", "one"] ["ages", "limit"] (defScope (top 30)) := C8.fnScope_by (by decide +kernel)
theorem ck_pounds_in : chkSs ["curve", "age"] nm (defScope (top 31)) ir_pounds_in.body (defBody (top 31)) = true := by decide +kernel
theorem sc_pounds_in : FnScope ["curve", "age"] ["curve", "age"] (defScope (top 31)) := C8.fnScope_by (by decide +kernel)
theorem ck_yield_in : chkSs ["plot", "ages", "curve", "one"] nm (defScope (top 32)) ir_yield_in.body (defBody (top 32)) = true := by decide +kernel
theorem sc_yield_in : FnScope ["plot", "ages", "curve", "one"] ["plot", "ages", "curve"] (defScope (top 32)) := C8.fnScope_by (by decide +kernel)
theorem ck_divisor : chkSs ["one", "other"] nm (defScope (top 33)) ir_divisor.body (defBody (top 33)) = true := by decide +kernel
theorem sc_divisor : FnScope ["one", "other"] ["one", "other"] (defScope (top 33)) := C8.fnScope_by (by decide +kernel)
theorem ck_yield_of : chkSs ["plot", "ages", "curve"] nm (defScope (top 34)) ir_yield_of.body (defBody (top 34)) = true := by decide +kernel
theorem sc_yield_of : FnScope ["plot", "ages", "curve"] ["plot", "ages", "curve"] (defScope (top 34)) := C8.fnScope_by (by decide +kernel)
theorem ck_yields_over : chkSs ["plot", "ages", "curve", "years", "year"] nm (defScope (top 35)) ir_yields_over.body (defBody (top 35)) = true := by decide +kernel
theorem sc_yields_over : FnScope ["plot", "ages", "curve", "years", "year"] ["plot", "ages", "curve", "years"] (defScope (top 35)) := C8.fnScope_by (by decide +kernel)
theorem ck_ages_by_limit : chkSs ["plot", "ages", "limit", "years", "year"] nm (defScope (top 36)) ir_ages_by_limit.body (defBody (top 36)) = true := by decide +kernel
theorem sc_ages_by_limit : FnScope ["plot", "ages", "limit", "years", "year"] ["plot", "ages", "limit", "years"] (defScope (top 36)) := C8.fnScope_by (by decide +kernel)
theorem ck_yields_by_limit : chkSs ["plot", "ages", "curve", "limit", "years", "found", "year"] nm (defScope (top 37)) ir_yields_by_limit.body (defBody (top 37)) = true := by decide +kernel
theorem sc_yields_by_limit : FnScope ["plot", "ages", "curve", "limit", "years", "found", "year"] ["plot", "ages", "curve", "limit", "years"] (defScope (top 37)) := C8.fnScope_by (by decide +kernel)
theorem ck_renewed_many : chkSs ["plot", "ages", "limit", "years", "found", "year", "one"] nm (defScope (top 38)) ir_renewed_many.body (defBody (top 38)) = true := by decide +kernel
theorem sc_renewed_many : FnScope ["plot", "ages", "limit", "years", "found", "year", "one"] ["plot", "ages", "limit", "years"] (defScope (top 38)) := C8.fnScope_by (by decide +kernel)
theorem ck_mean_yield : chkSs ["curve", "limit", "whole", "share", "age"] nm (defScope (top 39)) ir_mean_yield.body (defBody (top 39)) = true := by decide +kernel
theorem sc_mean_yield : FnScope ["curve", "limit", "whole", "share", "age"] ["curve", "limit"] (defScope (top 39)) := C8.fnScope_by (by decide +kernel)
theorem ck_best_limit : chkSs ["curve", "best", "most", "whole", "limit"] nm (defScope (top 40)) ir_best_limit.body (defBody (top 40)) = true := by decide +kernel
theorem sc_best_limit : FnScope ["curve", "best", "most", "whole", "limit"] ["curve"] (defScope (top 40)) := C8.fnScope_by (by decide +kernel)
theorem ck__law_roll : chkSs ["cup", "many", "deep", "found"] nm (defScope (top 43)) ir__law_roll.body (defBody (top 43)) = true := by decide +kernel
theorem sc__law_roll : FnScope ["cup", "many", "deep", "found"] ["cup", "many"] (defScope (top 43)) := C8.fnScope_by (by decide +kernel)
theorem ck__law_some : chkSs ["cup", "things"] nm (defScope (top 44)) ir__law_some.body (defBody (top 44)) = true := by decide +kernel
theorem sc__law_some : FnScope ["cup", "things"] ["cup", "things"] (defScope (top 44)) := C8.fnScope_by (by decide +kernel)
theorem ck__law_same : chkSs ["told", "due", "at"] nm (defScope (top 45)) ir__law_same.body (defBody (top 45)) = true := by decide +kernel
theorem sc__law_same : FnScope ["told", "due", "at"] ["told", "due"] (defScope (top 45)) := C8.fnScope_by (by decide +kernel)
theorem ck__law_plot : chkSs ["cup", "most", "kinds", "high", "wide", "signs", "row", "column"] nm (defScope (top 46)) ir__law_plot.body (defBody (top 46)) = true := by decide +kernel
theorem sc__law_plot : FnScope ["cup", "most", "kinds", "high", "wide", "signs", "row", "column"] ["cup", "most", "kinds"] (defScope (top 46)) := C8.fnScope_by (by decide +kernel)
theorem ck__law_ages : chkSs ["cup", "plot", "most", "rows", "row", "sign"] nm (defScope (top 47)) ir__law_ages.body (defBody (top 47)) = true := by decide +kernel
theorem sc__law_ages : FnScope ["cup", "plot", "most", "rows", "row", "sign"] ["cup", "plot", "most"] (defScope (top 47)) := C8.fnScope_by (by decide +kernel)
theorem ck__law_curve : chkSs ["cup", "most", "year"] nm (defScope (top 48)) ir__law_curve.body (defBody (top 48)) = true := by decide +kernel
theorem sc__law_curve : FnScope ["cup", "most", "year"] ["cup", "most"] (defScope (top 48)) := C8.fnScope_by (by decide +kernel)
theorem ck__law_grown : chkSs ["ages", "limit", "rows", "row", "line", "one"] nm (defScope (top 49)) ir__law_grown.body (defBody (top 49)) = true := by decide +kernel
theorem sc__law_grown : FnScope ["ages", "limit", "rows", "row", "line", "one"] ["ages", "limit"] (defScope (top 49)) := C8.fnScope_by (by decide +kernel)
theorem ck__law_yield : chkSs ["ages", "curve", "found", "row", "one"] nm (defScope (top 50)) ir__law_yield.body (defBody (top 50)) = true := by decide +kernel
theorem sc__law_yield : FnScope ["ages", "curve", "found", "row", "one"] ["ages", "curve"] (defScope (top 50)) := C8.fnScope_by (by decide +kernel)
theorem ck__law_right : chkSs ["cup", "plot", "ages", "curve", "limit", "years", "free", "bound", "here", "there", "renewed", "year", "told", "wholes", "best", "whole", "share", "later", "row", "line", "own", "one", "other", "to"] nm (defScope (top 51)) ir__law_right.body (defBody (top 51)) = true := by decide +kernel
theorem sc__law_right : FnScope ["cup", "plot", "ages", "curve", "limit", "years", "free", "bound", "here", "there", "renewed", "year", "told", "wholes", "best", "whole", "share", "later", "row", "line", "own", "one", "other", "to"] ["cup"] (defScope (top 51)) := C8.fnScope_by (by decide +kernel)
theorem ck_cup1 : cupSt ["script", "cell"] (defScope (top 42)) ((defBody (top 42)).headD (.Pass ⟨0, 0, 0, 0⟩)) = true := by decide +kernel
theorem ck_cup2 : chkSs ["script", "cell"] nm (defScope (top 42)) (.cons (.ret ir_cup) .nil) (defBody (top 42)).tail = true := by decide +kernel
theorem sc_cup : FnScope ["script", "cell"] ["script"] (defScope (top 42)) := C8.fnScope_by (by decide +kernel)
theorem ck_law1 : lawSt ["script", "cup", "turn", "curve", "limit", "years", "told", "year"] (defScope (top 52)) "_law_cup" ((defBody (top 52)).headD (.Pass ⟨0, 0, 0, 0⟩)) = true := by decide +kernel
theorem ck_law2 : chkSs ["script", "cup", "turn", "curve", "limit", "years", "told", "year"] nm (defScope (top 52)) ir_law (defBody (top 52)).tail = true := by decide +kernel
theorem sc_law : FnScope ["script", "cup", "turn", "curve", "limit", "years", "told", "year"] ["script"] (defScope (top 52)) := C8.fnScope_by (by decide +kernel)
/-! ### the facts -/
section
variable {K : PySem.W.Frag} {h : Heap} {mg : Str → Option Value}
theorem fs_is_whole (X : K.In h) (G : h.Ns mainGlobals mg) (c : He.SaysD fa fn K) : FnS K mg Pt nm 0 := by
  obtain ⟨fd, F⟩ := c.def_ 0 (d := dd "is_whole" 10) rfl
  exact ⟨_, fd, ["value"], ["value"], _, _, _, _, _, ir_is_whole, rfl, He.glo_ok X G (c.fact 0 (f := .glo "is_whole") rfl), F.bindsN (ps := ["value"]) (fun _ _ _ _ _ _ us hl => match us, hl with | [_], _ => rfl), F, sc_is_whole, ck_is_whole, rfl, rfl⟩
theorem fs_fits_whole (X : K.In h) (G : h.Ns mainGlobals mg) (c : He.SaysD fa fn K) : FnS K mg Pt nm 1 := by
  obtain ⟨fd, F⟩ := c.def_ 1 (d := dd "fits_whole" 11) rfl
  exact ⟨_, fd, ["value", "low", "high"], ["value", "low", "high"], _, _, _, _, _, ir_fits_whole, rfl, He.glo_ok X G (c.fact 1 (f := .glo "fits_whole") rfl), F.bindsN (ps := ["value", "low", "high"]) (fun _ _ _ _ _ _ us hl => match us, hl with | [_, _, _], _ => rfl), F, sc_fits_whole, ck_fits_whole, rfl, rfl⟩
theorem fs_is_tuple_of (X : K.In h) (G : h.Ns mainGlobals mg) (c : He.SaysD fa fn K) : FnS K mg Pt nm 2 := by
  obtain ⟨fd, F⟩ := c.def_ 2 (d := dd "is_tuple_of" 12) rfl
  exact ⟨_, fd, ["value", "least", "most"], ["value", "least", "most"], _, _, _, _, _, ir_is_tuple_of, rfl, He.glo_ok X G (c.fact 2 (f := .glo "is_tuple_of") rfl), F.bindsN (ps := ["value", "least", "most"]) (fun _ _ _ _ _ _ us hl => match us, hl with | [_, _, _], _ => rfl), F, sc_is_tuple_of, ck_is_tuple_of, rfl, rfl⟩
theorem fs_fits_row (X : K.In h) (G : h.Ns mainGlobals mg) (c : He.SaysD fa fn K) : FnS K mg Pt nm 3 := by
  obtain ⟨fd, F⟩ := c.def_ 3 (d := dd "fits_row" 13) rfl
  exact ⟨_, fd, ["value"], ["value", "sign"], _, _, _, _, _, ir_fits_row, rfl, He.glo_ok X G (c.fact 3 (f := .glo "fits_row") rfl), F.bindsN (ps := ["value"]) (fun _ _ _ _ _ _ us hl => match us, hl with | [_], _ => rfl), F, sc_fits_row, ck_fits_row, rfl, rfl⟩
theorem fs_fits_plot (X : K.In h) (G : h.Ns mainGlobals mg) (c : He.SaysD fa fn K) : FnS K mg Pt nm 4 := by
  obtain ⟨fd, F⟩ := c.def_ 4 (d := dd "fits_plot" 14) rfl
  exact ⟨_, fd, ["value"], ["value", "one"], _, _, _, _, _, ir_fits_plot, rfl, He.glo_ok X G (c.fact 4 (f := .glo "fits_plot") rfl), F.bindsN (ps := ["value"]) (fun _ _ _ _ _ _ us hl => match us, hl with | [_], _ => rfl), F, sc_fits_plot, ck_fits_plot, rfl, rfl⟩
theorem fs_need_plot (X : K.In h) (G : h.Ns mainGlobals mg) (c : He.SaysD fa fn K) : FnS K mg Pt nm 5 := by
  obtain ⟨fd, F⟩ := c.def_ 5 (d := dd "need_plot" 15) rfl
  exact ⟨_, fd, ["value"], ["value"], _, _, _, _, _, ir_need_plot, rfl, He.glo_ok X G (c.fact 5 (f := .glo "need_plot") rfl), F.bindsN (ps := ["value"]) (fun _ _ _ _ _ _ us hl => match us, hl with | [_], _ => rfl), F, sc_need_plot, ck_need_plot, rfl, rfl⟩
theorem fs_places_in (X : K.In h) (G : h.Ns mainGlobals mg) (c : He.SaysD fa fn K) : FnS K mg Pt nm 8 := by
  obtain ⟨fd, F⟩ := c.def_ 6 (d := dd "places_in" 16) rfl
  exact ⟨_, fd, ["plot"], ["plot", "row", "column"], _, _, _, _, _, ir_places_in, rfl, He.glo_ok X G (c.fact 6 (f := .glo "places_in") rfl), F.bindsN (ps := ["plot"]) (fun _ _ _ _ _ _ us hl => match us, hl with | [_], _ => rfl), F, sc_places_in, ck_places_in, rfl, rfl⟩
theorem fs_trees_in (X : K.In h) (G : h.Ns mainGlobals mg) (c : He.SaysD fa fn K) : FnS K mg Pt nm 31 := by
  obtain ⟨fd, F⟩ := c.def_ 7 (d := dd "trees_in" 17) rfl
  exact ⟨_, fd, ["plot"], ["plot", "row", "column"], _, _, _, _, _, ir_trees_in, rfl, He.glo_ok X G (c.fact 7 (f := .glo "trees_in") rfl), F.bindsN (ps := ["plot"]) (fun _ _ _ _ _ _ us hl => match us, hl with | [_], _ => rfl), F, sc_trees_in, ck_trees_in, rfl, rfl⟩
theorem fs_fits_ages (X : K.In h) (G : h.Ns mainGlobals mg) (c : He.SaysD fa fn K) : FnS K mg Pt nm 9 := by
  obtain ⟨fd, F⟩ := c.def_ 8 (d := dd "fits_ages" 22) rfl
  exact ⟨_, fd, ["plot", "value"], ["plot", "value", "high", "wide", "row", "column", "one"], _, _, _, _, _, ir_fits_ages, rfl, He.glo_ok X G (c.fact 8 (f := .glo "fits_ages") rfl), F.bindsN (ps := ["plot", "value"]) (fun _ _ _ _ _ _ us hl => match us, hl with | [_, _], _ => rfl), F, sc_fits_ages, ck_fits_ages, rfl, rfl⟩
theorem fs_need_ages (X : K.In h) (G : h.Ns mainGlobals mg) (c : He.SaysD fa fn K) : FnS K mg Pt nm 10 := by
  obtain ⟨fd, F⟩ := c.def_ 9 (d := dd "need_ages" 23) rfl
  exact ⟨_, fd, ["plot", "value"], ["plot", "value"], _, _, _, _, _, ir_need_ages, rfl, He.glo_ok X G (c.fact 9 (f := .glo "need_ages") rfl), F.bindsN (ps := ["plot", "value"]) (fun _ _ _ _ _ _ us hl => match us, hl with | [_, _], _ => rfl), F, sc_need_ages, ck_need_ages, rfl, rfl⟩
theorem fs_fits_curve (X : K.In h) (G : h.Ns mainGlobals mg) (c : He.SaysD fa fn K) : FnS K mg Pt nm 11 := by
  obtain ⟨fd, F⟩ := c.def_ 10 (d := dd "fits_curve" 24) rfl
  exact ⟨_, fd, ["value"], ["value", "one"], _, _, _, _, _, ir_fits_curve, rfl, He.glo_ok X G (c.fact 10 (f := .glo "fits_curve") rfl), F.bindsN (ps := ["value"]) (fun _ _ _ _ _ _ us hl => match us, hl with | [_], _ => rfl), F, sc_fits_curve, ck_fits_curve, rfl, rfl⟩
theorem fs_need_curve (X : K.In h) (G : h.Ns mainGlobals mg) (c : He.SaysD fa fn K) : FnS K mg Pt nm 42 := by
  obtain ⟨fd, F⟩ := c.def_ 11 (d := dd "need_curve" 25) rfl
  exact ⟨_, fd, ["value"], ["value"], _, _, _, _, _, ir_need_curve, rfl, He.glo_ok X G (c.fact 11 (f := .glo "need_curve") rfl), F.bindsN (ps := ["value"]) (fun _ _ _ _ _ _ us hl => match us, hl with | [_], _ => rfl), F, sc_need_curve, ck_need_curve, rfl, rfl⟩
theorem fs_need_age (X : K.In h) (G : h.Ns mainGlobals mg) (c : He.SaysD fa fn K) : FnS K mg Pt nm 12 := by
  obtain ⟨fd, F⟩ := c.def_ 12 (d := dd "need_age" 26) rfl
  exact ⟨_, fd, ["value"], ["value"], _, _, _, _, _, ir_need_age, rfl, He.glo_ok X G (c.fact 12 (f := .glo "need_age") rfl), F.bindsN (ps := ["value"]) (fun _ _ _ _ _ _ us hl => match us, hl with | [_], _ => rfl), F, sc_need_age, ck_need_age, rfl, rfl⟩
theorem fs_need_years (X : K.In h) (G : h.Ns mainGlobals mg) (c : He.SaysD fa fn K) : FnS K mg Pt nm 32 := by
  obtain ⟨fd, F⟩ := c.def_ 13 (d := dd "need_years" 27) rfl
  exact ⟨_, fd, ["value"], ["value"], _, _, _, _, _, ir_need_years, rfl, He.glo_ok X G (c.fact 13 (f := .glo "need_years") rfl), F.bindsN (ps := ["value"]) (fun _ _ _ _ _ _ us hl => match us, hl with | [_], _ => rfl), F, sc_need_years, ck_need_years, rfl, rfl⟩
theorem fs_ages_in (X : K.In h) (G : h.Ns mainGlobals mg) (c : He.SaysD fa fn K) : FnS K mg Pt nm 33 := by
  obtain ⟨fd, F⟩ := c.def_ 14 (d := dd "ages_in" 28) rfl
  exact ⟨_, fd, ["plot", "ages"], ["plot", "ages", "row", "column"], _, _, _, _, _, ir_ages_in, rfl, He.glo_ok X G (c.fact 14 (f := .glo "ages_in") rfl), F.bindsN (ps := ["plot", "ages"]) (fun _ _ _ _ _ _ us hl => match us, hl with | [_, _], _ => rfl), F, sc_ages_in, ck_ages_in, rfl, rfl⟩
theorem fs_older_in (X : K.In h) (G : h.Ns mainGlobals mg) (c : He.SaysD fa fn K) : FnS K mg Pt nm 34 := by
  obtain ⟨fd, F⟩ := c.def_ 15 (d := dd "older_in" 29) rfl
  exact ⟨_, fd, ["ages", "years"], ["ages", "years", "row", "one"], _, _, _, _, _, ir_older_in, rfl, He.glo_ok X G (c.fact 15 (f := .glo "older_in") rfl), F.bindsN (ps := ["ages", "years"]) (fun _ _ _ _ _ _ us hl => match us, hl with | [_, _], _ => rfl), F, sc_older_in, ck_older_in, rfl, rfl⟩
theorem fs_limited_in (X : K.In h) (G : h.Ns mainGlobals mg) (c : He.SaysD fa fn K) : FnS K mg Pt nm 43 := by
  obtain ⟨fd, F⟩ := c.def_ 16 (d := dd "limited_in" 30) rfl
  exact ⟨_, fd, ["ages", "limit"], ["ages", "limit", "rows", "row", "one"], _, _, _, _, _, ir_limited_in, rfl, He.glo_ok X G (c.fact 16 (f := .glo "limited_in") rfl), F.bindsN (ps := ["ages", "limit"]) (fun _ _ _ _ _ _ us hl => match us, hl with | [_, _], _ => rfl), F, sc_limited_in, ck_limited_in, rfl, rfl⟩
theorem fs_pounds_in (X : K.In h) (G : h.Ns mainGlobals mg) (c : He.SaysD fa fn K) : FnS K mg Pt nm 44 := by
  obtain ⟨fd, F⟩ := c.def_ 17 (d := dd "pounds_in" 31) rfl
  exact ⟨_, fd, ["curve", "age"], ["curve", "age"], _, _, _, _, _, ir_pounds_in, rfl, He.glo_ok X G (c.fact 17 (f := .glo "pounds_in") rfl), F.bindsN (ps := ["curve", "age"]) (fun _ _ _ _ _ _ us hl => match us, hl with | [_, _], _ => rfl), F, sc_pounds_in, ck_pounds_in, rfl, rfl⟩
theorem fs_yield_in (X : K.In h) (G : h.Ns mainGlobals mg) (c : He.SaysD fa fn K) : FnS K mg Pt nm 45 := by
  obtain ⟨fd, F⟩ := c.def_ 18 (d := dd "yield_in" 32) rfl
  exact ⟨_, fd, ["plot", "ages", "curve"], ["plot", "ages", "curve", "one"], _, _, _, _, _, ir_yield_in, rfl, He.glo_ok X G (c.fact 18 (f := .glo "yield_in") rfl), F.bindsN (ps := ["plot", "ages", "curve"]) (fun _ _ _ _ _ _ us hl => match us, hl with | [_, _, _], _ => rfl), F, sc_yield_in, ck_yield_in, rfl, rfl⟩
theorem fs_divisor (X : K.In h) (G : h.Ns mainGlobals mg) (c : He.SaysD fa fn K) : FnS K mg Pt nm 35 := by
  obtain ⟨fd, F⟩ := c.def_ 19 (d := dd "divisor" 33) rfl
  exact ⟨_, fd, ["one", "other"], ["one", "other"], _, _, _, _, _, ir_divisor, rfl, He.glo_ok X G (c.fact 19 (f := .glo "divisor") rfl), F.bindsN (ps := ["one", "other"]) (fun _ _ _ _ _ _ us hl => match us, hl with | [_, _], _ => rfl), F, sc_divisor, ck_divisor, rfl, rfl⟩
theorem fs_yield_of (X : K.In h) (G : h.Ns mainGlobals mg) (c : He.SaysD fa fn K) : FnS K mg Pt nm 46 := by
  obtain ⟨fd, F⟩ := c.def_ 20 (d := dd "yield_of" 34) rfl
  exact ⟨_, fd, ["plot", "ages", "curve"], ["plot", "ages", "curve"], _, _, _, _, _, ir_yield_of, rfl, He.glo_ok X G (c.fact 20 (f := .glo "yield_of") rfl), F.bindsN (ps := ["plot", "ages", "curve"]) (fun _ _ _ _ _ _ us hl => match us, hl with | [_, _, _], _ => rfl), F, sc_yield_of, ck_yield_of, rfl, rfl⟩
theorem fs_yields_over (X : K.In h) (G : h.Ns mainGlobals mg) (c : He.SaysD fa fn K) : FnS K mg Pt nm 47 := by
  obtain ⟨fd, F⟩ := c.def_ 21 (d := dd "yields_over" 35) rfl
  exact ⟨_, fd, ["plot", "ages", "curve", "years"], ["plot", "ages", "curve", "years", "year"], _, _, _, _, _, ir_yields_over, rfl, He.glo_ok X G (c.fact 21 (f := .glo "yields_over") rfl), F.bindsN (ps := ["plot", "ages", "curve", "years"]) (fun _ _ _ _ _ _ us hl => match us, hl with | [_, _, _, _], _ => rfl), F, sc_yields_over, ck_yields_over, rfl, rfl⟩
theorem fs_ages_by_limit (X : K.In h) (G : h.Ns mainGlobals mg) (c : He.SaysD fa fn K) : FnS K mg Pt nm 48 := by
  obtain ⟨fd, F⟩ := c.def_ 22 (d := dd "ages_by_limit" 36) rfl
  exact ⟨_, fd, ["plot", "ages", "limit", "years"], ["plot", "ages", "limit", "years", "year"], _, _, _, _, _, ir_ages_by_limit, rfl, He.glo_ok X G (c.fact 22 (f := .glo "ages_by_limit") rfl), F.bindsN (ps := ["plot", "ages", "limit", "years"]) (fun _ _ _ _ _ _ us hl => match us, hl with | [_, _, _, _], _ => rfl), F, sc_ages_by_limit, ck_ages_by_limit, rfl, rfl⟩
theorem fs_yields_by_limit (X : K.In h) (G : h.Ns mainGlobals mg) (c : He.SaysD fa fn K) : FnS K mg Pt nm 49 := by
  obtain ⟨fd, F⟩ := c.def_ 23 (d := dd "yields_by_limit" 37) rfl
  exact ⟨_, fd, ["plot", "ages", "curve", "limit", "years"], ["plot", "ages", "curve", "limit", "years", "found", "year"], _, _, _, _, _, ir_yields_by_limit, rfl, He.glo_ok X G (c.fact 23 (f := .glo "yields_by_limit") rfl), F.bindsN (ps := ["plot", "ages", "curve", "limit", "years"]) (fun _ _ _ _ _ _ us hl => match us, hl with | [_, _, _, _, _], _ => rfl), F, sc_yields_by_limit, ck_yields_by_limit, rfl, rfl⟩
theorem fs_renewed_many (X : K.In h) (G : h.Ns mainGlobals mg) (c : He.SaysD fa fn K) : FnS K mg Pt nm 50 := by
  obtain ⟨fd, F⟩ := c.def_ 24 (d := dd "renewed_many" 38) rfl
  exact ⟨_, fd, ["plot", "ages", "limit", "years"], ["plot", "ages", "limit", "years", "found", "year", "one"], _, _, _, _, _, ir_renewed_many, rfl, He.glo_ok X G (c.fact 24 (f := .glo "renewed_many") rfl), F.bindsN (ps := ["plot", "ages", "limit", "years"]) (fun _ _ _ _ _ _ us hl => match us, hl with | [_, _, _, _], _ => rfl), F, sc_renewed_many, ck_renewed_many, rfl, rfl⟩
theorem fs_mean_yield (X : K.In h) (G : h.Ns mainGlobals mg) (c : He.SaysD fa fn K) : FnS K mg Pt nm 51 := by
  obtain ⟨fd, F⟩ := c.def_ 25 (d := dd "mean_yield" 39) rfl
  exact ⟨_, fd, ["curve", "limit"], ["curve", "limit", "whole", "share", "age"], _, _, _, _, _, ir_mean_yield, rfl, He.glo_ok X G (c.fact 25 (f := .glo "mean_yield") rfl), F.bindsN (ps := ["curve", "limit"]) (fun _ _ _ _ _ _ us hl => match us, hl with | [_, _], _ => rfl), F, sc_mean_yield, ck_mean_yield, rfl, rfl⟩
theorem fs_best_limit (X : K.In h) (G : h.Ns mainGlobals mg) (c : He.SaysD fa fn K) : FnS K mg Pt nm 52 := by
  obtain ⟨fd, F⟩ := c.def_ 26 (d := dd "best_limit" 40) rfl
  exact ⟨_, fd, ["curve"], ["curve", "best", "most", "whole", "limit"], _, _, _, _, _, ir_best_limit, rfl, He.glo_ok X G (c.fact 26 (f := .glo "best_limit") rfl), F.bindsN (ps := ["curve"]) (fun _ _ _ _ _ _ us hl => match us, hl with | [_], _ => rfl), F, sc_best_limit, ck_best_limit, rfl, rfl⟩
theorem fs__law_roll (X : K.In h) (G : h.Ns mainGlobals mg) (c : He.SaysD fa fn K) : FnS K mg Pt nm 21 := by
  obtain ⟨fd, F⟩ := c.def_ 28 (d := dd "_law_roll" 43) rfl
  exact ⟨_, fd, ["cup", "many"], ["cup", "many", "deep", "found"], _, _, _, _, _, ir__law_roll, rfl, He.glo_ok X G (c.fact 28 (f := .glo "_law_roll") rfl), F.bindsN (ps := ["cup", "many"]) (fun _ _ _ _ _ _ us hl => match us, hl with | [_, _], _ => rfl), F, sc__law_roll, ck__law_roll, rfl, rfl⟩
theorem fs__law_some (X : K.In h) (G : h.Ns mainGlobals mg) (c : He.SaysD fa fn K) : FnS K mg Pt nm 22 := by
  obtain ⟨fd, F⟩ := c.def_ 29 (d := dd "_law_some" 44) rfl
  exact ⟨_, fd, ["cup", "things"], ["cup", "things"], _, _, _, _, _, ir__law_some, rfl, He.glo_ok X G (c.fact 29 (f := .glo "_law_some") rfl), F.bindsN (ps := ["cup", "things"]) (fun _ _ _ _ _ _ us hl => match us, hl with | [_, _], _ => rfl), F, sc__law_some, ck__law_some, rfl, rfl⟩
theorem fs__law_same (X : K.In h) (G : h.Ns mainGlobals mg) (c : He.SaysD fa fn K) : FnS K mg Pt nm 23 := by
  obtain ⟨fd, F⟩ := c.def_ 30 (d := dd "_law_same" 45) rfl
  exact ⟨_, fd, ["told", "due"], ["told", "due", "at"], _, _, _, _, _, ir__law_same, rfl, He.glo_ok X G (c.fact 30 (f := .glo "_law_same") rfl), F.bindsN (ps := ["told", "due"]) (fun _ _ _ _ _ _ us hl => match us, hl with | [_, _], _ => rfl), F, sc__law_same, ck__law_same, rfl, rfl⟩
theorem fs__law_plot (X : K.In h) (G : h.Ns mainGlobals mg) (c : He.SaysD fa fn K) : FnS K mg Pt nm 24 := by
  obtain ⟨fd, F⟩ := c.def_ 31 (d := dd "_law_plot" 46) rfl
  exact ⟨_, fd, ["cup", "most", "kinds"], ["cup", "most", "kinds", "high", "wide", "signs", "row", "column"], _, _, _, _, _, ir__law_plot, rfl, He.glo_ok X G (c.fact 31 (f := .glo "_law_plot") rfl), F.bindsN (ps := ["cup", "most", "kinds"]) (fun _ _ _ _ _ _ us hl => match us, hl with | [_, _, _], _ => rfl), F, sc__law_plot, ck__law_plot, rfl, rfl⟩
theorem fs__law_ages (X : K.In h) (G : h.Ns mainGlobals mg) (c : He.SaysD fa fn K) : FnS K mg Pt nm 27 := by
  obtain ⟨fd, F⟩ := c.def_ 32 (d := dd "_law_ages" 47) rfl
  exact ⟨_, fd, ["cup", "plot", "most"], ["cup", "plot", "most", "rows", "row", "sign"], _, _, _, _, _, ir__law_ages, rfl, He.glo_ok X G (c.fact 32 (f := .glo "_law_ages") rfl), F.bindsN (ps := ["cup", "plot", "most"]) (fun _ _ _ _ _ _ us hl => match us, hl with | [_, _, _], _ => rfl), F, sc__law_ages, ck__law_ages, rfl, rfl⟩
theorem fs__law_curve (X : K.In h) (G : h.Ns mainGlobals mg) (c : He.SaysD fa fn K) : FnS K mg Pt nm 28 := by
  obtain ⟨fd, F⟩ := c.def_ 33 (d := dd "_law_curve" 48) rfl
  exact ⟨_, fd, ["cup", "most"], ["cup", "most", "year"], _, _, _, _, _, ir__law_curve, rfl, He.glo_ok X G (c.fact 33 (f := .glo "_law_curve") rfl), F.bindsN (ps := ["cup", "most"]) (fun _ _ _ _ _ _ us hl => match us, hl with | [_, _], _ => rfl), F, sc__law_curve, ck__law_curve, rfl, rfl⟩
theorem fs__law_grown (X : K.In h) (G : h.Ns mainGlobals mg) (c : He.SaysD fa fn K) : FnS K mg Pt nm 41 := by
  obtain ⟨fd, F⟩ := c.def_ 34 (d := dd "_law_grown" 49) rfl
  exact ⟨_, fd, ["ages", "limit"], ["ages", "limit", "rows", "row", "line", "one"], _, _, _, _, _, ir__law_grown, rfl, He.glo_ok X G (c.fact 34 (f := .glo "_law_grown") rfl), F.bindsN (ps := ["ages", "limit"]) (fun _ _ _ _ _ _ us hl => match us, hl with | [_, _], _ => rfl), F, sc__law_grown, ck__law_grown, rfl, rfl⟩
theorem fs__law_yield (X : K.In h) (G : h.Ns mainGlobals mg) (c : He.SaysD fa fn K) : FnS K mg Pt nm 53 := by
  obtain ⟨fd, F⟩ := c.def_ 35 (d := dd "_law_yield" 50) rfl
  exact ⟨_, fd, ["ages", "curve"], ["ages", "curve", "found", "row", "one"], _, _, _, _, _, ir__law_yield, rfl, He.glo_ok X G (c.fact 35 (f := .glo "_law_yield") rfl), F.bindsN (ps := ["ages", "curve"]) (fun _ _ _ _ _ _ us hl => match us, hl with | [_, _], _ => rfl), F, sc__law_yield, ck__law_yield, rfl, rfl⟩
theorem fs__law_right (X : K.In h) (G : h.Ns mainGlobals mg) (c : He.SaysD fa fn K) : FnS K mg Pt nm 29 := by
  obtain ⟨fd, F⟩ := c.def_ 36 (d := dd "_law_right" 51) rfl
  exact ⟨_, fd, ["cup"], ["cup", "plot", "ages", "curve", "limit", "years", "free", "bound", "here", "there", "renewed", "year", "told", "wholes", "best", "whole", "share", "later", "row", "line", "own", "one", "other", "to"], _, _, _, _, _, ir__law_right, rfl, He.glo_ok X G (c.fact 36 (f := .glo "_law_right") rfl), F.bindsN (ps := ["cup"]) (fun _ _ _ _ _ _ us hl => match us, hl with | [_], _ => rfl), F, sc__law_right, ck__law_right, rfl, rfl⟩
theorem fs_all (X : K.In h) (G : h.Ns mainGlobals mg) (c : He.SaysD fa fn K) : ∀ n ∈ ids, FnS K mg Pt nm n := (List.forall_mem_cons.2 ⟨fs_is_whole X G c, (List.forall_mem_cons.2 ⟨fs_fits_whole X G c, (List.forall_mem_cons.2 ⟨fs_is_tuple_of X G c, (List.forall_mem_cons.2 ⟨fs_fits_row X G c, (List.forall_mem_cons.2 ⟨fs_fits_plot X G c, (List.forall_mem_cons.2 ⟨fs_need_plot X G c, (List.forall_mem_cons.2 ⟨fs_places_in X G c, (List.forall_mem_cons.2 ⟨fs_trees_in X G c, (List.forall_mem_cons.2 ⟨fs_fits_ages X G c, (List.forall_mem_cons.2 ⟨fs_need_ages X G c, (List.forall_mem_cons.2 ⟨fs_fits_curve X G c, (List.forall_mem_cons.2 ⟨fs_need_curve X G c, (List.forall_mem_cons.2 ⟨fs_need_age X G c, (List.forall_mem_cons.2 ⟨fs_need_years X G c, (List.forall_mem_cons.2 ⟨fs_ages_in X G c, (List.forall_mem_cons.2 ⟨fs_older_in X G c, (List.forall_mem_cons.2 ⟨fs_limited_in X G c, (List.forall_mem_cons.2 ⟨fs_pounds_in X G c, (List.forall_mem_cons.2 ⟨fs_yield_in X G c, (List.forall_mem_cons.2 ⟨fs_divisor X G c, (List.forall_mem_cons.2 ⟨fs_yield_of X G c, (List.forall_mem_cons.2 ⟨fs_yields_over X G c, (List.forall_mem_cons.2 ⟨fs_ages_by_limit X G c, (List.forall_mem_cons.2 ⟨fs_yields_by_limit X G c, (List.forall_mem_cons.2 ⟨fs_renewed_many X G c, (List.forall_mem_cons.2 ⟨fs_mean_yield X G c, (List.forall_mem_cons.2 ⟨fs_best_limit X G c, (List.forall_mem_cons.2 ⟨fs__law_roll X G c, (List.forall_mem_cons.2 ⟨fs__law_some X G c, (List.forall_mem_cons.2 ⟨fs__law_same X G c, (List.forall_mem_cons.2 ⟨fs__law_plot X G c, (List.forall_mem_cons.2 ⟨fs__law_ages X G c, (List.forall_mem_cons.2 ⟨fs__law_curve X G c, (List.forall_mem_cons.2 ⟨fs__law_grown X G c, (List.forall_mem_cons.2 ⟨fs__law_yield X G c, (List.forall_mem_cons.2 ⟨fs__law_right X G c, (by simp)⟩)⟩)⟩)⟩)⟩)⟩)⟩)⟩)⟩)⟩)⟩)⟩)⟩)⟩)⟩)⟩)⟩)⟩)⟩)⟩)⟩)⟩)⟩)⟩)⟩)⟩)⟩)⟩)⟩)⟩)⟩)⟩)⟩)⟩)⟩)⟩)
theorem bl_all (X : K.In h) (G : h.Ns mainGlobals mg) (c : He.SaysD fa fn K) : ∀ x ∈ bNames, mg x = none := (List.forall_mem_cons.2 ⟨He.free_ok X G (c.fact 38 (f := .free "len") rfl), (List.forall_mem_cons.2 ⟨He.free_ok X G (c.fact 39 (f := .free "abs") rfl), (List.forall_mem_cons.2 ⟨He.free_ok X G (c.fact 40 (f := .free "int") rfl), (List.forall_mem_cons.2 ⟨He.free_ok X G (c.fact 41 (f := .free "str") rfl), (List.forall_mem_cons.2 ⟨He.free_ok X G (c.fact 42 (f := .free "tuple") rfl), (List.forall_mem_cons.2 ⟨He.free_ok X G (c.fact 43 (f := .free "list") rfl), (List.forall_mem_cons.2 ⟨He.free_ok X G (c.fact 44 (f := .free "sum") rfl), (List.forall_mem_cons.2 ⟨He.free_ok X G (c.fact 45 (f := .free "max") rfl), (List.forall_mem_cons.2 ⟨He.free_ok X G (c.fact 46 (f := .free "min") rfl), (List.forall_mem_cons.2 ⟨He.free_ok X G (c.fact 47 (f := .free "all") rfl), (List.forall_mem_cons.2 ⟨He.free_ok X G (c.fact 48 (f := .free "any") rfl), (List.forall_mem_cons.2 ⟨He.free_ok X G (c.fact 49 (f := .free "sorted") rfl), (List.forall_mem_cons.2 ⟨He.free_ok X G (c.fact 50 (f := .free "isinstance") rfl), (List.forall_mem_cons.2 ⟨He.free_ok X G (c.fact 51 (f := .free "range") rfl), (List.forall_mem_cons.2 ⟨He.free_ok X G (c.fact 52 (f := .free "zip") rfl), (List.forall_mem_cons.2 ⟨He.free_ok X G (c.fact 53 (f := .free "enumerate") rfl), (List.forall_mem_cons.2 ⟨He.free_ok X G (c.fact 54 (f := .free "set") rfl), (List.forall_mem_cons.2 ⟨He.free_ok X G (c.fact 55 (f := .free "bool") rfl), (by simp)⟩)⟩)⟩)⟩)⟩)⟩)⟩)⟩)⟩)⟩)⟩)⟩)⟩)⟩)⟩)⟩)⟩)⟩)
theorem cs_all (X : K.In h) (G : h.Ns mainGlobals mg) (c : He.SaysD fa fn K) : ∀ n d, cst n = some d → ∃ v u, mg (nm.cs n) = some u ∧ RelV v u ∧ ∀ Ω H, Rp K Ω H v d := by
  intro n d e
  unfold cst at e
  by_cases h0 : n = 0
  · subst h0
    cases e
    obtain ⟨t, q⟩ := He.str_ok X G (c.fact 56 (f := .str "BARE" ".") rfl)
    exact ⟨.str (sS [46]), _, q, ⟨t, rfl⟩, fun _ _ => .str (okS_of (by decide))⟩
  rw [if_neg h0] at e
  by_cases h1 : n = 1
  · subst h1
    cases e
    obtain ⟨t, q⟩ := He.str_ok X G (c.fact 57 (f := .str "KINDS" "abcdefgh") rfl)
    exact ⟨.str (sS [97, 98, 99, 100, 101, 102, 103, 104]), _, q, ⟨t, rfl⟩, fun _ _ => .str (okS_of (by decide))⟩
  rw [if_neg h1] at e
  by_cases h2 : n = 2
  · subst h2
    cases e
    obtain ⟨t, q⟩ := He.int_ok X G (c.fact 58 (f := .int "SIDE" 12) rfl)
    exact ⟨.int 12, _, q, ⟨t, rfl⟩, fun _ _ => .int _⟩
  rw [if_neg h2] at e
  by_cases h3 : n = 3
  · subst h3
    cases e
    obtain ⟨t, q⟩ := He.int_ok X G (c.fact 59 (f := .int "OLD" 60) rfl)
    exact ⟨.int 60, _, q, ⟨t, rfl⟩, fun _ _ => .int _⟩
  rw [if_neg h3] at e
  by_cases h4 : n = 4
  · subst h4
    cases e
    obtain ⟨t, q⟩ := He.int_ok X G (c.fact 60 (f := .int "POUNDS" 99) rfl)
    exact ⟨.int 99, _, q, ⟨t, rfl⟩, fun _ _ => .int _⟩
  rw [if_neg h4] at e
  by_cases h5 : n = 5
  · subst h5
    cases e
    obtain ⟨t, q⟩ := He.int_ok X G (c.fact 61 (f := .int "YEARS" 200) rfl)
    exact ⟨.int 200, _, q, ⟨t, rfl⟩, fun _ _ => .int _⟩
  rw [if_neg h5] at e
  cases e
end
/-! ### the end -/
def depth : Nat := 24
/-- what is left: the law's body answers True, whatever the cup -/
def LawOk : Prop := (∀ cell : Int, 0 ≤ cell → ∃ x y, CupV x y ∧ ∀ s, evE ⟨calls Pt cst depth, cst⟩ ir_cup [none, some (.val (.int cell))] s = .ok (.lst [.int x, .int y]) s) ∧
  ∀ x y, CupV x y → ∃ s', evCs ⟨calls Pt cst (depth + 1), cst⟩ ir_law (cupEnv 8) ⟨some (x, y)⟩ = .ok (.rt (.bl true)) s'
theorem facts (ok : LawOk) {P : Program} {w : World} {K : PySem.W.Frag} {h : Heap} {mg : Str → Option Value} {f : Addr} (X : K.In h) (G : h.Ns mainGlobals mg) (hfa : mg ("law" : Str) = some (.ref f)) (c : He.SaysD fa fn K) :
    ∃ fd : FuncData, (∀ (s : Shared) (v : Value), BindsTo s fd ⟨[v], []⟩ [("script", v)]) ∧ ∀ base : Heap, K.In base → base.Ns mainGlobals mg → FnOk P w K mg base (L2.CX P w) (depth + 2) f fd ["script"] (spLaw K) := by
  have g := fun base => alls_ok (P := P) (w := w) (base := base) (cl := fun _ => .none) (bl_all X G c) (fun n hn => fs_all X G c n (of_decide_eq_true hn)) (cs_all X G c)
  obtain ⟨fdC, FC⟩ := c.def_ 27 (d := dd "_law_cup" 42) rfl
  obtain ⟨fd, F⟩ := c.def_ 37 (d := dd "law" 52) rfl
  have e := hfa.symm.trans (He.glo_ok X G (c.fact 37 (f := .glo "law") rfl))
  cases e
  have b := FunD.bindsA (ps := ["script"]) F fun _ _ _ _ _ _ us hl => match us, hl with | [_], _ => rfl
  have bC := FunD.bindsN (ps := ["script"]) FC fun _ _ _ _ _ _ us hl => match us, hl with | [_], _ => rfl
  refine ⟨fd, fun s v => b s [v] rfl, fun base _ _ => ?_⟩
  exact law_ok (st := (defBody (top 52)).headD (.Pass ⟨0, 0, 0, 0⟩)) (rest := (defBody (top 52)).tail) F sc_law (g base (depth + 1)) rfl (by decide) ck_law1 ck_law2
    (cup_ok (st := (defBody (top 42)).headD (.Pass ⟨0, 0, 0, 0⟩)) (rest := (defBody (top 42)).tail) FC sc_cup (g base depth) rfl rfl ck_cup1 ck_cup2 ok.1) (He.glo_ok X G (c.fact 27 (f := .glo "_law_cup") rfl)) FC.kp bC ok.2
end QL
open PySem PySem.W PySem.Calls PyProof.Rows
theorem QL.holds_of (ok : QL.LawOk) : PySem.Challenge.rw_orchardrows_k52_whole_yields.Holds := by
  w_on; o_law
  refine HandSHeadRun.head_any (r := OpenLaw.row PySem.Challenge.rw_orchardrows_k52_whole_yields) (q := view (OpenLaw.row PySem.Challenge.rw_orchardrows_k52_whole_yields).prog [52]) (H := QL.hk) (ob := QL.ob) (M := 6000) (loose := QL.loose0 ++ QL.loose1 ++ QL.loose2) (d := HandSHeadRun.topDef (OpenLaw.row PySem.Challenge.rw_orchardrows_k52_whole_yields).prog 52) (kwd := []) QL.ob_eq
    (by kernel_rfl) (fun s => by kernel_rfl) QL.run (by kernel_rfl) (by kernel_rfl) (by kernel_rfl) (by rfl) (by first | assumption | decide +kernel) (by decide +kernel) ⟨rfl, rfl, rfl, rfl, rfl, by decide +kernel⟩ ?hw ?hc
  case hw => w_witness2
  case hc =>
    refine L2.walk_ofE (l := PySem.Challenge.rw_orchardrows_k52_whole_yields) (n := (PySem.Challenge.rw_orchardrows_k52_whole_yields).most.getD 0) (k := 26) (x := "script") (CX := fun _ _ _ _ _ _ => False) rfl (by decide) (by kernel_rfl) ⟨rfl, by decide, by decide⟩ ?F ?G
    case G => exact fun _ _ _ _ z => z
    intro w mg fa h Y G hmg0
    obtain ⟨K, KX, c⟩ := Y
    have hmg : mg ("law" : PySem.Str) = some (.ref fa) := by
      have e : (HandSHeadRun.topDef (OpenLaw.row PySem.Challenge.rw_orchardrows_k52_whole_yields).prog 52).name = ("law" : PySem.Str) := by kernel_rfl
      rw [← e]
      exact hmg0
    obtain ⟨fd, hb, hF⟩ := QL.facts ok (P := (PySem.Challenge.rw_orchardrows_k52_whole_yields).prog) (w := w) KX G hmg c
    exact ⟨K, fd, PL.spLaw K, KX, hb, fun H a ns hl _ hS => ⟨a, ns, rfl, hS, Nat.le_trans hl (by decide), fun _ => rfl⟩, fun base a b => PL.FnOk.cx0 (hF base a b) fun _ _ _ _ q => q⟩
end

section
set_option Elab.async false
set_option linter.all false
set_option maxRecDepth 100000
set_option maxHeartbeats 1000000
namespace QL
open PL
/-! ### data -/
abbrev Plot := List (List Nat)
abbrev Ages := List (List Nat)
abbrev nI : Nat → D := fun x => .int (x : Int)
abbrev encP (p : Plot) : D := .tup (p.map .str)
abbrev encR (r : List Nat) : D := .tup (r.map nI)
abbrev encA (a : Ages) : D := .tup (a.map encR)
abbrev encQ (q : Nat × Nat) : D := .tup [.int (q.1 : Int), .int (q.2 : Int)]
def KINDS : List Nat := [97, 98, 99, 100, 101, 102, 103, 104]
structure GP (p : Plot) (w : Nat) : Prop where
  h1 : 1 ≤ p.length
  h2 : p.length ≤ 12
  w1 : 1 ≤ w
  w2 : w ≤ 12
  row : ∀ r ∈ p, r.length = w
  sg : ∀ r ∈ p, ∀ c ∈ r, c = 46 ∨ c ∈ KINDS
def gP (p : Plot) (i j : Nat) : Nat := nth (nth p i []) j 0
def gA (a : Ages) (i j : Nat) : Nat := nth (nth a i []) j 0
structure GS (p : Plot) (w : Nat) (a : Ages) : Prop where
  gp : GP p w
  len : a.length = p.length
  row : ∀ r ∈ a, r.length = w
  iff : ∀ i j, i < p.length → j < w → (gP p i j = 46 ↔ gA a i j = 0)
structure GA (p : Plot) (w : Nat) (a : Ages) : Prop extends GS p w a where
  hi : ∀ r ∈ a, ∀ x ∈ r, x ≤ 60
/-! ### plots -/
theorem e_is_whole {n : Nat} (h : 1 ≤ n) (i : Int) : calls Pt cst n 0 [.int i] = ret (.bl true) := by
  obtain ⟨m, rfl, _⟩ := depth_of h
  rw [calls_succ _ _ _ _ pt_is_whole]
  simp [runF, ir_is_whole, startE, isiD, tyOf]
theorem e_fits_whole {n : Nat} (h : 2 ≤ n) (i lo hi : Int) : calls Pt cst n 1 [.int i, .int lo, .int hi] = ret (.bl (decide (lo ≤ i) && decide (i ≤ hi))) := by
  obtain ⟨m, rfl, hm⟩ := depth_of h
  rw [calls_succ _ _ _ _ pt_fits_whole]
  simp [runF, ir_fits_whole, startE, e_is_whole hm, copD, leD]
  by_cases c : lo ≤ i <;> simp [c]
theorem e_is_tuple_of {n : Nat} (h : 1 ≤ n) (xs : List D) (lo hi : Int) : calls Pt cst n 2 [.tup xs, .int lo, .int hi] = ret (.bl (decide (lo ≤ xs.length) && decide ((xs.length : Int) ≤ hi))) := by
  obtain ⟨m, rfl, hm⟩ := depth_of h
  rw [calls_succ _ _ _ _ pt_is_tuple_of]
  simp [runF, ir_is_tuple_of, startE, copD, leD, isiD, tyOf, bifD, bif1, lenD]
  by_cases c : lo ≤ xs.length <;> simp [c]
theorem e_fits_row {n : Nat} (h : 1 ≤ n) {l : List Nat} (h1 : 1 ≤ l.length) (h2 : l.length ≤ 12) (hs : ∀ c ∈ l, c = 46 ∨ c ∈ KINDS) : calls Pt cst n 3 [.str l] = ret (.bl true) := by
  obtain ⟨m, rfl, hm⟩ := depth_of h
  rw [calls_succ _ _ _ _ pt_fits_row]
  have e1 : (1 : Int) ≤ l.length := by omega
  have e2 : (l.length : Int) ≤ 12 := by omega
  have e3 : ∀ c : Nat, inD (.str [c]) (.str [97, 98, 99, 100, 101, 102, 103, 104]) = some (decide (c ∈ KINDS)) := fun c => rfl
  simp [runF, ir_fits_row, startE, cs_SIDE, cs_BARE, cs_KINDS, copD, leD, isiD, tyOf, bifD, bif1, lenD, itemsD, wipeE, e1, e2]
  rw [catM_map _ _ (fun c => .bl (c == 46 || decide (c ∈ KINDS))) l]
  · simp [blsD, allBl_map, e2]
    simpa using hs
  · intro c hc
    simp [e3]
    by_cases e : c = 46 <;> simp [e]
theorem e_fits_plot {n : Nat} (h : 2 ≤ n) {p : Plot} {w : Nat} (g : GP p w) : calls Pt cst n 4 [encP p] = ret (.bl true) := by
  obtain ⟨m, rfl, hm⟩ := depth_of h
  rw [calls_succ _ _ _ _ pt_fits_plot]
  have a1 : (1 : Int) ≤ p.length := by have := g.h1; omega
  have a2 : (p.length : Int) ≤ 12 := by have := g.h2; omega
  have a3 : 0 < p.length := g.h1
  have a4 : ∀ r ∈ p, 1 ≤ r.length ∧ r.length ≤ 12 := fun r hr => by rw [g.row r hr]; exact ⟨g.w1, g.w2⟩
  simp [runF, ir_fits_plot, startE, cs_SIDE, copD, bifD, bif1, lenD, itemsD, wipeE, e_is_tuple_of hm, a1, a2]
  rw [catM_map _ _ (fun c => .bl true) p fun r hr => by simp [e_fits_row hm (a4 r hr).1 (a4 r hr).2 (g.sg r hr)]]
  simp [blsD, allBl_map, wipeE]
  rw [catM_map _ _ (fun c => .bl true) p fun r hr => by
    simp [idxD, atI_map0 D.str [] a3, lenD, g.row r hr, g.row _ (nth_mem a3)]]
  simp [blsD, allBl_map]
theorem e_need_plot {n : Nat} (h : 3 ≤ n) {p : Plot} {w : Nat} (g : GP p w) : calls Pt cst n 5 [encP p] = ret .non := by
  obtain ⟨m, rfl, hm⟩ := depth_of h
  rw [calls_succ _ _ _ _ pt_need_plot]
  simp [runF, ir_need_plot, startE, e_fits_plot hm g]
def places (h w : Nat) : List (Nat × Nat) := (List.range h).flatMap fun i => (List.range w).map fun j => (i, j)
theorem places_mem {h w : Nat} {q : Nat × Nat} : q ∈ places h w ↔ q.1 < h ∧ q.2 < w := by
  unfold places
  simp only [List.mem_flatMap, List.mem_range, List.mem_map]
  constructor
  · rintro ⟨i, hi, j, hj, rfl⟩; exact ⟨hi, hj⟩
  · rintro ⟨h1, h2⟩; exact ⟨q.1, h1, q.2, h2, rfl⟩
theorem places_len (h w : Nat) : (places h w).length = h * w := by
  unfold places
  rw [List.length_flatMap]
  have e : ∀ l : List Nat, (l.map fun _ => w).sum = l.length * w := by
    intro l
    induction l with
    | nil => simp
    | cons a l ih => rw [List.map_cons, List.sum_cons, ih, List.length_cons, Nat.add_mul]; omega
  have := e (List.range h)
  rw [List.length_range] at this
  rw [← this]
  congr 1
  exact List.map_congr_left fun i _ => by simp
theorem e_places_in {n : Nat} (h : 1 ≤ n) {p : Plot} {w : Nat} (g : GP p w) : calls Pt cst n 8 [encP p] = ret (.lst ((places p.length w).map encQ)) := by
  obtain ⟨m, rfl, hm⟩ := depth_of h
  rw [calls_succ _ _ _ _ pt_places_in]
  have a1 := g.h2
  have a2 := g.w2
  have a3 : 0 < p.length := g.h1
  simp [runF, ir_places_in, startE, bifD, bif1, lenD, wipeE, rng1_nat (show p.length ≤ 100000 by omega)]
  rw [catM_flat _ _ (fun i => (List.range w).map fun j => encQ (i, j))]
  · have e : (List.range p.length).flatMap (fun i => (List.range w).map fun j => encQ (i, j)) = (places p.length w).map encQ := by
      unfold places
      rw [List.map_flatMap]
      simp [Function.comp_def]
    rw [e]
    have hl : ((places p.length w).map encQ).length ≤ 100000 := by
      rw [List.length_map, places_len]
      have : p.length * w ≤ 12 * 12 := Nat.mul_le_mul a1 a2
      omega
    simp [capL_ok hl]
  · intro i hi
    simp [idxD, atI_map0 D.str [] a3, lenD, g.row _ (nth_mem a3), rng1_nat (show w ≤ 100000 by omega), wipeE]
    rw [catM_map _ _ (fun (j : Nat) => encQ (i, j))]
    · simp
    · intro j hj
      simp
def trees (p : Plot) (w : Nat) : List (Nat × Nat) := (places p.length w).filter fun q => !(gP p q.1 q.2 == 46)
theorem e_trees_in {n : Nat} (h : 2 ≤ n) {p : Plot} {w : Nat} (g : GP p w) : calls Pt cst n 31 [encP p] = ret (.lst ((trees p w).map encQ)) := by
  obtain ⟨m, rfl, hm⟩ := depth_of h
  rw [calls_succ _ _ _ _ pt_trees_in]
  simp [runF, ir_trees_in, startE, itemsD, e_places_in hm g, wipeE]
  rw [catM_filter _ encQ encQ (fun q => !(gP p q.1 q.2 == 46))]
  · rfl
  · intro q hq
    obtain ⟨h1, h2⟩ := places_mem.mp hq
    have h3 : q.2 < (nth p q.1 []).length := by rw [g.row _ (nth_mem h1)]; exact h2
    simp [setAll, idxD, atI_map D.str [] h1, atI_nth 0 h3, cs_BARE, copD, gP]
    by_cases e : nth (nth p q.1 []) q.2 0 = 46 <;> simp [e]
/-! ### ages -/
theorem e_fits_ages {n : Nat} (h : 3 ≤ n) {p : Plot} {w : Nat} {a : Ages} (g : GA p w a) : calls Pt cst n 9 [encP p, encA a] = ret (.bl true) := by
  obtain ⟨m, rfl, hm⟩ := depth_of h
  rw [calls_succ _ _ _ _ pt_fits_ages]
  have gp := g.gp
  have a1 := gp.h2
  have a2 := gp.w2
  have a3 : 0 < p.length := gp.h1
  have a4 : ∀ r ∈ a, (r.length : Int) = w := fun r hr => by rw [g.row r hr]
  have b1 : 1 ≤ m := by omega
  have b2 : 2 ≤ m := by omega
  simp [runF, ir_fits_ages, startE, bifD, bif1, lenD, wipeE, idxD, atI_map0 D.str [] a3, gp.row _ (nth_mem a3), setPar, e_is_tuple_of b1, g.len, itemsD]
  rw [catM_map _ _ (fun c => .bl true) a fun r hr => by simp [e_is_tuple_of b1, g.row r hr]]
  simp [blsD, allBl_map, itemsD, wipeE]
  rw [catM_flat _ encR (fun r => r.map fun _ => .bl true) a fun r hr => by
    simp [itemsD, wipeE]
    rw [catM_map _ _ (fun c => .bl true) r fun x hx => by
      have x1 : (0 : Int) ≤ x := by omega
      have x2 : (x : Int) ≤ 60 := by have := g.hi r hr x hx; omega
      simp [cs_OLD, e_fits_whole b2, x1, x2]]
    rfl]
  have e1 : (a.flatMap fun r => r.map fun _ => D.bl true) = a.flatten.map fun _ => D.bl true := by
    rw [List.flatMap_def, List.map_flatten]
  have e2 : (a.flatten.map fun _ => D.bl true).length ≤ 100000 := by
    rw [List.length_map, List.length_flatten]
    have : ∀ l : Ages, (∀ r ∈ l, r.length = w) → (l.map List.length).sum = l.length * w := by
      intro l
      induction l with
      | nil => simp
      | cons r l ih => intro hl; rw [List.map_cons, List.sum_cons, ih fun r hr => hl r (List.mem_cons_of_mem _ hr), hl r List.mem_cons_self, List.length_cons, Nat.add_mul]; omega
    rw [this a g.row, g.len]
    have : p.length * w ≤ 12 * 12 := Nat.mul_le_mul a1 a2
    omega
  rw [e1]
  simp only [bnd_ret]
  rw [capL_ok e2]
  generalize a.flatten = L
  simp [blsD, allBl_map, e_places_in b1 gp, itemsD, wipeE]
  rw [catM_map _ encQ (fun c => .bl true) (places p.length w) fun q hq => by
    obtain ⟨h1, h2⟩ := places_mem.mp hq
    have h3 : q.2 < (nth p q.1 []).length := by rw [gp.row _ (nth_mem h1)]; exact h2
    have h4 : q.1 < a.length := by rw [g.len]; exact h1
    have h5 : q.2 < (nth a q.1 []).length := by rw [g.row _ (nth_mem h4)]; exact h2
    have iff := g.iff q.1 q.2 h1 h2
    simp [setAll, idxD, atI_map D.str [] h1, atI_nth 0 h3, cs_BARE, copD, atI_map encR [] h4, atI_map nI 0 h5]
    unfold gP gA at iff
    by_cases e : nth (nth p q.1 []) q.2 0 = 46
    · simp [e, iff.mp e]
    · have e2 : ¬ ((nth (nth a q.1 []) q.2 0 : Nat) : Int) = 0 := fun z => e (iff.mpr (by omega))
      rw [beq_eq_false_iff_ne.mpr e, beq_eq_false_iff_ne.mpr e2]]
  simp [blsD, allBl_map]
theorem e_need_ages {n : Nat} (h : 4 ≤ n) {p : Plot} {w : Nat} {a : Ages} (g : GA p w a) : calls Pt cst n 10 [encP p, encA a] = ret .non := by
  obtain ⟨m, rfl, hm⟩ := depth_of h
  rw [calls_succ _ _ _ _ pt_need_ages]
  simp [runF, ir_need_ages, startE, e_need_plot hm g.gp, e_fits_ages hm g]
/-- the ages of the trees -/
def live (a : Ages) : List Nat := a.flatten.filter fun x => !(x == 0)
theorem cells {w : Nat} : ∀ {a : Ages}, (∀ r ∈ a, r.length = w) → (places a.length w).map (fun q => gA a q.1 q.2) = a.flatten
  | [], _ => rfl
  | r :: a, h => by
    have e1 : r.length = w := h r List.mem_cons_self
    have ih := cells (a := a) fun r hr => h r (List.mem_cons_of_mem _ hr)
    unfold places at ih ⊢
    rw [List.map_flatMap] at ih ⊢
    rw [List.length_cons, List.range_succ_eq_map, List.flatMap_cons, List.flatMap_map, List.flatten_cons]
    have e2 : List.map (fun q => gA (r :: a) q.1 q.2) (List.map (fun j => (0, j)) (List.range w)) = r := by
      rw [List.map_map]
      refine List.ext_getElem (by simp [e1]) fun j h1 h2 => ?_
      simp [gA, nth]
      rw [List.getElem?_eq_getElem h2]; rfl
    rw [e2]
    congr 1
    rw [← ih]
    refine congrArg (List.flatMap · (List.range a.length)) (funext fun i => ?_)
    rw [List.map_map, List.map_map]
    rfl
theorem filter_map' {α β : Type} (f : α → β) (p : β → Bool) (q : α → Bool) : ∀ l : List α, (∀ a ∈ l, p (f a) = q a) → (l.filter q).map f = (l.map f).filter p
  | [], _ => rfl
  | a :: l, h => by
    have ih := filter_map' f p q l fun b hb => h b (List.mem_cons_of_mem _ hb)
    have e := h a List.mem_cons_self
    rw [List.map_cons, List.filter_cons, List.filter_cons, e]
    by_cases c : q a = true
    · rw [if_pos c, if_pos c, List.map_cons, ih]
    · rw [if_neg c, if_neg c, ih]
theorem trees_ages {p : Plot} {w : Nat} {a : Ages} (g : GS p w a) : (trees p w).map (fun q => gA a q.1 q.2) = live a := by
  unfold trees live
  have key := filter_map' (fun q : Nat × Nat => gA a q.1 q.2) (fun x => !(x == 0)) (fun q => !(gP p q.1 q.2 == 46)) (places p.length w)
  rw [← g.len, cells g.row, g.len] at key
  refine key ?_
  intro q hq
  obtain ⟨h1, h2⟩ := places_mem.mp hq
  have iff := g.iff q.1 q.2 h1 h2
  by_cases e : gP p q.1 q.2 = 46
  · simp [e, iff.mp e]
  · have e2 : ¬ gA a q.1 q.2 = 0 := fun z => e (iff.mpr z)
    rw [beq_eq_false_iff_ne.mpr e, beq_eq_false_iff_ne.mpr e2]
theorem e_ages_in {n : Nat} (h : 3 ≤ n) {p : Plot} {w : Nat} {a : Ages} (g : GS p w a) : calls Pt cst n 33 [encP p, encA a] = ret (.lst ((live a).map nI)) := by
  obtain ⟨m, rfl, hm⟩ := depth_of h
  rw [calls_succ _ _ _ _ pt_ages_in]
  simp [runF, ir_ages_in, startE, itemsD, e_trees_in hm g.gp, wipeE]
  rw [catM_map _ encQ (fun q => nI (gA a q.1 q.2)) (trees p w) fun q hq => by
    obtain ⟨h1, h2⟩ := places_mem.mp (List.mem_filter.mp hq).1
    have h4 : q.1 < a.length := by rw [g.len]; exact h1
    have h5 : q.2 < (nth a q.1 []).length := by rw [g.row _ (nth_mem h4)]; exact h2
    simp [setAll, idxD, atI_map encR [] h4, atI_map nI 0 h5, gA]]
  have : (trees p w).map (fun q => nI (gA a q.1 q.2)) = (live a).map nI := by
    rw [← trees_ages g, List.map_map]; rfl
  rw [this]
  simp
end QL
end

section
set_option Elab.async false
set_option linter.all false
set_option maxRecDepth 100000
set_option maxHeartbeats 1000000
namespace QL
open PL
abbrev Curve := List Nat
abbrev encC (c : Curve) : D := .tup (c.map nI)
structure GC (c : Curve) : Prop where
  h1 : 1 ≤ c.length
  h2 : c.length ≤ 60
  hi : ∀ x ∈ c, x ≤ 99
theorem e_fits_curve {n : Nat} (h : 3 ≤ n) {c : Curve} (g : GC c) : calls Pt cst n 11 [encC c] = ret (.bl true) := by
  obtain ⟨m, rfl, hm⟩ := depth_of h
  rw [calls_succ _ _ _ _ pt_fits_curve]
  have b1 : 1 ≤ m := by omega
  have a1 : (1 : Int) ≤ c.length := by have := g.h1; omega
  have a2 : (c.length : Int) ≤ 60 := by have := g.h2; omega
  simp [runF, ir_fits_curve, startE, cs_OLD, cs_POUNDS, e_is_tuple_of b1, itemsD, wipeE, a1, a2]
  rw [catM_map _ _ (fun c => .bl true) c fun x hx => by
    have x1 : (0 : Int) ≤ x := by omega
    have x2 : (x : Int) ≤ 99 := by have := g.hi x hx; omega
    simp [e_fits_whole hm, x1, x2]]
  simp [bifD, bif1, blsD, allBl_map]
theorem e_need_curve {n : Nat} (h : 4 ≤ n) {c : Curve} (g : GC c) : calls Pt cst n 42 [encC c] = ret .non := by
  obtain ⟨m, rfl, hm⟩ := depth_of h
  rw [calls_succ _ _ _ _ pt_need_curve]
  simp [runF, ir_need_curve, startE, e_fits_curve hm g]
theorem e_need_age {n : Nat} (h : 3 ≤ n) {x : Nat} (h1 : 1 ≤ x) (h2 : x ≤ 60) : calls Pt cst n 12 [nI x] = ret .non := by
  obtain ⟨m, rfl, hm⟩ := depth_of h
  rw [calls_succ _ _ _ _ pt_need_age]
  have x1 : (1 : Int) ≤ x := by omega
  have x2 : (x : Int) ≤ 60 := by omega
  simp [runF, ir_need_age, startE, e_fits_whole hm, cs_OLD, x1, x2]
theorem e_need_years {n : Nat} (h : 3 ≤ n) {x : Nat} (h2 : x ≤ 200) : calls Pt cst n 32 [nI x] = ret .non := by
  obtain ⟨m, rfl, hm⟩ := depth_of h
  rw [calls_succ _ _ _ _ pt_need_years]
  have x1 : (0 : Int) ≤ x := by omega
  have x2 : (x : Int) ≤ 200 := by omega
  simp [runF, ir_need_years, startE, e_fits_whole hm, cs_YEARS, x1, x2]
def mapA (f : Nat → Nat) (a : Ages) : Ages := a.map fun r => r.map f
def older1 (y x : Nat) : Nat := if 0 < x then x + y else 0
def lim1 (l x : Nat) : Nat := if x = 0 then 0 else if l ≤ x then 1 else x + 1
theorem e_older_in {n : Nat} (h : 1 ≤ n) (a : Ages) (y : Nat) : calls Pt cst n 34 [encA a, nI y] = ret (encA (mapA (older1 y) a)) := by
  obtain ⟨m, rfl, hm⟩ := depth_of h
  rw [calls_succ _ _ _ _ pt_older_in]
  simp [runF, ir_older_in, startE, itemsD, wipeE]
  rw [catM_map _ encR (fun r => encR (r.map (older1 y))) a fun r hr => by
    simp [itemsD, wipeE]
    rw [catM_map _ _ (fun x => nI (older1 y x)) r fun x hx => by
      by_cases c : 0 < x
      · simp [copD, ltD, c, bopD, addD, older1]
      · have : x = 0 := by omega
        subst this
        simp [copD, ltD, older1]]
    simp [bifD, bif1, tupleD, Function.comp_def]]
  simp [bifD, bif1, tupleD, mapA, Function.comp_def]
theorem e_limited_in {n : Nat} (h : 1 ≤ n) (a : Ages) (ha : a.length ≤ 1000) (l : Nat) : calls Pt cst n 43 [encA a, nI l] = ret (encA (mapA (lim1 l) a)) := by
  obtain ⟨m, rfl, hm⟩ := depth_of h
  rw [calls_succ _ _ _ _ pt_limited_in]
  simp [runF, ir_limited_in, startE, itemsD, wipeE, toOwn]
  refine bnd_for encR (fun pre ρ => ∃ x, ρ = [some (.val (encA a)), some (.val (nI l)), some (.own (pre.map fun r => encR (r.map (lim1 l)))), x, none]) a (by simp [itemsD]) ⟨none, rfl⟩ ?_ ?_
  · rintro pre r post ρ hL ⟨x, rfl⟩
    refine ⟨[some (.val (encA a)), some (.val (nI l)), some (.own ((pre ++ [r]).map fun r => encR (r.map (lim1 l)))), some (.val (encR r)), none], ?_, _, rfl⟩
    have hp : pre.length < BIG := by
      have := congrArg List.length hL
      simp at this
      have : (1000 : Nat) < BIG := by decide
      omega
    simp [itemsD, wipeE]
    rw [catM_map _ _ (fun x => nI (lim1 l x)) r fun x hx => by
      by_cases c : x = 0
      · subst c; simp [copD, lim1]
      · by_cases c2 : l ≤ x
        · simp [copD, leD, lim1, c, c2]
        · simp [copD, leD, lim1, c, c2, bopD, addD]]
    simp [bifD, bif1, tupleD, appE, hp, Function.comp_def]
  · rintro ρ' ⟨x, rfl⟩
    simp [bifD, bif1, tupleD, mapA, Function.comp_def]
def pnd (c : Curve) (x : Nat) : Nat := if x ≤ c.length then nth c (x - 1) 0 else 0
theorem e_pounds_in {n : Nat} (h : 1 ≤ n) (c : Curve) {x : Nat} (hx : 1 ≤ x) : calls Pt cst n 44 [encC c, nI x] = ret (nI (pnd c x)) := by
  obtain ⟨m, rfl, hm⟩ := depth_of h
  rw [calls_succ _ _ _ _ pt_pounds_in]
  by_cases e : x ≤ c.length
  · have e2 : (x : Int) - 1 = ((x - 1 : Nat) : Int) := by omega
    simp [runF, ir_pounds_in, startE, bifD, bif1, lenD, copD, leD, e, bopD, subD, e2, idxD, atI_map nI 0 (show x - 1 < c.length by omega), pnd]
  · simp [runF, ir_pounds_in, startE, bifD, bif1, lenD, copD, leD, e, pnd]
def yld (c : Curve) (a : Ages) : Nat := ((live a).map (pnd c)).sum
theorem sum_nI {α : Type} (f : α → Nat) : ∀ l : List α, (l.map fun a => ((f a : Nat) : Int)).sum = (((l.map f).sum : Nat) : Int)
  | [] => rfl
  | a :: l => by rw [List.map_cons, List.sum_cons, List.map_cons, List.sum_cons, sum_nI f l]; omega
theorem allInt_nI {α : Type} (f : α → Nat) (l : List α) : allInt (l.map fun a => nI (f a)) = some (l.map fun a => ((f a : Nat) : Int)) := allInt_map (fun a => ((f a : Nat) : Int)) l
theorem live_pos {a : Ages} {x : Nat} (h : x ∈ live a) : 1 ≤ x := by
  unfold live at h
  have := (List.mem_filter.mp h).2
  simp at this
  omega
theorem e_yield_in {n : Nat} (h : 4 ≤ n) {p : Plot} {w : Nat} {a : Ages} (g : GS p w a) (c : Curve) : calls Pt cst n 45 [encP p, encA a, encC c] = ret (nI (yld c a)) := by
  obtain ⟨m, rfl, hm⟩ := depth_of h
  rw [calls_succ _ _ _ _ pt_yield_in]
  have b1 : 1 ≤ m := by omega
  simp [runF, ir_yield_in, startE, e_ages_in hm g, itemsD, wipeE]
  rw [catM_map _ _ (fun x => nI (pnd c x)) (live a) fun x hx => by simp [e_pounds_in b1 c (live_pos hx)]]
  simp [bifD, bif1, intsD, allInt_nI, yld, sum_nI]
/-! ### shapes are kept -/
theorem mapA_gA (f : Nat → Nat) (h0 : f 0 = 0) (a : Ages) (i j : Nat) : gA (mapA f a) i j = f (gA a i j) := by
  unfold gA mapA nth
  simp only [List.getD_eq_getElem?_getD, List.getElem?_map]
  cases e : a[i]? with
  | none => simp [h0]
  | some r =>
    simp only [Option.map_some, Option.getD_some, List.getElem?_map]
    cases e2 : r[j]? with
    | none => simp [h0]
    | some x => simp
theorem GS.map {p : Plot} {w : Nat} {a : Ages} (g : GS p w a) {f : Nat → Nat} (hf : ∀ x, f x = 0 ↔ x = 0) : GS p w (mapA f a) where
  gp := g.gp
  len := by unfold mapA; rw [List.length_map]; exact g.len
  row := fun r hr => by
    unfold mapA at hr
    obtain ⟨q, h1, rfl⟩ := List.mem_map.mp hr
    rw [List.length_map]; exact g.row q h1
  iff := fun i j h1 h2 => by rw [mapA_gA f ((hf 0).mpr rfl), hf]; exact g.iff i j h1 h2
theorem older_zero (y x : Nat) : older1 y x = 0 ↔ x = 0 := by
  unfold older1
  by_cases c : 0 < x
  · rw [if_pos c]; omega
  · rw [if_neg c]; omega
theorem lim_zero (l x : Nat) : lim1 l x = 0 ↔ x = 0 := by
  unfold lim1
  by_cases c : x = 0
  · simp [c]
  · by_cases c2 : l ≤ x <;> simp [c, c2]
def iter {α : Type} (f : α → α) : Nat → α → α
  | 0, x => x
  | n + 1, x => f (iter f n x)
theorem GS.iter {p : Plot} {w : Nat} {f : Ages → Ages} (hf : ∀ a, GS p w a → GS p w (f a)) : ∀ (n : Nat) {a : Ages}, GS p w a → GS p w (iter f n a)
  | 0, _, g => g
  | n + 1, _, g => hf _ (GS.iter hf n g)
def limA (l : Nat) (a : Ages) : Ages := mapA (lim1 l) a
theorem GS.lim {p : Plot} {w l : Nat} {a : Ages} (g : GS p w a) : GS p w (limA l a) := g.map (lim_zero l)
theorem GS.alen {p : Plot} {w : Nat} {a : Ages} (g : GS p w a) : a.length ≤ 1000 := by rw [g.len]; have := g.gp.h2; omega
/-! ### the program's answers -/
theorem e_yield_of {n : Nat} (h : 6 ≤ n) {p : Plot} {w : Nat} {a : Ages} (g : GA p w a) {c : Curve} (gc : GC c) : calls Pt cst n 46 [encP p, encA a, encC c] = ret (nI (yld c a)) := by
  obtain ⟨m, rfl, hm⟩ := depth_of h
  rw [calls_succ _ _ _ _ pt_yield_of]
  simp [runF, ir_yield_of, startE, e_need_ages (show 4 ≤ m by omega) g, e_need_curve (show 4 ≤ m by omega) gc, e_yield_in (show 4 ≤ m by omega) g.toGS c]
theorem e_yields_over {n : Nat} (h : 6 ≤ n) {p : Plot} {w : Nat} {a : Ages} (g : GA p w a) {c : Curve} (gc : GC c) {y : Nat} (hy : y ≤ 200) :
    calls Pt cst n 47 [encP p, encA a, encC c, nI y] = ret (.tup ((List.range y).map fun t => nI (yld c (mapA (older1 t) a)))) := by
  obtain ⟨m, rfl, hm⟩ := depth_of h
  rw [calls_succ _ _ _ _ pt_yields_over]
  simp [runF, ir_yields_over, startE, e_need_ages (show 4 ≤ m by omega) g, e_need_curve (show 4 ≤ m by omega) gc, e_need_years (show 3 ≤ m by omega) hy, rng1_nat (show y ≤ 100000 by omega), wipeE]
  rw [catM_map _ _ (fun t => nI (yld c (mapA (older1 t) a))) (List.range y) fun t ht => by
    simp [e_older_in (show 1 ≤ m by omega), e_yield_in (show 4 ≤ m by omega) (g.toGS.map (older_zero t)) c]]
  simp [bifD, bif1, tupleD]
theorem len_pre {α : Type} {L pre post : List α} {x : α} (h : L = pre ++ x :: post) : pre.length < L.length := by rw [h]; simp
theorem range_at {y : Nat} {pre post : List Nat} {x : Nat} (h : List.range y = pre ++ x :: post) : x = pre.length ∧ pre = List.range pre.length := by
  have hl : pre.length < y := by have := len_pre h; simpa using this
  have e1 : (List.range y)[pre.length]? = some x := by rw [h]; simp
  rw [List.getElem?_range hl] at e1
  refine ⟨(Option.some.inj e1).symm, ?_⟩
  have e2 : (List.range y).take pre.length = pre := by rw [h]; simp
  rw [List.take_range] at e2
  rw [← e2]
  congr 1
  simp
theorem e_ages_by_limit {n : Nat} (h : 6 ≤ n) {p : Plot} {w : Nat} {a : Ages} (g : GA p w a) {l y : Nat} (hl : 1 ≤ l) (hl2 : l ≤ 60) (hy : y ≤ 200) :
    calls Pt cst n 48 [encP p, encA a, nI l, nI y] = ret (encA (iter (limA l) y a)) := by
  obtain ⟨m, rfl, hm⟩ := depth_of h
  rw [calls_succ _ _ _ _ pt_ages_by_limit]
  simp [runF, ir_ages_by_limit, startE, e_need_ages (show 4 ≤ m by omega) g, e_need_age (show 3 ≤ m by omega) hl hl2, e_need_years (show 3 ≤ m by omega) hy]
  refine bnd_for nI (fun pre ρ => ∃ x, ρ = [some (.val (encP p)), some (.val (encA (iter (limA l) pre.length a))), some (.val (nI l)), some (.val (nI y)), x]) (List.range y) (by simp [rng1_nat (show y ≤ 100000 by omega)]) ⟨none, rfl⟩ ?_ ?_
  · rintro pre t post ρ hL ⟨x, rfl⟩
    have gs := GS.iter (f := limA l) (fun a g => g.lim) pre.length g.toGS
    refine ⟨[some (.val (encP p)), some (.val (encA (iter (limA l) (pre ++ [t]).length a))), some (.val (nI l)), some (.val (nI y)), some (.val (nI t))], ?_, _, rfl⟩
    simp [e_limited_in (show 1 ≤ m by omega) _ gs.alen, iter, limA]
  · rintro ρ' ⟨x, rfl⟩
    simp
theorem e_yields_by_limit {n : Nat} (h : 6 ≤ n) {p : Plot} {w : Nat} {a : Ages} (g : GA p w a) {c : Curve} (gc : GC c) {l y : Nat} (hl : 1 ≤ l) (hl2 : l ≤ 60) (hy : y ≤ 200) :
    calls Pt cst n 49 [encP p, encA a, encC c, nI l, nI y] = ret (.tup ((List.range y).map fun t => nI (yld c (iter (limA l) t a)))) := by
  obtain ⟨m, rfl, hm⟩ := depth_of h
  rw [calls_succ _ _ _ _ pt_yields_by_limit]
  simp [runF, ir_yields_by_limit, startE, e_need_ages (show 4 ≤ m by omega) g, e_need_curve (show 4 ≤ m by omega) gc, e_need_age (show 3 ≤ m by omega) hl hl2, e_need_years (show 3 ≤ m by omega) hy, toOwn]
  refine bnd_for nI (fun pre ρ => ∃ x, ρ = [some (.val (encP p)), some (.val (encA (iter (limA l) pre.length a))), some (.val (encC c)), some (.val (nI l)), some (.val (nI y)), some (.own (pre.map fun t => nI (yld c (iter (limA l) t a)))), x]) (List.range y) (by simp [rng1_nat (show y ≤ 100000 by omega)]) ⟨none, rfl⟩ ?_ ?_
  · rintro pre t post ρ hL ⟨x, rfl⟩
    have gs := GS.iter (f := limA l) (fun a g => g.lim) pre.length g.toGS
    obtain ⟨ht, _⟩ := range_at hL
    have hp : pre.length < BIG := by
      have := len_pre hL
      simp at this
      have : (1000 : Nat) < BIG := by decide
      omega
    refine ⟨[some (.val (encP p)), some (.val (encA (iter (limA l) (pre ++ [t]).length a))), some (.val (encC c)), some (.val (nI l)), some (.val (nI y)), some (.own ((pre ++ [t]).map fun t => nI (yld c (iter (limA l) t a)))), some (.val (nI t))], ?_, _, rfl⟩
    simp [e_limited_in (show 1 ≤ m by omega) _ gs.alen, e_yield_in (show 4 ≤ m by omega) gs c, iter, limA, appE, hp, ht]
  · rintro ρ' ⟨x, rfl⟩
    simp [bifD, bif1, tupleD]
def due (l : Nat) (a : Ages) : Nat := ((live a).filter fun x => decide (l ≤ x)).length
theorem e_renewed_many {n : Nat} (h : 6 ≤ n) {p : Plot} {w : Nat} {a : Ages} (g : GA p w a) {l y : Nat} (hl : 1 ≤ l) (hl2 : l ≤ 60) (hy : y ≤ 200) :
    calls Pt cst n 50 [encP p, encA a, nI l, nI y] = ret (nI ((List.range y).map fun t => due l (iter (limA l) t a)).sum) := by
  obtain ⟨m, rfl, hm⟩ := depth_of h
  rw [calls_succ _ _ _ _ pt_renewed_many]
  simp [runF, ir_renewed_many, startE, e_need_ages (show 4 ≤ m by omega) g, e_need_age (show 3 ≤ m by omega) hl hl2, e_need_years (show 3 ≤ m by omega) hy]
  refine bnd_for nI (fun pre ρ => ∃ x, ρ = [some (.val (encP p)), some (.val (encA (iter (limA l) pre.length a))), some (.val (nI l)), some (.val (nI y)), some (.val (nI (pre.map fun t => due l (iter (limA l) t a)).sum)), x, none]) (List.range y) (by simp [rng1_nat (show y ≤ 100000 by omega)]) ⟨none, rfl⟩ ?_ ?_
  · rintro pre t post ρ hL ⟨x, rfl⟩
    have gs := GS.iter (f := limA l) (fun a g => g.lim) pre.length g.toGS
    obtain ⟨ht, _⟩ := range_at hL
    refine ⟨[some (.val (encP p)), some (.val (encA (iter (limA l) (pre ++ [t]).length a))), some (.val (nI l)), some (.val (nI y)), some (.val (nI ((pre ++ [t]).map fun t => due l (iter (limA l) t a)).sum)), some (.val (nI t)), none], ?_, _, rfl⟩
    simp [e_ages_in (show 3 ≤ m by omega) gs, itemsD, wipeE]
    rw [catM_filter _ nI (fun _ => nI 1) (fun x => decide (l ≤ x)) (live (iter (limA l) pre.length a)) fun x hx => by
      by_cases c : l ≤ x <;> simp [copD, leD, c]]
    simp [bifD, bif1, lenD, augD, bopD, addD, e_limited_in (show 1 ≤ m by omega) _ gs.alen, iter, limA, due, ht]
  · rintro ρ' ⟨x, rfl⟩
    simp
end QL
end

section
set_option Elab.async false
set_option linter.all false
set_option maxRecDepth 100000
set_option maxHeartbeats 1000000
namespace QL
open PL
/-! ### the draws -/
theorem e_roll {n : Nat} (h : 1 ≤ n) {k : Nat} (h1 : 1 ≤ k) (h2 : k ≤ 1000000) : Dr (calls Pt cst n 21 [.cup, nI k]) fun d => ∃ r : Nat, d = nI r ∧ r < k := by
  obtain ⟨m, rfl, hm⟩ := depth_of h
  rw [calls_succ _ _ _ _ pt__law_roll]
  intro s ⟨x, y, hs, x0, y0, y1⟩
  obtain ⟨c⟩ := s
  have hs : c = some (x, y) := hs
  subst hs
  have k1 : (0 : Int) < k := by omega
  have k2 : (k : Int) < 1073741824 := by omega
  by_cases hx : 0 < x
  · have m1 := Int.emod_nonneg x (Int.ne_of_gt k1)
    have m2 := Int.emod_lt_of_pos x k1
    refine ⟨.int (x % k), ⟨some (x / k, y)⟩, ?_, ⟨x / k, y, rfl, Int.ediv_nonneg x0 (by omega), y0, y1⟩, (x % k).toNat, ?_, by omega⟩
    · simp [runF, ir__law_roll, startE, copD, ltD, hx, bifD, bif1, intD, bopD, modD_pos k1, fdivD_pos k1 k2]
    · show D.int _ = D.int _
      congr 1; omega
  · generalize hz : (y * 30829 + 7873) % 2147482951 = z
    have z1 := Int.emod_nonneg (y * 30829 + 7873) (show (2147482951 : Int) ≠ 0 by omega)
    have z2 := Int.emod_lt_of_pos (y * 30829 + 7873) (show (0 : Int) < 2147482951 by omega)
    rw [hz] at z1 z2
    have sm : small z = true := small_in (by omega) (by omega)
    have s2 : small 30829 = true := by decide
    generalize hw : z * (z + 277) % 2147483059 / 883 = u
    have m1 := Int.emod_nonneg u (Int.ne_of_gt k1)
    have m2 := Int.emod_lt_of_pos u k1
    refine ⟨.int (u % k), ⟨some (x, z)⟩, ?_, ⟨x, z, rfl, x0, z1, by omega⟩, (u % k).toNat, ?_, by omega⟩
    · simp [runF, ir__law_roll, startE, copD, ltD, hx, bifD, bif1, intD, bopD, modD_pos k1, modD_pos, fdivD_pos, mulD_small (.inr s2), addD, hz, mulD_small (.inl sm), hw]
    · show D.int _ = D.int _
      congr 1; omega
theorem e_some {α : Type} {n : Nat} (h : 2 ≤ n) (enc : α → D) (l : List α) (h1 : 1 ≤ l.length) (h2 : l.length ≤ 100000) : Dr (calls Pt cst n 22 [.cup, .lst (l.map enc)]) fun d => ∃ a ∈ l, d = enc a := by
  obtain ⟨m, rfl, hm⟩ := depth_of h
  rw [calls_succ _ _ _ _ pt__law_some]
  simp [runF, ir__law_some, startE, bifD, bif1, lenD]
  refine Dr.bnd (e_roll hm h1 (by omega)) ?_
  rintro d ⟨r, rfl, hr⟩
  have : l[r]? = some l[r] := List.getElem?_eq_getElem hr
  have e : atI (l.map enc) (r : Int) = some (enc l[r]) := atI_nat (by rw [List.getElem?_map, this]; rfl)
  simp [idxD, e]
  exact Dr.ret ⟨l[r], List.getElem_mem hr, rfl⟩
theorem e_someS {n : Nat} (h : 2 ≤ n) (l : List Nat) (h1 : 1 ≤ l.length) (h2 : l.length ≤ 100000) : Dr (calls Pt cst n 22 [.cup, .str l]) fun d => ∃ a ∈ l, d = .str [a] := by
  obtain ⟨m, rfl, hm⟩ := depth_of h
  rw [calls_succ _ _ _ _ pt__law_some]
  simp [runF, ir__law_some, startE, bifD, bif1, lenD]
  refine Dr.bnd (e_roll hm h1 (by omega)) ?_
  rintro d ⟨r, rfl, hr⟩
  have e : atI l (r : Int) = some l[r] := atI_nat (List.getElem?_eq_getElem hr)
  simp [idxD, e]
  exact Dr.ret ⟨l[r], List.getElem_mem hr, rfl⟩
theorem join_one (cs : List Nat) (h : cs.length ≤ 1000) : joinD [] (cs.map fun c => .str [c]) = some (.str cs) := by
  unfold joinD
  rw [allStr_map fun c => [c]]
  have e1 : ∀ l : List Nat, joinS [] (l.map fun c => [c]) = l := by
    intro l
    induction l with
    | nil => rfl
    | cons a l ih =>
      cases l with
      | nil => rfl
      | cons b l =>
        show [a] ++ ([] ++ joinS [] ((b :: l).map fun c => [c])) = _
        rw [ih]; rfl
  have e2 : ∀ l : List Nat, ((l.map fun c => [c]).map List.length).sum = l.length := by
    intro l
    induction l with
    | nil => rfl
    | cons a l ih => simp at ih ⊢; omega
  show (if _ then _ else _) = _
  rw [e1, e2, if_pos]
  have : (1000 : Nat) ≤ BIG := by decide
  simp
  omega
end QL
end

section
set_option Elab.async false
set_option linter.all false
set_option maxRecDepth 100000
set_option maxHeartbeats 1000000
namespace QL
open PL
theorem e_plot {n : Nat} (h : 3 ≤ n) {most : Nat} (h1 : 1 ≤ most) (h2 : most ≤ 12) {kinds : List Nat} (hk : ∀ c ∈ kinds, c ∈ KINDS) (k1 : 1 ≤ kinds.length) (k2 : kinds.length ≤ 50) :
    Dr (calls Pt cst n 24 [.cup, nI most, .str kinds]) fun d => ∃ p w, d = encP p ∧ GP p w := by
  obtain ⟨m, rfl, hm⟩ := depth_of h
  rw [calls_succ _ _ _ _ pt__law_plot]
  simp [runF, ir__law_plot, startE]
  refine Dr.bnd (e_roll (show 1 ≤ m by omega) h1 (by omega)) ?_
  rintro d ⟨hi, rfl, hhi⟩
  try simp
  refine Dr.bnd (e_roll (show 1 ≤ m by omega) h1 (by omega)) ?_
  rintro d ⟨wi, rfl, hwi⟩
  have b1 : addD (.str kinds) (.str [46]) = some (.str (kinds ++ [46])) := x_addS (by simp; omega)
  have b2 : addD (.str kinds) (.str [46, 46]) = some (.str (kinds ++ [46, 46])) := x_addS (by simp; omega)
  have b3 : mulD (.str [46]) (.int (kinds.length : Int)) = some (.str (List.replicate kinds.length 46)) := x_rep1 (by omega)
  have b4 : addD (.str (List.replicate kinds.length 46)) (.str kinds) = some (.str (List.replicate kinds.length 46 ++ kinds)) := x_addS (by simp; omega)
  simp [b1, b2, b3, b4]
  refine Dr.bnd (e_some (show 2 ≤ m by omega) D.str [kinds, kinds ++ [46], kinds ++ [46, 46], List.replicate kinds.length 46 ++ kinds] (by simp) (by simp)) ?_
  rintro d ⟨signs, hs, rfl⟩
  have hsig : (∀ c ∈ signs, c = 46 ∨ c ∈ KINDS) ∧ 1 ≤ signs.length ∧ signs.length ≤ 100 := by
    simp only [List.mem_cons, List.not_mem_nil, or_false] at hs
    rcases hs with rfl | rfl | rfl | rfl
    · exact ⟨fun c hc => .inr (hk c hc), k1, by omega⟩
    · refine ⟨fun c hc => ?_, by simp, by simp; omega⟩
      rcases List.mem_append.mp hc with z | z
      · exact .inr (hk c z)
      · simp at z; exact .inl z
    · refine ⟨fun c hc => ?_, by simp, by simp; omega⟩
      rcases List.mem_append.mp hc with z | z
      · exact .inr (hk c z)
      · simp at z; exact .inl z
    · refine ⟨fun c hc => ?_, by simp; omega, by simp; omega⟩
      rcases List.mem_append.mp hc with z | z
      · exact .inl (List.eq_of_mem_replicate z)
      · exact .inr (hk c z)
  have e1 : (1 : Int) + (hi : Int) = ((1 + hi : Nat) : Int) := by omega
  have e2 : (1 : Int) + (wi : Int) = ((1 + wi : Nat) : Int) := by omega
  try simp
  rw [e1, rng1_nat (show 1 + hi ≤ 100000 by omega)]
  try simp
  refine Dr.bnd (Dr.catM nI D.str (fun _ r => r.length = 1 + wi ∧ ∀ c ∈ r, c = 46 ∨ c ∈ KINDS) (List.range (1 + hi)) fun i hi => ?_) ?_
  · refine Dr.nr ?_
    try simp
    rw [e2, rng1_nat (show 1 + wi ≤ 100000 by omega)]
    try simp
    refine Dr.bnd (Dr.catM nI (fun c => D.str [c]) (fun _ c => c = 46 ∨ c ∈ KINDS) (List.range (1 + wi)) fun j hj => ?_) ?_
    · refine Dr.nr ?_
      refine Dr.bnd (e_someS (show 2 ≤ m by omega) signs hsig.2.1 (by omega)) ?_
      rintro d ⟨c, hc, rfl⟩
      exact Dr.ret ⟨c, rfl, hsig.1 c hc⟩
    · rintro r ⟨cs, rfl, hl, hc⟩
      rw [List.length_range] at hl
      simp [join_one cs (by omega)]
      refine Dr.ret ⟨cs, rfl, hl, fun c hcm => ?_⟩
      obtain ⟨j, hj, rfl⟩ := List.getElem_of_mem hcm
      exact hc j (by simp; omega) hj
  · rintro r ⟨p, rfl, hl, hc⟩
    rw [List.length_range] at hl
    try simp
    have hr : ∀ r ∈ p, r.length = 1 + wi ∧ ∀ c ∈ r, c = 46 ∨ c ∈ KINDS := fun r hr => by
      obtain ⟨j, hj, rfl⟩ := List.getElem_of_mem hr
      exact hc j (by simp; omega) hj
    exact Dr.ret ⟨p, rfl, 1 + wi, by omega, by omega, by omega, by omega, fun r h => (hr r h).1, fun r h => (hr r h).2⟩
end QL
end

section
set_option Elab.async false
set_option linter.all false
set_option maxRecDepth 100000
set_option maxHeartbeats 1000000
namespace QL
open PL
/-! ### the law's own defs -/
def okSame : Nat → D → Bool
  | _, .non => true
  | _, .bl _ => true
  | _, .int _ => true
  | _, .str _ => true
  | k + 1, .tup xs => decide (xs.length ≤ 100000) && xs.all (okSame k)
  | _, _ => false
@[simp] theorem ty_tup (xs : List D) : isiD 3 (.tup xs) = some true := Eq.trans rfl rfl
@[simp] theorem ty_tup1 (xs : List D) : isiD 1 (.tup xs) = some false := Eq.trans rfl rfl
@[simp] theorem ty_int3 (i : Int) : isiD 3 (.int i) = some false := Eq.trans rfl rfl
@[simp] theorem ty_int1 (i : Int) : isiD 1 (.int i) = some false := Eq.trans rfl rfl
@[simp] theorem ty_int0 (i : Int) : isiD 0 (.int i) = some true := Eq.trans rfl rfl
@[simp] theorem ty_non3 : isiD 3 .non = some false := Eq.trans rfl rfl
@[simp] theorem ty_bl3 (b : Bool) : isiD 3 (.bl b) = some false := Eq.trans rfl rfl
@[simp] theorem ty_bl1 (b : Bool) : isiD 1 (.bl b) = some true := Eq.trans rfl rfl
@[simp] theorem ty_str3 (b : List Nat) : isiD 3 (.str b) = some false := Eq.trans rfl rfl
@[simp] theorem ty_str1 (b : List Nat) : isiD 1 (.str b) = some false := Eq.trans rfl rfl
@[simp] theorem ty_str0 (b : List Nat) : isiD 0 (.str b) = some false := Eq.trans rfl rfl
@[simp] theorem ty_str2 (b : List Nat) : isiD 2 (.str b) = some true := Eq.trans rfl rfl
@[simp] theorem is_nn : isD .non .non = some true := Eq.trans rfl rfl
@[simp] theorem is_in (i : Int) : isD (.int i) .non = some false := Eq.trans rfl rfl
@[simp] theorem is_sn (i : List Nat) : isD (.str i) .non = some false := Eq.trans rfl rfl
@[simp] theorem is_bn (b : Bool) : isD (.bl b) .non = some false := Eq.trans rfl rfl
@[simp] theorem is_bb (a b : Bool) : isD (.bl a) (.bl b) = some (a == b) := Eq.trans rfl rfl
@[simp] theorem all_bl {α : Type} (l : List α) : bifD .all [.lst (l.map fun _ => .bl true)] = some (.bl true) := by
  unfold bifD bif1 blsD
  simp [allBl_map]
theorem e_same : ∀ (k : Nat) (d : D), okSame k d = true → ∀ n, k + 1 ≤ n → calls Pt cst n 23 [d, d] = ret (.bl true) := by
  intro k
  induction k with
  | zero =>
    intro d hd n hn
    obtain ⟨m, rfl, hm⟩ := depth_of hn
    rw [calls_succ _ _ _ _ pt__law_same]
    cases d with
    | non => simp [runF, ir__law_same, startE]
    | bl b => cases b <;> simp [runF, ir__law_same, startE]
    | int i => simp [runF, ir__law_same, startE]
    | str l => simp [runF, ir__law_same, startE]
    | _ => cases hd
  | succ k ih =>
    intro d hd n hn
    obtain ⟨m, rfl, hm⟩ := depth_of hn
    rw [calls_succ _ _ _ _ pt__law_same]
    cases d with
    | non => simp [runF, ir__law_same, startE]
    | bl b => cases b <;> simp [runF, ir__law_same, startE]
    | int i => simp [runF, ir__law_same, startE]
    | str l => simp [runF, ir__law_same, startE]
    | tup xs =>
      simp only [okSame, Bool.and_eq_true, decide_eq_true_eq, List.all_eq_true] at hd
      simp [runF, ir__law_same, startE]
      rw [rng1_nat hd.1]
      simp
      rw [catM_map _ nI (fun _ => .bl true) (List.range xs.length) fun i hi => by
        have hi := List.mem_range.mp hi
        have e : atI xs (i : Int) = some xs[i] := atI_nat (List.getElem?_eq_getElem hi)
        simp [e, ih _ (hd.2 _ (List.getElem_mem hi)) m hm]]
      simp
    | _ => cases hd
/-- a loop's slot: the last item, or what stood -/
def lz {α : Type} (enc : α → D) (l : List α) (z : Option Sl) : Option Sl := match l.getLast? with
  | some x => some (.val (enc x))
  | none => z
@[simp] theorem lz_nil {α : Type} (enc : α → D) (z : Option Sl) : lz enc [] z = z := Eq.trans rfl rfl
@[simp] theorem lz_snoc {α : Type} (enc : α → D) (l : List α) (x : α) (z : Option Sl) : lz enc (l ++ [x]) z = some (.val (enc x)) := by
  unfold lz
  rw [List.getLast?_concat]
theorem e_grown {n : Nat} (h : 1 ≤ n) (a : Ages) (ha : a.length ≤ 1000) (hr : ∀ r ∈ a, r.length ≤ 1000) (l : Nat) :
    calls Pt cst n 41 [encA a, nI l] = ret (encA (mapA (fun x => if x = 0 then 0 else if 0 < l ∧ l ≤ x then 1 else x + 1) a)) := by
  obtain ⟨m, rfl, hm⟩ := depth_of h
  rw [calls_succ _ _ _ _ pt__law_grown]
  generalize hf : (fun x : Nat => if x = 0 then 0 else if 0 < l ∧ l ≤ x then 1 else x + 1) = f
  simp [runF, ir__law_grown, startE]
  have big : (1000 : Nat) < BIG := by decide
  refine bnd_for encR (fun pre ρ => ∃ x y z, ρ = [some (.val (encA a)), some (.val (nI l)), some (.own (pre.map fun r => encR (r.map f))), x, y, z]) a (by simp) ⟨none, none, none, rfl⟩ ?_ ?_
  · rintro pre r post ρ hL ⟨x, y, z, rfl⟩
    have hp := len_pre hL
    have hrr : r.length ≤ 1000 := hr r (by rw [hL]; simp)
    refine ⟨[some (.val (encA a)), some (.val (nI l)), some (.own ((pre ++ [r]).map fun r => encR (r.map f))), some (.val (encR r)), some (.own (r.map fun x => nI (f x))), lz nI r z], ?_, _, _, _, rfl⟩
    simp
    refine bnd_for nI (fun pre2 ρ => ρ = [some (.val (encA a)), some (.val (nI l)), some (.own (pre.map fun r => encR (r.map f))), some (.val (encR r)), some (.own (pre2.map fun x => nI (f x))), lz nI pre2 z]) r (by simp) rfl ?_ ?_
    · rintro pre2 x post2 ρ hL2 rfl
      have hp2 := len_pre hL2
      have hb : pre2.length < BIG := by omega
      refine ⟨[some (.val (encA a)), some (.val (nI l)), some (.own (pre.map fun r => encR (r.map f))), some (.val (encR r)), some (.own ((pre2 ++ [x]).map fun x => nI (f x))), lz nI (pre2 ++ [x]) z], ?_, rfl⟩
      by_cases c : x = 0
      · subst c
        have e : f 0 = 0 := by rw [← hf]; rfl
        simp [appE, hb, e]
      · have c' : ¬ ((x : Int) = 0) := by omega
        by_cases c1 : 0 < l
        · by_cases c2 : l ≤ x
          · have e : f x = 1 := by rw [← hf]; simp [c, c1, c2]
            have c3 : (l : Int) < x + 1 := by omega
            simp [appE, hb, e, c, c1, c3]
          · have e : f x = x + 1 := by rw [← hf]; simp [c, c2]
            have c3 : ¬ ((l : Int) < x + 1) := by omega
            simp [appE, hb, e, c, c1, c3]
        · have e : f x = x + 1 := by rw [← hf]; simp [c, c1]
          simp [appE, hb, e, c, c1]
    · rintro ρ' rfl
      have hb : pre.length < BIG := by omega
      simp [appE, hb, Function.comp_def]
  · rintro ρ' ⟨x, y, z, rfl⟩
    simp [mapA, Function.comp_def]
def yldL (c : Curve) (a : Ages) : Nat := (a.map fun r => (r.map fun x => if 0 < x then pnd c x else 0).sum).sum
theorem e_law_yield {n : Nat} (h : 1 ≤ n) (a : Ages) (c : Curve) : calls Pt cst n 53 [encA a, encC c] = ret (nI (yldL c a)) := by
  obtain ⟨m, rfl, hm⟩ := depth_of h
  rw [calls_succ _ _ _ _ pt__law_yield]
  generalize hf : (fun x : Nat => if 0 < x then pnd c x else 0) = f
  have hy : yldL c a = (a.map fun r => (r.map f).sum).sum := by unfold yldL; rw [hf]
  rw [hy]
  simp [runF, ir__law_yield, startE]
  refine bnd_for encR (fun pre ρ => ∃ x z, ρ = [some (.val (encA a)), some (.val (encC c)), some (.val (nI (pre.map fun r => (r.map f).sum).sum)), x, z]) a (by simp) ⟨none, none, rfl⟩ ?_ ?_
  · rintro pre r post ρ hL ⟨x, z, rfl⟩
    refine ⟨[some (.val (encA a)), some (.val (encC c)), some (.val (nI ((pre ++ [r]).map fun r => (r.map f).sum).sum)), some (.val (encR r)), lz nI r z], ?_, _, _, rfl⟩
    simp
    refine bnd_for nI (fun pre2 ρ => ρ = [some (.val (encA a)), some (.val (encC c)), some (.val (nI ((pre.map fun r => (r.map f).sum).sum + (pre2.map f).sum))), some (.val (encR r)), lz nI pre2 z]) r (by simp) (by simp) ?_ ?_
    · rintro pre2 x post2 ρ hL2 rfl
      refine ⟨[some (.val (encA a)), some (.val (encC c)), some (.val (nI ((pre.map fun r => (r.map f).sum).sum + ((pre2 ++ [x]).map f).sum))), some (.val (encR r)), lz nI (pre2 ++ [x]) z], ?_, rfl⟩
      by_cases c1 : 0 < x
      · by_cases c2 : x ≤ c.length
        · have e2 : (x : Int) - 1 = ((x - 1 : Nat) : Int) := by omega
          have e : f x = nth c (x - 1) 0 := by rw [← hf]; simp [c1, pnd, c2]
          simp [c1, c2, e2, atI_map nI 0 (show x - 1 < c.length by omega), e]
          omega
        · have e : f x = 0 := by rw [← hf]; simp [pnd, c2]
          simp [c1, c2, e]
      · have e : f x = 0 := by rw [← hf]; simp [c1]
        simp [c1, e]
    · rintro ρ' rfl
      simp
  · rintro ρ' ⟨x, z, rfl⟩
    simp
end QL
end

section
set_option Elab.async false
set_option linter.all false
set_option maxRecDepth 100000
set_option maxHeartbeats 1000000
namespace QL
open PL
/-! ### draws of ages and curves -/
def RowOk (most : Nat) (r q : List Nat) : Prop := q.length = r.length ∧ ∀ j, j < r.length → (nth r j 0 = 46 ↔ nth q j 0 = 0) ∧ nth q j 0 ≤ most
theorem e_law_ages {n : Nat} (h : 2 ≤ n) {p : Plot} {w : Nat} (g : GP p w) {most : Nat} (h1 : 1 ≤ most) (h2 : most ≤ 60) : Dr (calls Pt cst n 27 [.cup, encP p, nI most]) fun d => ∃ a, d = encA a ∧ GA p w a := by
  obtain ⟨m, rfl, hm⟩ := depth_of h
  rw [calls_succ _ _ _ _ pt__law_ages]
  simp [runF, ir__law_ages, startE]
  refine dr_for D.str (fun pre ρ => ∃ (rs : List (List Nat)) (x : Option Sl), ρ = [some (.val .cup), some (.val (encP p)), some (.val (nI most)), some (.own (rs.map encR)), x, none] ∧ rs.length = pre.length ∧ ∀ i, i < pre.length → RowOk most (nth pre i []) (nth rs i [])) p (by simp)
    ⟨[], none, rfl, rfl, fun i hi => by simp at hi⟩ ?_ ?_
  · rintro pre r post ρ hL ⟨rs, x, rfl, hl, hr⟩
    have hp := len_pre hL
    have hb : rs.length < BIG := by
      have := g.h2
      have : (1000 : Nat) < BIG := by decide
      omega
    simp
    refine Dr.bnd (Dr.catM (fun c : Nat => D.str [c]) nI (fun c q => (c = 46 ↔ q = 0) ∧ q ≤ most) r fun c hc => ?_) ?_
    · refine Dr.nr ?_
      by_cases e : c = 46
      · subst e
        simp
        exact Dr.ret ⟨0, rfl, by simp⟩
      · simp [e]
        refine Dr.bnd (e_roll hm h1 (by omega)) ?_
        rintro d ⟨k, rfl, hk⟩
        simp
        exact Dr.ret ⟨1 + k, by simp, by omega, by omega⟩
    · rintro _ ⟨q, rfl, hq, hc⟩
      simp [appE, hb]
      refine Dr.ret ⟨_, rfl, rs ++ [q], ⟨some (.val (.str r)), by simp⟩, by simp [hl], fun i hi => ?_⟩
      by_cases e : i < pre.length
      · have e1 : nth (pre ++ [r]) i [] = nth pre i [] := by unfold nth; simp [List.getElem?_append_left e]
        have e2 : nth (rs ++ [q]) i [] = nth rs i [] := by unfold nth; simp [List.getElem?_append_left (show i < rs.length by omega)]
        rw [e1, e2]; exact hr i e
      · have e0 : i = pre.length := by omega
        subst e0
        have e1 : nth (pre ++ [r]) pre.length [] = r := by unfold nth; simp
        have e2 : nth (rs ++ [q]) pre.length [] = q := by unfold nth; rw [← hl]; simp
        rw [e1, e2]
        refine ⟨hq, fun j hj => ?_⟩
        have e3 : nth r j 0 = r[j] := by unfold nth; simp [hj]
        have e4 : nth q j 0 = q[j]'(by omega) := by unfold nth; simp [show j < q.length by omega]
        rw [e3, e4]
        exact hc j hj (by omega)
  · rintro ρ' ⟨rs, x, rfl, hl, hr⟩
    simp
    have row : ∀ r ∈ rs, r.length = w ∧ ∀ x ∈ r, x ≤ most := fun r hrm => by
      obtain ⟨i, hi, rfl⟩ := List.getElem_of_mem hrm
      have ro := hr i (by omega)
      have e2 : nth rs i [] = rs[i] := by unfold nth; simp [hi]
      rw [e2] at ro
      have hw : (nth p i []).length = w := g.row _ (nth_mem (by omega))
      refine ⟨by rw [ro.1, hw], fun x hx => ?_⟩
      obtain ⟨j, hj, rfl⟩ := List.getElem_of_mem hx
      have := (ro.2 j (by rw [← ro.1]; exact hj)).2
      have e4 : nth rs[i] j 0 = rs[i][j] := by unfold nth; simp [hj]
      rw [e4] at this
      exact this
    refine Dr.ret ⟨rs, rfl, ⟨g, hl, fun r h => (row r h).1, fun i j hi hj => ?_⟩, fun r h x hx => Nat.le_trans ((row r h).2 x hx) h2⟩
    have := (hr i hi).2 j (by rw [g.row _ (nth_mem hi)]; exact hj)
    exact this.1
theorem e_law_curve {n : Nat} (h : 2 ≤ n) {most : Nat} (h1 : 1 ≤ most) (h2 : most ≤ 60) : Dr (calls Pt cst n 28 [.cup, nI most]) fun d => ∃ c, d = encC c ∧ GC c ∧ c.length ≤ most := by
  obtain ⟨m, rfl, hm⟩ := depth_of h
  rw [calls_succ _ _ _ _ pt__law_curve]
  simp [runF, ir__law_curve, startE]
  refine Dr.bnd (e_roll hm h1 (by omega)) ?_
  rintro d ⟨k, rfl, hk⟩
  have e1 : (1 : Int) + (k : Int) = ((1 + k : Nat) : Int) := by omega
  simp
  rw [e1, rng1_nat (show 1 + k ≤ 100000 by omega)]
  simp
  refine Dr.bnd (Dr.catM nI nI (fun _ x => x ≤ 99) (List.range (1 + k)) fun i hi => ?_) ?_
  · refine Dr.nr ?_
    try simp
    refine Dr.bnd (e_roll (k := (100 : Nat)) hm (by decide) (by decide)) ?_
    rintro d ⟨x, rfl, hx⟩
    exact Dr.ret ⟨x, rfl, by omega⟩
  · rintro _ ⟨c, rfl, hl, hc⟩
    rw [List.length_range] at hl
    try simp
    refine Dr.ret ⟨c, rfl, ⟨by omega, by omega, fun x hx => ?_⟩, by omega⟩
    obtain ⟨j, hj, rfl⟩ := List.getElem_of_mem hx
    exact hc j (by simp; omega) hj
end QL
end

section
set_option Elab.async false
set_option linter.all false
set_option maxRecDepth 100000
set_option maxHeartbeats 1000000
namespace PL
theorem whl_go {T : Ct} {c : E} {b : Cs} (Inv : Nat → Env → Prop) (F : Env → Prop)
    (step : ∀ m ρ, Inv m ρ → (bnd (evE T c ρ) asB = ret false ∧ F ρ) ∨ (bnd (evE T c ρ) asB = ret true ∧ ∃ ρ', evCs T b ρ = ret (.nx ρ') ∧ ∃ m', m' < m ∧ Inv m' ρ')) :
    ∀ fuel m ρ, m < fuel → Inv m ρ → ∃ ρ', whileM (fun ρ => bnd (evE T c ρ) asB) (fun ρ => evCs T b ρ) fuel ρ = ret (.nx ρ') ∧ F ρ'
  | 0, m, ρ, h, _ => absurd h (Nat.not_lt_zero _)
  | fuel + 1, m, ρ, h, hi => by
    have un : whileM (fun ρ => bnd (evE T c ρ) asB) (fun ρ => evCs T b ρ) (fuel + 1) ρ = bnd (bnd (evE T c ρ) asB) fun k => if k = true then bnd (evCs T b ρ) fun f => (match f with
      | .nx ρ2 => whileM (fun ρ => bnd (evE T c ρ) asB) (fun ρ => evCs T b ρ) fuel ρ2
      | .rt d => ret (.rt d)) else ret (.nx ρ) := rfl
    rw [un]
    rcases step m ρ hi with ⟨e, f⟩ | ⟨e, ρ', e2, m', hm, h2⟩
    · rw [e]; exact ⟨ρ, rfl, f⟩
    · rw [e, bnd_ret, if_pos rfl, e2, bnd_ret]
      exact whl_go Inv F step fuel m' ρ' (by omega) h2
theorem bnd_whl {β : Type} {T : Ct} {c : E} {b : Cs} {ρ : Env} {k : Fl → M β} {r : M β} (Inv : Nat → Env → Prop) (F : Env → Prop) (m : Nat) (hm : m < 1000000) (h0 : Inv m ρ)
    (step : ∀ m ρ, Inv m ρ → (bnd (evE T c ρ) asB = ret false ∧ F ρ) ∨ (bnd (evE T c ρ) asB = ret true ∧ ∃ ρ', evCs T b ρ = ret (.nx ρ') ∧ ∃ m', m' < m ∧ Inv m' ρ'))
    (hk : ∀ ρ', F ρ' → k (.nx ρ') = r) : bnd (evC T (.whl c b) ρ) k = r := by
  obtain ⟨ρ', e, f⟩ := whl_go Inv F step loopFuel m ρ hm h0
  rw [ec_whl, e, bnd_ret]
  exact hk ρ' f
theorem rng2_one {l : Nat} (h : l ≤ 10000) : rng2 1 ((l : Int) + 1) = ret ((List.range l).map fun (k : Nat) => .int ((1 + k : Nat) : Int)) := by
  have := rng2_nat (i := 1) (j := l + 1) (by omega) (by omega)
  simpa using this
end PL
namespace QL
open PL
theorem e_divisor {n : Nat} (h : 1 ≤ n) (a b : Nat) (hb : b < 1000000) : calls Pt cst n 35 [nI a, nI b] = ret (nI (Nat.gcd a b)) := by
  obtain ⟨m, rfl, hm⟩ := depth_of h
  rw [calls_succ _ _ _ _ pt_divisor]
  simp [runF, ir_divisor, startE]
  refine bnd_whl (fun m ρ => ∃ x, ρ = [some (.val (nI x)), some (.val (nI m))] ∧ Nat.gcd x m = Nat.gcd a b) (fun ρ => ∃ y, ρ = [some (.val (nI (Nat.gcd a b))), y]) b hb ⟨a, rfl, rfl⟩ ?_ ?_
  · rintro m ρ ⟨x, rfl, hg⟩
    by_cases c : m = 0
    · subst c
      left
      refine ⟨by simp, some (.val (nI 0)), ?_⟩
      rw [← hg, Nat.gcd_zero_right]
    · right
      have c0 : (0 : Int) < m := by omega
      refine ⟨by simp [c], [some (.val (nI m)), some (.val (nI (x % m)))], ?_, x % m, Nat.mod_lt _ (by omega), m, rfl, ?_⟩
      · simp [modD_pos c0]
      · rw [← hg, Nat.gcd_comm m (x % m), ← Nat.gcd_rec, Nat.gcd_comm]
  · rintro ρ' ⟨y, rfl⟩
    simp
def W (c : Curve) (k : Nat) : Nat := ((List.range k).map fun i => pnd c (1 + i)).sum
theorem e_mean_yield {n : Nat} (h : 6 ≤ n) {c : Curve} (g : GC c) {l : Nat} (h1 : 1 ≤ l) (h2 : l ≤ 60) :
    calls Pt cst n 51 [encC c, nI l] = ret (.tup [nI (W c l / Nat.gcd (W c l) l), nI (l / Nat.gcd (W c l) l)]) := by
  obtain ⟨m, rfl, hm⟩ := depth_of h
  rw [calls_succ _ _ _ _ pt_mean_yield]
  have gp : 0 < Nat.gcd (W c l) l := Nat.gcd_pos_of_pos_right _ (by omega)
  have gl : Nat.gcd (W c l) l ≤ l := Nat.gcd_le_right _ (by omega)
  have g1 : (0 : Int) < (Nat.gcd (W c l) l : Nat) := by omega
  have g2 : ((Nat.gcd (W c l) l : Nat) : Int) < 1073741824 := by omega
  simp [runF, ir_mean_yield, startE, e_need_curve (show 4 ≤ m by omega) g, e_need_age (show 3 ≤ m by omega) h1 h2]
  rw [rng2_one (by omega)]
  simp
  rw [catM_map _ (fun k : Nat => D.int (1 + (k : Int))) (fun k => nI (pnd c (1 + k))) (List.range l) fun k hk => by
    have := e_pounds_in (n := m) (by omega) c (x := 1 + k) (by omega)
    have e0 : D.int (1 + (k : Int)) = nI (1 + k) := by
      show D.int _ = D.int _
      congr 1
    rw [e0]
    simp [this]]
  have e : bifD .sum [.lst ((List.range l).map fun k => nI (pnd c (1 + k)))] = some (nI (W c l)) := by
    unfold bifD bif1 intsD W
    simp [allInt_nI, sum_nI]
  simp [e, e_divisor (show 1 ≤ m by omega) (W c l) l (by omega)]
  simp [fdivD_pos g1 g2]
/-! ### the best limit -/
def S' (c : Curve) (k : Nat) : Nat := (c.take k).sum
def bst (c : Curve) : Nat → Nat × Nat
  | 0 => (1, nth c 0 0)
  | k + 1 => if (bst c k).2 * (k + 1) < S' c (k + 1) * (bst c k).1 then (k + 1, S' c (k + 1)) else bst c k
theorem take_succ {c : Curve} {k : Nat} (h : k < c.length) : S' c (k + 1) = S' c k + nth c k 0 := by
  unfold S' nth
  rw [List.take_succ, List.sum_append, List.getElem?_eq_getElem h]
  simp [h]
theorem sum_le' {b : Nat} : ∀ l : List Nat, (∀ x ∈ l, x ≤ b) → l.sum ≤ b * l.length
  | [], _ => by simp
  | a :: l, h => by
    have h1 := h a List.mem_cons_self
    have h2 := sum_le' l fun x hx => h x (List.mem_cons_of_mem _ hx)
    rw [List.sum_cons, List.length_cons, Nat.mul_add]
    omega
theorem S_le {c : Curve} (g : GC c) (k : Nat) : S' c k ≤ 5940 := by
  have h1 := sum_le' (b := 99) (c.take k) fun x hx => g.hi x (List.mem_of_mem_take hx)
  have h2 : (c.take k).length ≤ c.length := by rw [List.length_take]; omega
  have h3 := g.h2
  have h4 : 99 * (c.take k).length ≤ 99 * 60 := Nat.mul_le_mul (Nat.le_refl _) (by omega)
  unfold S'
  omega
theorem bst_le {c : Curve} (g : GC c) : ∀ k, k ≤ c.length → (bst c k).1 ≤ 60 ∧ 1 ≤ (bst c k).1 ∧ (bst c k).2 ≤ 5940
  | 0, _ => ⟨by show 1 ≤ 60; omega, by show 1 ≤ 1; omega, by
      show nth c 0 0 ≤ 5940
      have := g.hi _ (nth_mem (l := c) (i := 0) (d := 0) (by have := g.h1; omega))
      omega⟩
  | k + 1, h => by
    have ih := bst_le g k (by omega)
    have h2 := g.h2
    have h3 := S_le g (k + 1)
    unfold bst
    split
    · exact ⟨by show k + 1 ≤ 60; omega, by show 1 ≤ k + 1; omega, h3⟩
    · exact ih
theorem e_best_limit {n : Nat} (h : 6 ≤ n) {c : Curve} (g : GC c) : calls Pt cst n 52 [encC c] = ret (nI (bst c c.length).1) := by
  obtain ⟨m, rfl, hm⟩ := depth_of h
  rw [calls_succ _ _ _ _ pt_best_limit]
  have c0 : 0 < c.length := by have := g.h1; omega
  have c6 := g.h2
  simp [runF, ir_best_limit, startE, e_need_curve (show 4 ≤ m by omega) g, atI_map0 nI 0 c0]
  refine bnd_for (fun k : Nat => D.int (1 + (k : Int))) (fun pre ρ => ∃ x, ρ = [some (.val (encC c)), some (.val (nI (bst c pre.length).1)), some (.val (nI (bst c pre.length).2)), some (.val (nI (S' c pre.length))), x]) (List.range c.length)
    (by simp [rng2_one (show c.length ≤ 10000 by omega)]) ⟨none, rfl⟩ ?_ ?_
  · rintro pre k post ρ hL ⟨x, rfl⟩
    obtain ⟨hk, _⟩ := range_at hL
    have hl := len_pre hL
    rw [List.length_range] at hl
    subst hk
    have b := bst_le g pre.length (by omega)
    have st := take_succ hl
    have sl := S_le g (pre.length + 1)
    have e1 : (1 : Int) + (pre.length : Int) - 1 = (pre.length : Int) := by omega
    generalize hb : bst c pre.length = q at *
    have m1 : mulD (.int ((S' c pre.length : Int) + ((nth c pre.length 0 : Nat) : Int))) (.int (q.1 : Int)) = some (.int (((S' c pre.length : Int) + ((nth c pre.length 0 : Nat) : Int)) * (q.1 : Int))) := mulD_small (.inl (small_in (by omega) (by omega)))
    have m2 : mulD (.int (q.2 : Int)) (.int (1 + (pre.length : Int))) = some (.int ((q.2 : Int) * (1 + (pre.length : Int)))) := mulD_small (.inl (small_in (by omega) (by omega)))
    refine ⟨[some (.val (encC c)), some (.val (nI (bst c (pre ++ [pre.length]).length).1)), some (.val (nI (bst c (pre ++ [pre.length]).length).2)), some (.val (nI (S' c (pre ++ [pre.length]).length))), some (.val (.int (1 + (pre.length : Int))))], ?_, _, rfl⟩
    have hbs : bst c (pre.length + 1) = if q.2 * (pre.length + 1) < S' c (pre.length + 1) * q.1 then (pre.length + 1, S' c (pre.length + 1)) else q := by
      rw [bst, hb]
    have au : augD .add (.int (S' c pre.length : Int)) (.int ((nth c pre.length 0 : Nat) : Int)) = some (.int ((S' c pre.length : Int) + ((nth c pre.length 0 : Nat) : Int))) := rfl
    by_cases cc : q.2 * (pre.length + 1) < S' c (pre.length + 1) * q.1
    · have c1 : (q.2 : Int) * (1 + (pre.length : Int)) < ((S' c pre.length : Int) + ((nth c pre.length 0 : Nat) : Int)) * (q.1 : Int) := by
        rw [st] at cc
        have := Int.ofNat_lt.mpr cc
        push_cast at this
        rw [Int.add_comm 1]
        exact this
      rw [if_pos cc] at hbs
      simp [e1, atI_map nI 0 hl, au, m1, m2, c1, hbs, st]
      omega
    · have c1 : ¬ ((q.2 : Int) * (1 + (pre.length : Int)) < ((S' c pre.length : Int) + ((nth c pre.length 0 : Nat) : Int)) * (q.1 : Int)) := fun z => cc (by
        rw [st]
        rw [Int.add_comm 1] at z
        exact_mod_cast z)
      rw [if_neg cc] at hbs
      simp [e1, atI_map nI 0 hl, au, m1, m2, c1, hbs, st]
  · rintro ρ' ⟨x, rfl⟩
    simp
end QL
end

section
set_option Elab.async false
set_option linter.all false
set_option maxRecDepth 100000
set_option maxHeartbeats 1000000
namespace QL
open PL
/-! ### plain mathematics -/
theorem yld_row (c : Curve) : ∀ r : List Nat, (r.map fun x => if 0 < x then pnd c x else 0).sum = ((r.filter fun x => !(x == 0)).map (pnd c)).sum
  | [] => rfl
  | x :: r => by
    rw [List.map_cons, List.sum_cons, yld_row c r, List.filter_cons]
    by_cases e : x = 0
    · subst e; simp
    · have h1 : 0 < x := by omega
      have h2 : (!(x == 0)) = true := by rw [beq_eq_false_iff_ne.mpr e]; rfl
      rw [if_pos h1, if_pos h2, List.map_cons, List.sum_cons]
theorem yld_eq (c : Curve) : ∀ a : Ages, yldL c a = yld c a
  | [] => rfl
  | r :: a => by
    have ih := yld_eq c a
    unfold yldL yld live at ih ⊢
    rw [List.map_cons, List.sum_cons, ih, List.flatten_cons, List.filter_append, List.map_append, List.sum_append, yld_row]
def grow1 (l x : Nat) : Nat := if x = 0 then 0 else if 0 < l ∧ l ≤ x then 1 else x + 1
def growA (l : Nat) (a : Ages) : Ages := mapA (grow1 l) a
theorem grow_lim {l : Nat} (h : 1 ≤ l) : growA l = limA l := by
  funext a
  unfold growA limA
  congr 1
  funext x
  unfold grow1 lim1
  by_cases c : x = 0
  · simp [c]
  · by_cases c2 : l ≤ x
    · have h0 : 0 < l := h
      simp [c, c2, h0]
    · simp [c, c2]
theorem mapA_mapA (f g : Nat → Nat) (a : Ages) : mapA f (mapA g a) = mapA (fun x => f (g x)) a := by
  unfold mapA
  rw [List.map_map]
  refine List.map_congr_left fun r _ => ?_
  show (r.map g).map f = _
  rw [List.map_map]; rfl
theorem mapA_id {f : Nat → Nat} (h : ∀ x, f x = x) (a : Ages) : mapA f a = a := by
  have e : f = id := funext h
  unfold mapA
  rw [e]
  simp
theorem grow_older (a : Ages) : ∀ t, iter (growA 0) t a = mapA (older1 t) a
  | 0 => by
    show a = _
    rw [mapA_id]
    intro x
    unfold older1
    by_cases c : 0 < x <;> simp [c]
    omega
  | t + 1 => by
    show growA 0 (iter (growA 0) t a) = _
    rw [grow_older a t]
    unfold growA
    rw [mapA_mapA]
    congr 1
    funext x
    unfold grow1 older1
    by_cases c : 0 < x
    · rw [if_pos c, if_pos c, if_neg (by omega), if_neg (by omega)]; omega
    · rw [if_neg c, if_neg c]; rfl
/-- the newly planted of a row: pairs of an age and the next year's -/
def newR (l : Nat) (r : List Nat) : Nat := (r.filter fun x => decide (0 < x) && (grow1 l x == 1)).length
theorem new_row {l : Nat} (h : 1 ≤ l) (r : List Nat) : newR l r = ((r.filter fun x => !(x == 0)).filter fun x => decide (l ≤ x)).length := by
  unfold newR
  rw [List.filter_filter]
  congr 1
  refine List.filter_congr fun x _ => ?_
  by_cases c : x = 0
  · subst c; simp
  · have c1 : 0 < x := by omega
    have c2 : (x == 0) = false := beq_eq_false_iff_ne.mpr c
    have h0 : 0 < l := h
    by_cases c3 : l ≤ x
    · simp [c1, c2, c3, grow1, c, h0]
    · simp [c1, c2, c3, grow1, c]
theorem new_due {l : Nat} (h : 1 ≤ l) : ∀ a : Ages, (a.map (newR l)).sum = due l a
  | [] => rfl
  | r :: a => by
    have ih := new_due h a
    unfold due live at ih ⊢
    rw [List.map_cons, List.sum_cons, ih, List.flatten_cons, List.filter_append, List.filter_append, List.length_append, new_row h]
/-! ### the best limit, the share -/
theorem split_at {n b : Nat} (h : b < n) : List.range n = List.range b ++ b :: (List.range (n - b - 1)).map fun i => b + 1 + i := by
  have e : n = b + ((n - b - 1) + 1) := by omega
  conv => lhs; rw [e, List.range_add, List.range_succ_eq_map, List.map_cons, List.map_map]
  congr 1
  rw [Nat.add_zero]
  congr 1
  refine List.map_congr_left fun i _ => ?_
  show b + (i + 1) = _
  omega
theorem first_of {n b : Nat} (h : b < n) {p : Nat → Bool} (hb : p b = true) (hs : ∀ i, i < b → p i = false) : ∃ r, (List.range n).filter p = b :: r := by
  rw [split_at h, List.filter_append, List.filter_cons_of_pos hb]
  have : (List.range b).filter p = [] := List.filter_eq_nil_iff.mpr fun i hi => by rw [hs i (List.mem_range.mp hi)]; simp
  rw [this]
  exact ⟨_, rfl⟩
theorem last_of {n b : Nat} (h : b < n) {p : Nat → Bool} (hb : p b = true) (hs : ∀ i, b < i → i < n → p i = false) : ∃ r, (List.range n).filter p = r ++ [b] := by
  rw [split_at h, List.filter_append, List.filter_cons_of_pos hb]
  have : ((List.range (n - b - 1)).map fun i => b + 1 + i).filter p = [] := List.filter_eq_nil_iff.mpr fun i hi => by
    obtain ⟨j, hj, rfl⟩ := List.mem_map.mp hi
    have := List.mem_range.mp hj
    rw [hs _ (by omega) (by omega)]; simp
  rw [this]
  exact ⟨_, rfl⟩
/-- the invariant of the best limit -/
structure Bst (c : Curve) (k : Nat) (q : Nat × Nat) : Prop where
  b1 : 1 ≤ q.1
  bk : q.1 ≤ k ∨ (k = 0 ∧ q.1 = 1)
  mo : q.2 = S' c q.1
  le : ∀ t, 1 ≤ t → t ≤ k → S' c t * q.1 ≤ S' c q.1 * t
  lt : ∀ t, 1 ≤ t → t < q.1 → S' c t * q.1 < S' c q.1 * t
theorem S'_one {c : Curve} (h : 1 ≤ c.length) : S' c 1 = nth c 0 0 := by
  have := take_succ (c := c) (k := 0) (by omega)
  rw [this]
  simp [S']
theorem bst_inv {c : Curve} (g : GC c) : ∀ k, Bst c k (bst c k)
  | 0 => ⟨Nat.le_refl _, .inr ⟨rfl, rfl⟩, by show nth c 0 0 = S' c 1; rw [S'_one g.h1], fun t a b => absurd a (by omega), fun t a (b : t < 1) => absurd a (by omega)⟩
  | k + 1 => by
    have ih := bst_inv g k
    unfold bst
    generalize bst c k = q at *
    by_cases cc : q.2 * (k + 1) < S' c (k + 1) * q.1
    · rw [if_pos cc]
      rw [ih.mo] at cc
      have key : ∀ t, 1 ≤ t → t ≤ k → S' c t * (k + 1) < S' c (k + 1) * t := fun t h1 h2 => by
        have a := ih.le t h1 h2
        -- S' t * q * (k+1) ≤ S' q * t * (k+1) < S'(k+1) * q * t
        have e1 : S' c t * (k + 1) * q.1 ≤ S' c q.1 * (k + 1) * t := by
          have := Nat.mul_le_mul_right (k + 1) a
          rw [Nat.mul_right_comm, Nat.mul_right_comm (S' c q.1)] at this
          exact this
        have e2 : S' c q.1 * (k + 1) * t < S' c (k + 1) * q.1 * t := Nat.mul_lt_mul_of_pos_right cc (by omega)
        have e3 : S' c t * (k + 1) * q.1 < S' c (k + 1) * t * q.1 := by
          rw [Nat.mul_right_comm (S' c (k + 1)) t]
          exact Nat.lt_of_le_of_lt e1 e2
        exact Nat.lt_of_mul_lt_mul_right e3
      refine ⟨by show 1 ≤ k + 1; omega, .inl (Nat.le_refl _), rfl, fun t h1 h2 => ?_, fun t h1 (h2 : t < k + 1) => key t h1 (by omega)⟩
      show S' c t * (k + 1) ≤ S' c (k + 1) * t
      by_cases e : t = k + 1
      · subst e; exact Nat.le_refl _
      · exact Nat.le_of_lt (key t h1 (by omega))
    · rw [if_neg cc]
      rw [ih.mo] at cc
      refine ⟨ih.b1, ?_, ih.mo, fun t h1 h2 => ?_, ih.lt⟩
      · rcases ih.bk with z | ⟨rfl, z⟩
        · exact .inl (by omega)
        · exact .inl (by omega)
      · by_cases e : t = k + 1
        · subst e; omega
        · exact ih.le t h1 (by omega)
theorem S'_big {c : Curve} {t : Nat} (h : c.length ≤ t) : S' c t = S' c c.length := by
  unfold S'
  rw [List.take_of_length_le h, List.take_of_length_le (Nat.le_refl _)]
/-- the law's test of a limit own = i + 1 -/
def bestT (c : Curve) (i : Nat) : Bool := (List.range 60).all fun t => !(decide (S' c (i + 1) * (t + 1) < S' c (t + 1) * (i + 1)))
theorem best_law {c : Curve} (g : GC c) : ∃ r, (List.range 60).filter (bestT c) = ((bst c c.length).1 - 1) :: r := by
  have iv := bst_inv g c.length
  have bl := bst_le g c.length (Nat.le_refl _)
  generalize bst c c.length = q at *
  have h2 := g.h2
  have h1 := g.h1
  have bk : q.1 ≤ c.length := by
    rcases iv.bk with z | ⟨z, _⟩
    · exact z
    · omega
  have b1 := iv.b1
  have e : q.1 - 1 + 1 = q.1 := by omega
  refine first_of (by omega) ?_ fun i hi => ?_
  · unfold bestT
    rw [List.all_eq_true]
    intro t ht
    rw [e]
    simp only [Bool.not_eq_true', decide_eq_false_iff_not, Nat.not_lt]
    by_cases c1 : t + 1 ≤ c.length
    · exact iv.le (t + 1) (by omega) c1
    · rw [S'_big (show c.length ≤ t + 1 by omega)]
      have a := iv.le c.length h1 (Nat.le_refl _)
      exact Nat.le_trans a (Nat.mul_le_mul_left _ (by omega))
  · unfold bestT
    rw [List.all_eq_false]
    refine ⟨q.1 - 1, List.mem_range.mpr (by omega), ?_⟩
    rw [e]
    have := iv.lt (i + 1) (by omega) (by omega)
    simp [this]
theorem share_law {l x : Nat} (h : 1 ≤ l) : ∃ r, (List.range l).filter (fun i => decide (l % (i + 1) = 0) && decide (x % (i + 1) = 0)) = r ++ [Nat.gcd x l - 1] := by
  have gp : 0 < Nat.gcd x l := Nat.gcd_pos_of_pos_right _ (by omega)
  have gl : Nat.gcd x l ≤ l := Nat.gcd_le_right _ (by omega)
  have e : Nat.gcd x l - 1 + 1 = Nat.gcd x l := by omega
  refine last_of (by omega) ?_ fun i h1 h2 => ?_
  · rw [e]
    simp [Nat.mod_eq_zero_of_dvd (Nat.gcd_dvd_right x l), Nat.mod_eq_zero_of_dvd (Nat.gcd_dvd_left x l)]
  · by_cases c1 : l % (i + 1) = 0
    · by_cases c2 : x % (i + 1) = 0
      · have d := Nat.dvd_gcd (Nat.dvd_of_mod_eq_zero c2) (Nat.dvd_of_mod_eq_zero c1)
        have := Nat.le_of_dvd gp d
        omega
      · simp [c2]
    · simp [c1]
theorem W_S {c : Curve} : ∀ k, W c k = S' c k
  | 0 => by simp [W, S']
  | k + 1 => by
    have ih := W_S (c := c) k
    unfold W at ih ⊢
    rw [List.range_succ, List.map_append, List.sum_append, ih]
    by_cases h : k < c.length
    · rw [take_succ h]
      have e : 1 + k - 1 = k := by omega
      simp [pnd, e, show 1 + k ≤ c.length by omega]
    · rw [S'_big (show c.length ≤ k by omega), S'_big (show c.length ≤ k + 1 by omega)]
      simp [pnd, show ¬ (1 + k ≤ c.length) by omega]
end QL
end

section
set_option Elab.async false
set_option linter.all false
set_option maxRecDepth 100000
set_option maxHeartbeats 2000000
namespace PL
theorem dr_forP {α β : Type} {T : Ct} {tg : Tg} {it : I} {b : Cs} {ρ : Env} {k : Fl → M β} {P : β → Prop} (enc : α → D) (Inv : List α → Env → Prop) (L : List α) (hit : evI T it ρ = ret (L.map enc)) (h0 : Inv [] ρ)
    (hs : ∀ pre x post ρ, L = pre ++ x :: post → Inv pre ρ → ∃ ρ', bnd (asg tg (enc x) ρ) (fun ρ => evCs T b ρ) = ret (.nx ρ') ∧ Inv (pre ++ [x]) ρ')
    (hk : ∀ ρ', Inv L ρ' → Dr (k (.nx ρ')) P) : Dr (bnd (evC T (.for_ tg it b) ρ) k) P := by
  obtain ⟨ρ', e, hI⟩ := forM_pure (body := fun ρ => evCs T b ρ) (tg := tg) enc Inv L ρ h0 hs
  rw [ec_for, hit, bnd_ret, e, bnd_ret]
  exact hk ρ' hI
theorem zipD_map {α : Type} (f g : α → D) : ∀ l : List α, zipD (l.map f) (l.map g) = l.map fun x => .tup [f x, g x]
  | [] => rfl
  | a :: l => by
    show .tup [f a, g a] :: zipD (l.map f) (l.map g) = _
    rw [zipD_map f g l]; rfl
end PL
namespace QL
open PL
theorem e_grownA {n : Nat} (h : 1 ≤ n) {p : Plot} {w : Nat} {a : Ages} (g : GS p w a) (l : Nat) : calls Pt cst n 41 [encA a, nI l] = ret (encA (growA l a)) :=
  e_grown h a g.alen (fun r hr => by rw [g.row r hr]; have := g.gp.w2; omega) l
/-- one year of the law -/
theorem right_year {m : Nat} (hm : 2 ≤ m) {p : Plot} {w : Nat} {a : Ages} (g : GA p w a) {c : Curve} (l y : Nat) (hl : 1 ≤ l) (hy : y ≤ 40) (k : Nat) (hk : k < y)
    (x11 x17 x18 x19 : Option Sl) :
    ∃ x18' x19', evCs ⟨calls Pt cst m, cst⟩ (.cons (.par [(6, false), (7, false)] (.cons (.bin .add (.var 6) (.lst (.cons (.call 53 (.cons (.var 8) (.cons (.var 3) .nil))) .nil))) (.cons (.bin .add (.var 7) (.lst (.cons (.call 53 (.cons (.var 9) (.cons (.var 3) .nil))) .nil))) .nil)))
(.cons (.set 17 (.call 41 (.cons (.var 9) (.cons (.var 4) .nil))))
(.cons (.for_ (.tp [18, 19]) (.zp (.var 9) (.var 17))
(.cons (.set 10 (.bin .add (.var 10) (.bif .len (.cons (.lc (.int 1) (.tp [21, 22]) (.zp (.var 18) (.var 19)) (.so (.and (.cons (.cmp .gt (.var 21) (.int 0)) (.cons (.cmp .eq (.var 22) (.int 1)) .nil)))) [21, 22]) .nil))))
.nil))
(.cons (.par [(8, false), (9, false)] (.cons (.call 41 (.cons (.var 8) (.cons (.int 0) .nil))) (.cons (.var 17) .nil)))
.nil)))) [some (.val .cup), some (.val (encP p)), some (.val (encA a)), some (.val (encC c)), some (.val (nI l)), some (.val (nI y)),
        some (.val (.lst ((List.range k).map fun t => nI (yldL c (iter (growA 0) t a))))), some (.val (.lst ((List.range k).map fun t => nI (yldL c (iter (limA l) t a))))),
        some (.val (encA (iter (growA 0) k a))), some (.val (encA (iter (limA l) k a))), some (.val (nI ((List.range k).map fun t => due l (iter (limA l) t a)).sum)),
        x11, none, none, none, none, none, x17, x18, x19, none, none, none, none] =
      ret (.nx [some (.val .cup), some (.val (encP p)), some (.val (encA a)), some (.val (encC c)), some (.val (nI l)), some (.val (nI y)),
        some (.val (.lst ((List.range (k + 1)).map fun t => nI (yldL c (iter (growA 0) t a))))), some (.val (.lst ((List.range (k + 1)).map fun t => nI (yldL c (iter (limA l) t a))))),
        some (.val (encA (iter (growA 0) (k + 1) a))), some (.val (encA (iter (limA l) (k + 1) a))), some (.val (nI ((List.range (k + 1)).map fun t => due l (iter (limA l) t a)).sum)),
        x11, none, none, none, none, none, some (.val (encA (limA l (iter (limA l) k a)))), x18', x19', none, none, none, none]) := by
  have gs1 := GS.iter (f := growA 0) (fun a g => by
    show GS p w (mapA (grow1 0) a)
    exact g.map fun x => by unfold grow1; by_cases c : x = 0 <;> simp [c]) k g.toGS
  have gs2 := GS.iter (f := limA l) (fun a g => g.lim) k g.toGS
  have gl := congrFun (grow_lim hl) (iter (limA l) k a)
  have l1 : addD (.lst ((List.range k).map fun t => nI (yldL c (iter (growA 0) t a)))) (.lst [nI (yldL c (iter (growA 0) k a))]) = some (.lst ((List.range (k + 1)).map fun t => nI (yldL c (iter (growA 0) t a)))) := by
    rw [x_addL (by simp; omega), List.range_succ, List.map_append]; rfl
  have l2 : addD (.lst ((List.range k).map fun t => nI (yldL c (iter (limA l) t a)))) (.lst [nI (yldL c (iter (limA l) k a))]) = some (.lst ((List.range (k + 1)).map fun t => nI (yldL c (iter (limA l) t a)))) := by
    rw [x_addL (by simp; omega), List.range_succ, List.map_append]; rfl
  generalize hX : iter (limA l) k a = X at *
  generalize hY : iter (growA 0) k a = Y at *
  have hX' : iter (limA l) (k + 1) a = limA l X := by rw [← hX]; rfl
  have hY' : iter (growA 0) (k + 1) a = growA 0 Y := by rw [← hY]; rfl
  have hS : ((List.range (k + 1)).map fun t => due l (iter (limA l) t a)).sum = ((List.range k).map fun t => due l (iter (limA l) t a)).sum + (X.map (newR l)).sum := by
    rw [List.range_succ, List.map_append, List.sum_append, new_due hl, ← hX]
    simp
  rw [hX', hY', hS]
  generalize ((List.range k).map fun t => due l (iter (limA l) t a)).sum = Sd
  generalize ((List.range k).map fun t => nI (yldL c (iter (growA 0) t a))) = A1 at *
  generalize ((List.range (k + 1)).map fun t => nI (yldL c (iter (growA 0) t a))) = A2 at *
  generalize ((List.range k).map fun t => nI (yldL c (iter (limA l) t a))) = B1 at *
  generalize ((List.range (k + 1)).map fun t => nI (yldL c (iter (limA l) t a))) = B2 at *
  have z1 : zipI (encA X) (encA (growA l X)) = some (X.map fun r => .tup [encR r, encR (r.map (grow1 l))]) := by
    unfold growA mapA
    rw [x_zipT, List.map_map]
    exact congrArg some (zipD_map encR (encR ∘ fun r => r.map (grow1 l)) X)
  have y1 := e_law_yield (n := m) (by omega) Y c
  have y2 := e_law_yield (n := m) (by omega) X c
  have g1 := e_grownA (n := m) (by omega) gs2 l
  have g2 : calls Pt cst m 41 [encA Y, .int 0] = ret (encA (growA 0 Y)) := e_grownA (n := m) (by omega) gs1 0
  refine ⟨lz encR X x18, lz (fun r => encR (r.map (grow1 l))) X x19, ?_⟩
  rw [gl] at g1 z1
  generalize hZ : limA l X = Z at *
  generalize hEX : encA X = eX at *
  generalize hEY : encA Y = eY at *
  generalize hEZ : encA Z = eZ at *
  generalize hEG : encA (growA 0 Y) = eG at *
  generalize hEA : encA a = eA at *
  generalize hEP : encP p = eP at *
  generalize hEC : encC c = eC at *
  simp [y1, y2, l1, l2, g1]
  refine bnd_for (fun r => .tup [encR r, encR (r.map (grow1 l))]) (fun pre ρ => ρ = [some (.val .cup), some (.val eP), some (.val eA), some (.val eC), some (.val (nI l)), some (.val (nI y)),
        some (.val (.lst A2)), some (.val (.lst B2)), some (.val eY), some (.val eX), some (.val (nI (Sd + (pre.map (newR l)).sum))),
        x11, none, none, none, none, none, some (.val eZ), lz encR pre x18, lz (fun r => encR (r.map (grow1 l))) pre x19, none, none, none, none]) X (by simp [z1]) (by simp) ?_ ?_
  · rintro pre r post ρ hL rfl
    refine ⟨[some (.val .cup), some (.val eP), some (.val eA), some (.val eC), some (.val (nI l)), some (.val (nI y)),
        some (.val (.lst A2)), some (.val (.lst B2)), some (.val eY), some (.val eX), some (.val (nI (Sd + ((pre ++ [r]).map (newR l)).sum))),
        x11, none, none, none, none, none, some (.val eZ), lz encR (pre ++ [r]) x18, lz (fun r => encR (r.map (grow1 l))) (pre ++ [r]) x19, none, none, none, none], ?_, rfl⟩
    have z2 : zipD (r.map nI) (r.map (nI ∘ grow1 l)) = r.map fun x => .tup [nI x, nI (grow1 l x)] := zipD_map nI (nI ∘ grow1 l) r
    simp [z2]
    rw [catM_filter _ (fun x => .tup [nI x, nI (grow1 l x)]) (fun _ => nI 1) (fun x => decide (0 < x) && (grow1 l x == 1)) r fun x hx => by
      by_cases c1 : 0 < x
      · by_cases c2 : grow1 l x = 1
        · simp [c1, c2]
        · have c3 : ¬ ((grow1 l x : Nat) : Int) = 1 := by omega
          simp [c1, c2, c3]
      · simp [c1]]
    simp [newR]
    try omega
  · rintro ρ' rfl
    simp [g2]
end QL
end

section
set_option Elab.async false
set_option linter.all false
set_option maxRecDepth 100000
set_option maxHeartbeats 2000000
namespace QL
open PL
theorem r61 : rng2 1 61 = ret ((List.range 60).map fun (k : Nat) => nI (1 + k)) := rng2_one (l := 60) (by decide)
theorem slc_c (c : Curve) (k : Nat) : slcD (encC c) none (some ((1 + k : Nat) : Int)) = some (.tup ((c.take (k + 1)).map nI)) := by
  show some (D.tup (cutL (c.map nI) none (some ((1 + k : Nat) : Int)))) = _
  congr 2
  unfold cutL sIx
  have h : ¬ ((1 + k : Nat) : Int) < 0 := by omega
  simp only [if_neg h]
  rw [List.map_take, List.drop_zero, List.length_map]
  have e : min (((1 + k : Nat) : Int).toNat) c.length - 0 = min (k + 1) c.length := by omega
  rw [e]
  by_cases q : k + 1 ≤ c.length
  · rw [Nat.min_eq_left q]
  · rw [Nat.min_eq_right (by omega), List.take_of_length_le (by simp), List.take_of_length_le (by simp; omega)]
theorem sum_c (l : List Nat) : bifD .sum [.tup (l.map nI)] = some (nI l.sum) := by
  have := sum_nI (fun x => x) l
  unfold bifD bif1 intsD
  have e := allInt_nI (fun x => x) l
  have e1 : allInt (l.map nI) = some (l.map fun x => ((x : Nat) : Int)) := e
  simp only [e1, Option.bind_some]
  rw [this]
  simp
theorem eq_nil {α : Type} (f : α → Nat) (l : List α) : eqD (.lst (l.map fun x => nI (f x))) (.lst []) = some l.isEmpty := by
  unfold eqD
  have h : dok 60 (.lst (l.map fun x => nI (f x))) = true := by
    simp only [dok, List.all_eq_true]
    intro x hx
    obtain ⟨a, _, rfl⟩ := List.mem_map.mp hx
    rfl
  rw [if_pos ⟨h, rfl⟩]
  cases l <;> rfl
theorem last_at (l : List D) (x : D) : atI (l ++ [x]) (-1) = some x := by
  unfold PL.atI PL.ixN
  rw [if_neg (by omega), if_pos (by simp; omega)]
  simp
  have e : ((-1 : Int) + ((l.length : Int) + 1)).toNat = l.length := by omega
  rw [e]
  simp
theorem first_at (l : List D) (x : D) : atI (x :: l) 0 = some x := atI_nat (i := 0) rfl
/-- the wholes -/
def whs (c : Curve) : List D := (List.range 60).map fun k => nI (S' c (k + 1))
theorem whs_at (c : Curve) {i : Nat} (h : i < 60) : atI (whs c) (i : Int) = some (nI (S' c (i + 1))) := by
  unfold whs
  have := atI_map (fun k => nI (S' c (k + 1))) (l := List.range 60) (i := i) 0 (by simpa using h)
  rw [this]
  have e : nth (List.range 60) i 0 = i := by
    have := nth_some (l := List.range 60) (i := i) (d := 0) (by simpa using h)
    rw [List.getElem?_range h] at this
    exact (Option.some.inj this).symm
  rw [e]
theorem all_filter {α : Type} (p : α → Bool) : ∀ l : List α, (l.filter p).isEmpty = l.all fun x => !(p x)
  | [] => rfl
  | a :: l => by
    rw [List.filter_cons, List.all_cons]
    by_cases c : p a = true
    · rw [if_pos c, c]; rfl
    · rw [if_neg c, all_filter p l]
      have : p a = false := by simpa using c
      rw [this]; rfl
theorem sub_one (t : Nat) : subD (nI (1 + t)) (.int 1) = some (nI t) := by
  show some (D.int (((1 + t : Nat) : Int) - 1)) = some (D.int (t : Int))
  congr 2
  omega
theorem mul_n {x y : Nat} (h : x ≤ 1000000) : mulD (nI x) (nI y) = some (nI (x * y)) := by
  have e : mulD (.int (x : Int)) (.int (y : Int)) = some (.int ((x : Int) * (y : Int))) := mulD_small (.inl (small_in (by omega) (by omega)))
  rw [e]
  congr 2
theorem mod_n (x : Nat) {y : Nat} (h : 0 < y) : modD (nI x) (nI y) = some (nI (x % y)) := by
  have e : modD (.int (x : Int)) (.int (y : Int)) = some (.int ((x : Int) % (y : Int))) := modD_pos (by omega)
  rw [e]
  congr 2
theorem div_n (x : Nat) {y : Nat} (h : 0 < y) (h2 : y ≤ 1000000) : fdivD (nI x) (nI y) = some (nI (x / y)) := by
  have e : fdivD (.int (x : Int)) (.int (y : Int)) = some (.int ((x : Int) / (y : Int))) := fdivD_pos (by omega) (by omega)
  rw [e]
  congr 2
theorem lt_n (x y : Nat) : ltD (nI x) (nI y) = some (decide (x < y)) := by
  show some (decide ((x : Int) < (y : Int))) = _
  congr 1
  exact decide_eq_decide.mpr (by omega)
theorem eq_0 (x : Nat) : eqD (nI x) (.int 0) = some (decide (x = 0)) := by
  show some ((x : Int) == 0) = _
  congr 1
  by_cases c : x = 0
  · subst c; rfl
  · have : ¬ (x : Int) = 0 := by omega
    rw [beq_eq_false_iff_ne.mpr this, decide_eq_false c]
end QL
end

section
set_option Elab.async false
set_option linter.all false
set_option maxRecDepth 100000
set_option maxHeartbeats 4000000
namespace QL
open PL
theorem ag1 : GA [[97]] 1 [[1]] := ⟨⟨⟨by decide, by decide, by decide, by decide, by decide, by decide⟩, rfl, by decide, fun i j hi hj => by
  have h1 : i = 0 := by simp at hi; omega
  have h2 : j = 0 := by omega
  subst h1 h2
  decide⟩, by decide⟩
theorem ok_nI {α : Type} (k : Nat) (f : α → Nat) (l : List α) (h : l.length ≤ 100000) : okSame (k + 1) (.tup (l.map fun t => nI (f t))) = true := by
  simp only [okSame, Bool.and_eq_true, decide_eq_true_eq, List.all_eq_true]
  refine ⟨by rw [List.length_map]; exact h, fun x hx => ?_⟩
  obtain ⟨t, _, rfl⟩ := List.mem_map.mp hx
  cases k <;> rfl
theorem ok_encA (k : Nat) (a : Ages) (h : a.length ≤ 1000) (hr : ∀ r ∈ a, r.length ≤ 1000) : okSame (k + 2) (encA a) = true := by
  simp only [okSame, Bool.and_eq_true, decide_eq_true_eq, List.all_eq_true]
  refine ⟨by rw [List.length_map]; omega, fun x hx => ?_⟩
  obtain ⟨r, hr2, rfl⟩ := List.mem_map.mp hx
  exact ok_nI k (fun x => x) r (by have := hr r hr2; omega)
/-- the first part of a turn -/
theorem e_right {n : Nat} (h : 20 ≤ n) : Dr (calls Pt cst n 29 [.cup]) fun d => d = .bl true := by
  obtain ⟨m, rfl, hm⟩ := depth_of h
  rw [calls_succ _ _ _ _ pt__law_right]
  simp [runF, ir__law_right, startE]
  refine Dr.bnd (e_plot (n := m) (most := 4) (kinds := [97, 98]) (by omega) (by decide) (by decide) (by decide) (by decide) (by decide)) ?_
  rintro _ ⟨p, w, rfl, gp⟩
  try simp
  refine Dr.bnd (e_some (n := m) (by omega) nI [5, 60] (by decide) (by decide)) ?_
  rintro _ ⟨most, hmost, rfl⟩
  have hm1 : 1 ≤ most ∧ most ≤ 60 := by simp at hmost; omega
  refine Dr.bnd (e_law_ages (n := m) (by omega) gp hm1.1 hm1.2) ?_
  rintro _ ⟨a, rfl, ga⟩
  try simp
  refine Dr.bnd (e_some (n := m) (by omega) nI [4, 60] (by decide) (by decide)) ?_
  rintro _ ⟨most2, hmost2, rfl⟩
  have hm2 : 1 ≤ most2 ∧ most2 ≤ 60 := by simp at hmost2; omega
  refine Dr.bnd (e_law_curve (n := m) (by omega) hm2.1 hm2.2) ?_
  rintro _ ⟨c, rfl, gc, _⟩
  try simp
  refine Dr.bnd (e_some (n := m) (by omega) nI [6, 60] (by decide) (by decide)) ?_
  rintro _ ⟨most3, hmost3, rfl⟩
  have hm3 : 1 ≤ most3 ∧ most3 ≤ 60 := by simp at hmost3; omega
  refine Dr.bnd (e_roll (n := m) (by omega) hm3.1 (by omega)) ?_
  rintro _ ⟨l0, rfl, hl0⟩
  try simp
  refine Dr.bnd (e_some (n := m) (by omega) nI [5, 40] (by decide) (by decide)) ?_
  rintro _ ⟨most4, hmost4, rfl⟩
  have hm4 : 1 ≤ most4 ∧ most4 ≤ 40 := by simp at hmost4; omega
  refine Dr.bnd (e_roll (n := m) (by omega) hm4.1 (by omega)) ?_
  rintro _ ⟨y, rfl, hy⟩
  have el : D.int (1 + (l0 : Int)) = nI (1 + l0) := by
    show D.int _ = D.int _
    congr 1
  rw [el]
  generalize hl : 1 + l0 = l
  have l1 : 1 ≤ l := by omega
  have l2 : l ≤ 60 := by omega
  try simp
  refine dr_forP nI (fun pre ρ => ∃ x11 x17 x18 x19, ρ = [some (.val .cup), some (.val (encP p)), some (.val (encA a)), some (.val (encC c)), some (.val (nI l)), some (.val (nI y)),
        some (.val (.lst ((List.range pre.length).map fun t => nI (yldL c (iter (growA 0) t a))))), some (.val (.lst ((List.range pre.length).map fun t => nI (yldL c (iter (limA l) t a))))),
        some (.val (encA (iter (growA 0) pre.length a))), some (.val (encA (iter (limA l) pre.length a))), some (.val (nI ((List.range pre.length).map fun t => due l (iter (limA l) t a)).sum)),
        x11, none, none, none, none, none, x17, x18, x19, none, none, none, none]) (List.range y) (by simp [rng1_nat (show y ≤ 100000 by omega)]) ⟨none, none, none, none, rfl⟩ ?_ ?_
  · rintro pre t post ρ hL ⟨x11, x17, x18, x19, rfl⟩
    have hk := len_pre hL
    rw [List.length_range] at hk
    obtain ⟨x18', x19', e⟩ := right_year (m := m) (by omega) ga (c := c) l y l1 (by omega) pre.length hk (some (.val (nI t))) x17 x18 x19
    have e3 : (pre ++ [t]).length = pre.length + 1 := by simp
    rw [e3]
    refine ⟨_, (show _ = _ from by rw [asg_nm, bnd_ret]; exact e), some (.val (nI t)), some (.val (encA (limA l (iter (limA l) pre.length a)))), x18', x19', rfl⟩
  · rintro ρ' ⟨x11, x17, x18, x19, rfl⟩
    rw [List.length_range]
    simp only [yld_eq, grow_older]
    have h46 := e_yield_of (n := m) (by omega) ga gc
    have h47 := e_yields_over (n := m) (by omega) ga gc (y := y) (by omega)
    have h49 := e_yields_by_limit (n := m) (by omega) ga gc l1 l2 (y := y) (by omega)
    have h48 := e_ages_by_limit (n := m) (by omega) ga l1 l2 (y := y) (by omega)
    have h50 := e_renewed_many (n := m) (by omega) ga l1 l2 (y := y) (by omega)
    have h53 := e_law_yield (n := m) (by omega) a c
    rw [yld_eq] at h53
    have gs := GS.iter (f := limA l) (fun a g => g.lim) y ga.toGS
    have s1 := e_same 2 (.tup [nI (yld c a), .tup ((List.range y).map fun t => nI (yld c (mapA (older1 t) a))), .tup ((List.range y).map fun t => nI (yld c (iter (limA l) t a)))]) (by
      have o1 := ok_nI 0 (fun t => yld c (mapA (older1 t) a)) (List.range y) (by simp; omega)
      have o2 := ok_nI 0 (fun t => yld c (iter (limA l) t a)) (List.range y) (by simp; omega)
      simp only [okSame, List.all_cons, List.all_nil, Bool.and_true, Bool.and_eq_true, decide_eq_true_eq] at o1 o2 ⊢
      exact ⟨by simp, trivial, o1, o2⟩) m (by omega)
    have s2 := e_same 3 (.tup [encA (iter (limA l) y a), nI ((List.range y).map fun t => due l (iter (limA l) t a)).sum]) (by
      have o1 := ok_encA 0 (iter (limA l) y a) gs.alen (fun r hr => by rw [gs.row r hr]; have := gs.gp.w2; omega)
      simp only [okSame, List.all_cons, List.all_nil, Bool.and_true, Bool.and_eq_true, decide_eq_true_eq] at o1 ⊢
      exact ⟨by simp, o1.1, o1.2⟩) m (by omega)
    simp [h46, h47, h49, h53, s1, h48, h50, s2]
    rw [r61]
    simp only [bnd_ret]
    rw [catM_map _ (fun k : Nat => nI (1 + k)) (fun k => nI (S' c (k + 1))) (List.range 60) fun k hk => by
      simp only [asIo_some, bnd_ret, slc_c, lift_some, sum_c, nr_ret]
      rfl]
    simp only [bnd_ret]
    rw [show (List.range 60).map (fun k => nI (S' c (k + 1))) = whs c from rfl]
    rw [catM_filter _ (fun k : Nat => nI (1 + k)) (fun k => nI (1 + k)) (bestT c) (List.range 60) fun i hi => by
      have hi := List.mem_range.mp hi
      rw [catM_filter _ (fun k : Nat => nI (1 + k)) (fun k => nI (1 + k)) (fun t => decide (S' c (i + 1) * (t + 1) < S' c (t + 1) * (i + 1))) (List.range 60) fun t ht => by
        have ht := List.mem_range.mp ht
        have q1 := S_le gc (t + 1)
        have q2 := S_le gc (i + 1)
        simp only [sub_one, lift_some, bnd_ret, x_ixL, whs_at c ht, whs_at c hi, mul_n (show S' c (t + 1) ≤ 1000000 by omega), mul_n (show S' c (i + 1) ≤ 1000000 by omega), lt_n, nr_ret]
        rw [Nat.add_comm 1 i, Nat.add_comm 1 t]
        by_cases z : S' c (i + 1) * (t + 1) < S' c (t + 1) * (i + 1)
        · simp [z]
        · simp [z]]
      have e := eq_nil (fun k : Nat => 1 + k) ((List.range 60).filter fun t => decide (S' c (i + 1) * (t + 1) < S' c (t + 1) * (i + 1)))
      simp only [bnd_ret, e, lift_some, all_filter]
      rw [show (List.range 60).all (fun t => !(decide (S' c (i + 1) * (t + 1) < S' c (t + 1) * (i + 1)))) = bestT c i from rfl]
      by_cases z : bestT c i = true
      · simp [z]
      · simp [z]]
    obtain ⟨r1, hr1⟩ := best_law gc
    have bl := bst_le gc c.length (Nat.le_refl _)
    have ebl : 1 + ((bst c c.length).1 - 1) = (bst c c.length).1 := by omega
    rw [hr1, List.map_cons, ebl]
    have ewl : atI (whs c) ((l : Int) - 1) = some (nI (S' c l)) := by
      have := whs_at c (i := l - 1) (by omega)
      rw [show ((l - 1 : Nat) : Int) = (l : Int) - 1 by omega, show l - 1 + 1 = l by omega] at this
      exact this
    simp only [bnd_ret, first_at, lift_some, ewl]
    rw [rng2_one (show l ≤ 10000 by omega)]
    simp only [bnd_ret]
    rw [catM_filter _ (fun k : Nat => nI (1 + k)) (fun k => nI (1 + k)) (fun i => decide (l % (i + 1) = 0) && decide (S' c l % (i + 1) = 0)) (List.range l) fun i hi => by
      simp only [Nat.add_comm 1 i, mod_n l (show 0 < i + 1 by omega), mod_n (S' c l) (show 0 < i + 1 by omega), lift_some, bnd_ret, eq_0]
      by_cases z : l % (i + 1) = 0
      · by_cases z2 : S' c l % (i + 1) = 0
        · simp [z, z2]
        · simp [z, z2]
      · simp [z]]
    obtain ⟨r2, hr2⟩ := share_law (x := S' c l) l1
    have gp' : 0 < Nat.gcd (S' c l) l := Nat.gcd_pos_of_pos_right _ (by omega)
    have gl' : Nat.gcd (S' c l) l ≤ l := Nat.gcd_le_right _ (by omega)
    have eg : 1 + (Nat.gcd (S' c l) l - 1) = Nat.gcd (S' c l) l := by omega
    rw [hr2, List.map_append, List.map_cons, List.map_nil, eg]
    have h52 := e_best_limit (n := m) (by omega) gc
    have h51 := e_mean_yield (n := m) (by omega) gc l1 l2
    rw [W_S] at h51
    simp only [bnd_ret, last_at, lift_some, h52, h51, div_n (S' c l) gp' (by omega), div_n l gp' (by omega)]
    have s3 := e_same 2 (.tup [nI (bst c c.length).1, .tup [nI (S' c l / Nat.gcd (S' c l) l), nI (l / Nat.gcd (S' c l) l)]]) (by simp [okSame]) m (by omega)
    rw [s3]
    exact Dr.ret rfl
end QL
end

section
set_option Elab.async false
set_option linter.all false
set_option maxRecDepth 100000
set_option maxHeartbeats 4000000
namespace QL
open PL
theorem cup_law (cell : Int) (h : 0 ≤ cell) : ∃ x y, CupV x y ∧ ∀ s, evE ⟨calls Pt cst depth, cst⟩ ir_cup [none, some (.val (.int cell))] s = .ok (.lst [.int x, .int y]) s := by
  have pw : powD (.int 10) (.int 18) = some (.int 1000000000000000000) := rfl
  have s2 : small 383 = true := by decide
  have m1 := Int.emod_nonneg (cell * 383 + 4003) (show (2077502087 : Int) ≠ 0 by omega)
  have m2 := Int.emod_lt_of_pos (cell * 383 + 4003) (show (0 : Int) < 2077502087 by omega)
  have md : modD (.int (cell * 383 + 4003)) (.int 2077502087) = some (.int ((cell * 383 + 4003) % 2077502087)) := modD_pos (by omega)
  have fd : fdivD (.int cell) (.int 137) = some (.int (cell / 137)) := fdivD_pos (by omega) (by omega)
  by_cases c : (1000000000000000000 : Int) ≤ cell
  · refine ⟨cell / 137, (cell * 383 + 4003) % 2077502087 + 257, ⟨by omega, by omega, by omega⟩, fun s => ?_⟩
    simp [ir_cup, pw, mulD_small (.inr s2), md, fd, c]
  · refine ⟨0, (cell * 383 + 4003) % 2077502087 + 257, ⟨by omega, by omega, by omega⟩, fun s => ?_⟩
    simp [ir_cup, pw, mulD_small (.inr s2), md, c]
theorem iter_one {l : Nat} (h : 1 ≤ l) : ∀ t, iter (limA l) t [[1]] = [[t % l + 1]]
  | 0 => by simp [iter]
  | t + 1 => by
    show limA l (iter (limA l) t [[1]]) = _
    rw [iter_one h t]
    show [[lim1 l (t % l + 1)]] = _
    congr 2
    have hm := Nat.mod_lt t (show 0 < l by omega)
    unfold lim1
    rw [if_neg (by omega)]
    by_cases c : l ≤ t % l + 1
    · rw [if_pos c]
      have e : (t + 1) % l = 0 := by
        rw [Nat.add_mod]
        by_cases l1 : l = 1
        · subst l1; omega
        · rw [Nat.mod_eq_of_lt (show 1 < l by omega)]
          have : t % l + 1 = l := by omega
          rw [this, Nat.mod_self]
      rw [e]
    · rw [if_neg c]
      have e : (t + 1) % l = t % l + 1 := by
        rw [Nat.add_mod, Nat.mod_eq_of_lt (show 1 < l by omega), Nat.mod_eq_of_lt (by omega)]
      rw [e]
theorem yld_one (c : Curve) {x : Nat} (h : x < c.length) : yld c [[x + 1]] = nth c x 0 := by
  unfold yld live
  simp [pnd, show x + 1 ≤ c.length by omega]
theorem due_one (l x : Nat) : due l [[x + 1]] = if l ≤ x + 1 then 1 else 0 := by
  unfold due live
  by_cases c : l ≤ x + 1 <;> simp [c]
theorem due_sum {l : Nat} (h : 1 ≤ l) : ∀ y, ((List.range y).map fun t => due l [[t % l + 1]]).sum = y / l
  | 0 => by simp
  | y + 1 => by
    rw [List.range_succ, List.map_append, List.sum_append, due_sum h y, List.map_cons, List.map_nil, List.sum_cons, List.sum_nil, due_one]
    have hd := Nat.div_add_mod y l
    have hm := Nat.mod_lt y (show 0 < l by omega)
    by_cases c : l ≤ y % l + 1
    · rw [if_pos c]
      have e : y + 1 = l * (y / l + 1) := by rw [Nat.mul_add]; omega
      rw [e, Nat.mul_div_cancel_left _ (show 0 < l by omega)]
      rfl
    · rw [if_neg c]
      have e : y + 1 = l * (y / l) + (y % l + 1) := by omega
      have e3 : (l * (y / l) + (y % l + 1)) / l = y / l := by
        rw [Nat.mul_add_div (show 0 < l by omega), Nat.div_eq_of_lt (show y % l + 1 < l by omega)]
        omega
      rw [e, e3]
      rfl
theorem law_law : ∀ x y, CupV x y → ∃ s', evCs ⟨calls Pt cst (depth + 1), cst⟩ ir_law (cupEnv 8) ⟨some (x, y)⟩ = .ok (.rt (.bl true)) s' := by
  intro x y cv
  have key : Dr (evCs ⟨calls Pt cst (depth + 1), cst⟩ ir_law (cupEnv 8)) fun f => f = .rt (.bl true) := by
    have hd : depth + 1 = 25 := rfl
    rw [hd]
    simp [ir_law, cupEnv]
    refine dr_for nI (fun pre ρ => ∃ t, ρ = [none, some (.val .cup), t, none, none, none, none, none]) (List.range 4) (by rw [ev_ir1]; simp; exact rng1_nat (n := 4) (by decide)) ⟨none, rfl⟩ ?_ ?_
    · rintro pre t post ρ hL ⟨z, rfl⟩
      simp
      refine Dr.bnd (e_right (n := 25) (by decide)) ?_
      rintro _ rfl
      simp
      exact Dr.ret ⟨_, rfl, some (.val (nI t)), rfl⟩
    · rintro ρ' ⟨z, rfl⟩
      simp
      refine Dr.bnd (e_law_curve (n := 25) (most := 20) (by decide) (by decide) (by decide)) ?_
      rintro _ ⟨c, rfl, gc, hc⟩
      simp
      refine Dr.bnd (e_roll (n := 25) (k := 201) (by decide) (by decide) (by decide)) ?_
      rintro _ ⟨yr, rfl, hyr⟩
      have l1 := gc.h1
      have l2 := gc.h2
      have h49 : calls Pt cst 25 49 [.tup [.str [97]], .tup [.tup [.int 1]], encC c, nI c.length, nI yr] = _ := e_yields_by_limit (n := 25) (by decide) ag1 gc l1 l2 (y := yr) (by omega)
      have h50 : calls Pt cst 25 50 [.tup [.str [97]], .tup [.tup [.int 1]], nI c.length, nI yr] = _ := e_renewed_many (n := 25) (by decide) ag1 l1 l2 (y := yr) (by omega)
      have eY : (List.range yr).map (fun t => nI (yld c (iter (limA c.length) t [[1]]))) = (List.range yr).map fun t => nI (nth c (t % c.length) 0) := List.map_congr_left fun t _ => by
        rw [iter_one l1, yld_one c (Nat.mod_lt _ (by omega))]
      have eD : ((List.range yr).map fun t => due c.length (iter (limA c.length) t [[1]])).sum = yr / c.length := by
        rw [← due_sum l1 yr]
        congr 1
        exact List.map_congr_left fun t _ => by rw [iter_one l1]
      rw [eY] at h49
      rw [eD] at h50
      have s1 := e_same 2 (.tup [.tup ((List.range yr).map fun t => nI (nth c (t % c.length) 0)), nI (yr / c.length)]) (by
        have o1 := ok_nI 0 (fun t => nth c (t % c.length) 0) (List.range yr) (by simp; omega)
        simp only [okSame, List.all_cons, List.all_nil, Bool.and_true, Bool.and_eq_true, decide_eq_true_eq] at o1 ⊢
        exact ⟨by simp, o1⟩) 25 (by decide)
      simp [h49, h50, rng1_nat (show yr ≤ 100000 by omega)]
      rw [catM_map _ nI (fun t => nI (nth c (t % c.length) 0)) (List.range yr) fun t ht => by
        simp only [mod_n t (show 0 < c.length by omega), lift_some, bnd_ret, x_ixT, atI_map nI 0 (Nat.mod_lt t (show 0 < c.length by omega)), nr_ret]]
      simp [div_n yr (show 0 < c.length by omega) (by omega), s1]
      exact Dr.ret rfl
  obtain ⟨f, s', e, _, rfl⟩ := key ⟨some (x, y)⟩ ⟨x, y, rfl, cv⟩
  exact ⟨s', e⟩
theorem lawOk : LawOk := ⟨cup_law, law_law⟩
end QL
theorem PySem.Challenge.cw_orchardrows_k52_whole_yields_holds : PySem.Challenge.rw_orchardrows_k52_whole_yields.Holds := by
  exact QL.holds_of QL.lawOk
end

