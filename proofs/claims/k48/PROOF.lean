import PyProof.Rows.All
import Wide.All
import OpenK.AllK
import Wide.FinOn
import KE.KStateDown
import Lean
import PyProof.ReprReads
import PyProof.EqLayable
import PyProof.TupleKey
import PyProof.EqAt
import KE.KDictPairs
import HandS.ForMost
import HandS.TupLen
import HandS.TupAny
import HandS.TupMul
import HandS.Style
import HandS.Deep
import HandS.IsInst
import HandS.SortRule
import HandS.SortInts
import HandS.Conv
import HandS.More
import HandS.RaiseMore
import PyProof.ReprRoads
import HandS.SetFor
import HandS.Walk
import KE.GoesMore
import KE.KDictLaws
import HandS.Head0
import HandS.Head1
import HandS.Head2
import HandS.HeadEnd
import HandS.HeadHook1
import HandS.HeadHook2
import PySem.Challenge.RW_touchingtiles_k48_pieces_counted
set_option linter.all false
/-! Ev0: a small language of Python's forms over pure data, and its evaluator. Lists and dicts are values; the random source is one global state. -/
namespace Ev
open PySem

abbrev D := PyData
abbrev Slots := List (Option D)

/-- the law's random source -/
structure Src where
  cells : List Int := []
  left : Int := 1
  mixed : Int := 0
  turn : Int := 0

structure Ste where
  sl : Slots
  src : Src

abbrev Calls := String → List D → Src → Option (D × Src)

/-- the most items that a list may have -/
def lim : Nat := 16777216

inductive Bop where | add | sub | mul | fdiv | mod | pow
  deriving DecidableEq
inductive Cop where | eq | ne | lt | le | gt | ge | is | isNot | inn | notIn
  deriving DecidableEq
inductive Bi where
  | len | abs | min2 | max2 | minL | maxL | sum | all | any | sorted | tuple | list | dict | int | repr | str | gcd | isInt | isBool | isTuple | isStr | isList
  | index | count | get1 | get2
  deriving DecidableEq

/-! ### operations -/
def isInts : List D → Option (List Int)
  | [] => some []
  | .int i :: r => (isInts r).map (i :: ·)
  | _ :: _ => none
def isBls : List D → Option (List Bool)
  | [] => some []
  | .bool i :: r => (isBls r).map (i :: ·)
  | _ :: _ => none

def addD : D → D → Option D
  | .int a, .int b => some (.int (a + b))
  | .str a, .str b => if a.length + b.length ≤ lim then some (.str (a ++ b)) else none
  | .list a, .list b => if a.length + b.length ≤ lim then some (.list (a ++ b)) else none
  | .tuple a, .tuple b => if a.length + b.length ≤ lim then some (.tuple (a ++ b)) else none
  | _, _ => none
def subD : D → D → Option D
  | .int a, .int b => some (.int (a - b))
  | _, _ => none
def mulD : D → D → Option D
  | .int a, .int b => if a.natAbs < 18446744073709551616 ∨ b.natAbs < 18446744073709551616 then some (.int (a * b)) else none
  | .list a, .int k => if a.length * k.toNat ≤ lim ∧ k.natAbs < 4611686018427387904 then some (.list (List.replicate k.toNat a).flatten) else none
  | .tuple a, .int k => if a.length ≤ 1000 ∧ -1000 ≤ k ∧ k ≤ 1000 then some (.tuple (List.replicate k.toNat a).flatten) else none
  | _, _ => none
def fdivD : D → D → Option D
  | .int a, .int b => if b ≠ 0 ∧ b.natAbs < 1073741824 then some (.int (a.fdiv b)) else none
  | _, _ => none
def modD : D → D → Option D
  | .int a, .int b => if b ≠ 0 then some (.int (a.fmod b)) else none
  | _, _ => none
def powD : D → D → Option D
  | .int a, .int b => if 0 ≤ b ∧ b ≤ 1000000 ∧ a.natAbs < 18446744073709551616 then some (.int (a ^ b.toNat)) else none
  | _, _ => none
def binD : Bop → D → D → Option D
  | .add => addD
  | .sub => subD
  | .mul => mulD
  | .fdiv => fdivD
  | .mod => modD
  | .pow => powD

/-- keys of dicts: ints and texts; or tuples of such, nested -/
def flatK : D → Bool
  | .int _ | .str _ => true
  | _ => false
def deepK : Nat → D → Bool
  | _, .int _ => true
  | _, .str x => PyData.strOk x
  | n + 1, .tuple xs => xs.all (deepK n)
  | _, _ => false
def tupK : D → Bool
  | .tuple xs => xs.all (deepK 7)
  | _ => false

def dget : List (D × D) → D → Option D
  | [], _ => none
  | (k, v) :: r, x => if PyData.eqv k x then some v else dget r x
def dset : List (D × D) → D → D → List (D × D)
  | [], x, y => [(x, y)]
  | (k, v) :: r, x, y => if PyData.eqv k x then (k, y) :: r else (k, v) :: dset r x y
/-- a key fits a dict: all its keys are of one sort -/
def okK (kvs : List (D × D)) (k : D) : Bool := (flatK k && kvs.all fun p => flatK p.1) || (tupK k && kvs.all fun p => tupK p.1)
def dsetAll : List (D × D) → List (D × D) → Option (List (D × D))
  | kvs, [] => some kvs
  | kvs, (k, v) :: r => if okK kvs k then dsetAll (dset kvs k v) r else none

def shapedEq (a b : D) : Option Bool := if SeqAt.shaped a && SeqAt.shaped b then some (PyData.eqv a b) else none

def eqD : D → D → Option Bool
  | .int a, .int b => some (a == b)
  | .bool a, .bool b => some (a == b)
  | .str a, .str b => some (a == b)
  | .none, .none => some true
  | a, b => shapedEq a b

def inD (x : D) : D → Option Bool
  | .list ds => if SeqAt.shaped x && SeqAt.shaped (.list ds) then some (ds.any fun z => PyData.eqv z x) else none
  | .tuple ds => if SeqAt.shaped x && SeqAt.shaped (.tuple ds) then some (ds.any fun z => PyData.eqv z x) else none
  | .dict kvs => if okK kvs x then some (dget kvs x).isSome else none
  | _ => none

def isNoneD : D → Bool
  | .none => true
  | _ => false
def isD : D → D → Option Bool
  | a, .none => some (isNoneD a)
  | .bool a, .bool b => some (a == b)
  | .none, .bool _ => some false
  | _, _ => none

def ltD : D → D → Option Bool
  | .int a, .int b => some (decide (a < b))
  | _, _ => none
def leD : D → D → Option Bool
  | .int a, .int b => some (decide (a ≤ b))
  | _, _ => none
def gtD : D → D → Option Bool
  | .int a, .int b => some (decide (b < a))
  | _, _ => none
def geD : D → D → Option Bool
  | .int a, .int b => some (decide (b ≤ a))
  | _, _ => none
def cmpD : Cop → D → D → Option Bool
  | .eq, a, b => eqD a b
  | .ne, a, b => (eqD a b).map not
  | .lt, a, b => ltD a b
  | .le, a, b => leD a b
  | .gt, a, b => gtD a b
  | .ge, a, b => geD a b
  | .is, a, b => isD a b
  | .isNot, a, b => (isD a b).map not
  | .inn, a, b => inD a b
  | .notIn, a, b => (inD a b).map not

/-- items of a thing that is walked -/
def itemsD : D → Option (List D)
  | .list xs => some xs
  | .tuple xs => some xs
  | .dict kvs => some (kvs.map (·.1))
  | _ => none

/-- what a loop walks -/
def seqD : D → Option (List D)
  | .list xs => some xs
  | .tuple xs => some xs
  | _ => none

/-! order: ints, pairs of ints -/
def lotKeys : List D → Option (List (Int × Int))
  | [] => some []
  | .tuple [.int i, .int j] :: r => (lotKeys r).map ((i, j) :: ·)
  | _ :: _ => none
def pairD (p : Int × Int) : D := .tuple [.int p.1, .int p.2]
def insI (x : Int) : List Int → List Int
  | [] => [x]
  | y :: ys => if x ≤ y then x :: y :: ys else y :: insI x ys
def sortI : List Int → List Int
  | [] => []
  | x :: xs => insI x (sortI xs)
def leP (p q : Int × Int) : Bool := decide (p.1 < q.1) || (p.1 == q.1 && decide (p.2 ≤ q.2))
def insP (x : Int × Int) : List (Int × Int) → List (Int × Int)
  | [] => [x]
  | y :: ys => if leP x y then x :: y :: ys else y :: insP x ys
def sortP : List (Int × Int) → List (Int × Int)
  | [] => []
  | x :: xs => insP x (sortP xs)
def sortD (ds : List D) : Option (List D) := match isInts ds with
  | some ns => some ((sortI ns).map .int)
  | none => match lotKeys ds with
    | some ps => some ((sortP ps).map pairD)
    | none => none

/-- the place of an index, below 0 from the end -/
def ixD (n : Nat) (i : Int) : Option Nat := if 0 ≤ i then (if i < n then some i.toNat else none) else if -(n : Int) ≤ i then some (i + n).toNat else none
def atD : D → D → Option D
  | .list xs, .int i => (ixD xs.length i).bind fun j => xs[j]?
  | .tuple xs, .int i => (ixD xs.length i).bind fun j => xs[j]?
  | .dict kvs, k => if okK kvs k then dget kvs k else none
  | _, _ => none

/-- a bound of a slice -/
def sIxD (n d : Nat) : Option Int → Nat
  | none => d
  | some v => if v < 0 then (v + (n : Int)).toNat else min v.toNat n
def cutD (xs : List D) (lo hi : Option Int) : List D := (xs.drop (sIxD xs.length 0 lo)).take (sIxD xs.length xs.length hi - sIxD xs.length 0 lo)
def slcD : D → Option Int → Option Int → Option D
  | .list xs, lo, hi => some (.list (cutD xs lo hi))
  | .tuple xs, lo, hi => some (.tuple (cutD xs lo hi))
  | _, _, _ => none
/-- a slice by its written parts -/
def slcV : Bool → Bool → List D → Option D
  | false, false, [x] => slcD x none none
  | true, false, [x, .int l] => slcD x (some l) none
  | false, true, [x, .int h] => slcD x none (some h)
  | true, true, [x, .int l, .int h] => slcD x (some l) (some h)
  | _, _, _ => none
def revD : D → Option D
  | .list xs => some (.list xs.reverse)
  | .tuple xs => some (.tuple xs.reverse)
  | _ => none

def pairsD : List D → Option (List (D × D))
  | [] => some []
  | .tuple [k, v] :: r => (pairsD r).map ((k, v) :: ·)
  | _ :: _ => none

def indexD : List D → D → Nat → Option D
  | [], _, _ => none
  | z :: r, x, n => if PyData.eqv z x then some (.int n) else indexD r x (n + 1)

def lenB : List D → Option D
  | [.list xs] => some (.int xs.length)
  | [.tuple xs] => some (.int xs.length)
  | [.dict xs] => if (xs.all fun p => flatK p.1) || (xs.all fun p => tupK p.1) then some (.int xs.length) else none
  | _ => none
def absB : List D → Option D
  | [.int i] => some (.int (if i < 0 then -i else i))
  | _ => none
def max2B : List D → Option D
  | [.int i, .int j] => some (.int (if j > i then j else i))
  | _ => none
def min2B : List D → Option D
  | [.int i, .int j] => some (.int (if j < i then j else i))
  | _ => none
def sumB : List D → Option D
  | [.list xs] => (isInts xs).map fun ns => .int ns.sum
  | _ => none
def allB : List D → Option D
  | [.list xs] => (isBls xs).map fun bs => .bool (bs.all id)
  | _ => none
def anyB : List D → Option D
  | [.list xs] => (isBls xs).map fun bs => .bool (bs.any id)
  | _ => none
def sortedB : List D → Option D
  | [d] => (itemsD d).bind fun xs => (sortD xs).map .list
  | _ => none
def tupleB : List D → Option D
  | [.list xs] => some (.tuple xs)
  | [.tuple xs] => some (.tuple xs)
  | _ => none
def listB : List D → Option D
  | [d] => (itemsD d).map .list
  | _ => none
def dictB : List D → Option D
  | [.list xs] => (pairsD xs).bind fun ps => (dsetAll [] ps).map .dict
  | [.tuple xs] => (pairsD xs).bind fun ps => (dsetAll [] ps).map .dict
  | _ => none
def intB : List D → Option D
  | [.int i] => some (.int i)
  | [.bool b] => some (.int (if b then 1 else 0))
  | _ => none
def reprB : List D → Option D
  | [d] => if d.showable && !d.hasDict && SeqAt.shaped d && decide (d.shown.length ≤ lim) then some (.str d.shown) else none
  | _ => none
/-- isinstance; of dicts it is not asked -/
def isB (p : D → Bool) : List D → Option D
  | [.dict _] => none
  | [d] => some (.bool (p d))
  | _ => none
def isIntB : List D → Option D := isB fun | .int _ => true | .bool _ => true | _ => false
def isBoolB : List D → Option D := isB fun | .bool _ => true | _ => false
def isTupleB : List D → Option D := isB fun | .tuple _ => true | _ => false
def isStrB : List D → Option D := isB fun | .str _ => true | _ => false
def isListB : List D → Option D := isB fun | .list _ => true | _ => false
def indexB : List D → Option D
  | [.list ds, x] => if SeqAt.shaped (.list ds) && SeqAt.shaped x then indexD ds x 0 else none
  | _ => none
def get1B : List D → Option D
  | [.dict kvs, k] => if okK kvs k then some ((dget kvs k).getD .none) else none
  | _ => none
def get2B : List D → Option D
  | [.dict kvs, k, d] => if okK kvs k then some ((dget kvs k).getD d) else none
  | _ => none
def biD : Bi → List D → Option D
  | .len => lenB
  | .abs => absB
  | .max2 => max2B
  | .min2 => min2B
  | .sum => sumB
  | .all => allB
  | .any => anyB
  | .sorted => sortedB
  | .tuple => tupleB
  | .list => listB
  | .dict => dictB
  | .int => intB
  | .repr => reprB
  | .isInt => isIntB
  | .isBool => isBoolB
  | .isTuple => isTupleB
  | .isStr => isStrB
  | .isList => isListB
  | .index => indexB
  | .get1 => get1B
  | .get2 => get2B
  | _ => fun _ => none

/-- the sort of a thing, for a borrowed name -/
def tyD : D → Nat
  | .list _ => 1
  | .tuple _ => 2
  | .dict _ => 3
  | .str _ => 4
  | .int _ => 5
  | _ => 0

/-! ### the language -/
inductive Tgt where
  | nm (i : Nat)
  | tup (ts : List Tgt)

inductive E where
  | var (i : Nat) | bv (i : Nat)
  | int (i : Int) | bl (b : Bool) | non | str (s : String)
  | bin (o : Bop) (es : List E) | neg (a : E)
  | cmp (o : Cop) (es : List E) | chain (o o' : Cop) (es : List E) (c : E)
  | and (es : List E) | or (es : List E) | not (a : E)
  | ite (t a b : E)
  | tup (es : List E) | lst (es : List E) | dic
  | idx (es : List E) | slc (lo hi : Bool) (es : List E) | rev (es : List E)
  | comp (own : List Nat) (t : Tgt) (it : E) (cond : List E) (elt : E)
  | call (f : String) (src : Option Nat) (es : List E)
  | bi (f : Bi) (es : List E)
  | pop (i : Nat) | popAt (i : Nat) (e : E) | setd (i : Nat) (es : List E)
  | enum (es : List E) | zip (es : List E) | rng1 (a : E) | rng2 (es : List E) | items (es : List E)

inductive S where
  | asg (t : Tgt) (e : E)
  | par (is : List Nat) (es : List E)
  | aug (i : Nat) (o : Bop) (e : E)
  | setI (i : Nat) (k e : E)
  | augI (i : Nat) (o : Bop) (k e : E)
  | app (i : Nat) (e : E)
  | ext (i : Nat) (e : E)
  | upd (i : Nat) (e : E)
  | ite (t : E) (a b : List S)
  | whil (hd ex : List Nat) (t : E) (b : List S)
  | forr (hd ex : List Nat) (t : Tgt) (it : E) (b : List S)
  | ret (e : E)
  | brk | cont
  | mkSrc (i : Nat) (e : E)

/-! ### slots -/
def getS (sl : Slots) (i : Nat) : Option D := (sl[i]?).bind id
def wipe (sl : Slots) : List Nat → Slots
  | [] => sl
  | v :: vs => (wipe sl vs).set v none
/-- slots of a block's own names as they were ahead of it -/
def restore (orig cur : Slots) : List Nat → Slots
  | [] => cur
  | v :: vs => (restore orig cur vs).set v (getS orig v)
mutual
def asgT : Tgt → D → Slots → Option Slots
  | .nm i, d, sl => some (sl.set i (some d))
  | .tup ts, .tuple ds, sl => asgTs ts ds sl
  | .tup _, _, _ => none
def asgTs : List Tgt → List D → Slots → Option Slots
  | [], [], sl => some sl
  | t :: ts, d :: ds, sl => (asgT t d sl).bind (asgTs ts ds)
  | _, _, _ => none
end
def setAll : List Nat → List D → Slots → Option Slots
  | [], [], sl => some sl
  | i :: is, d :: ds, sl => setAll is ds (sl.set i (some d))
  | _, _, _ => none

/-! ### the evaluator -/
abbrev R (α : Type) := Ste → Option (α × Ste)
def boolR (r : Option (D × Ste)) : Option (Bool × Ste) := match r with
  | some (.bool b, ρ) => some (b, ρ)
  | _ => none
/-- a comprehension's turns: c the test, f the element; from wiped slots at each turn -/
def compL (own : List Nat) (t : Tgt) (c : R D) (f : R D) : List D → Ste → Option (List D × Ste)
  | [], ρ => some ([], ρ)
  | x :: xs, ρ => match asgT t x ρ.sl with
    | none => none
    | some sl => match boolR (c { ρ with sl := sl }) with
      | none => none
      | some (false, ρ1) => compL own t c f xs { ρ1 with sl := wipe ρ1.sl own }
      | some (true, ρ1) => match f ρ1 with
        | none => none
        | some (d, ρ2) => match compL own t c f xs { ρ2 with sl := wipe ρ2.sl own } with
          | none => none
          | some (ds, ρ3) => if ds.length < lim then some (d :: ds, ρ3) else none

def zipD : List D → List D → List D
  | x :: xs, y :: ys => .tuple [x, y] :: zipD xs ys
  | _, _ => []
def enumD : Nat → List D → List D
  | _, [] => []
  | n, x :: xs => .tuple [.int n, x] :: enumD (n + 1) xs
def rngD (lo : Int) : Nat → List D
  | 0 => []
  | n + 1 => .int lo :: rngD (lo + 1) n

mutual
def evE (Γ : Calls) : E → R D
  | .var i => fun ρ => (getS ρ.sl i).map (·, ρ)
  | .bv i => fun ρ => (getS ρ.sl i).map (·, ρ)
  | .int i => fun ρ => some (.int i, ρ)
  | .bl b => fun ρ => some (.bool b, ρ)
  | .non => fun ρ => some (.none, ρ)
  | .str s => fun ρ => some (.str s, ρ)
  | .bin o es => fun ρ => (evV Γ es ρ).bind fun (ds, ρ') => match ds with
    | [x, y] => (binD o x y).map (·, ρ')
    | _ => none
  | .neg a => fun ρ => (evE Γ a ρ).bind fun (d, ρ') => match d with
    | .int i => some (.int (-i), ρ')
    | _ => none
  | .cmp o es => fun ρ => (evV Γ es ρ).bind fun (ds, ρ') => match ds with
    | [x, y] => (cmpD o x y).map (.bool ·, ρ')
    | _ => none
  | .chain o o' es c => fun ρ => (evV Γ es ρ).bind fun (ds, ρ') => match ds with
    | [x, y] => match cmpD o x y with
      | some true => (evE Γ c ρ').bind fun (z, ρ'') => (cmpD o' y z).map (.bool ·, ρ'')
      | some false => some (.bool false, ρ')
      | none => none
    | _ => none
  | .and es => evAnd Γ es
  | .or es => evOr Γ es
  | .not a => fun ρ => (boolR (evE Γ a ρ)).map fun (b, ρ') => (.bool (!b), ρ')
  | .ite t a b => fun ρ => (boolR (evE Γ t ρ)).bind fun (c, ρ') => if c then evE Γ a ρ' else evE Γ b ρ'
  | .tup es => fun ρ => (evV Γ es ρ).bind fun (ds, ρ') => some (.tuple ds, ρ')
  | .lst es => fun ρ => (evV Γ es ρ).bind fun (ds, ρ') => some (.list ds, ρ')
  | .dic => fun ρ => some (.dict [], ρ)
  | .idx es => fun ρ => (evV Γ es ρ).bind fun (ds, ρ') => match ds with
    | [x, y] => (atD x y).map (·, ρ')
    | _ => none
  | .slc lo hi es => fun ρ => (evV Γ es ρ).bind fun (ds, ρ') => (slcV lo hi ds).map (·, ρ')
  | .rev es => fun ρ => (evV Γ es ρ).bind fun (ds, ρ') => match ds with
    | [x] => (revD x).map (·, ρ')
    | _ => none
  | .comp own t it cond elt => fun ρ => (evE Γ it ρ).bind fun (d, ρ1) => (seqD d).bind fun xs =>
      (compL own t (evAnd Γ cond) (evE Γ elt) xs { ρ1 with sl := wipe ρ1.sl own }).map fun (ds, ρ2) => (.list ds, { ρ2 with sl := restore ρ1.sl ρ2.sl own })
  | .call f none es => fun ρ => (evV Γ es ρ).bind fun (ds, ρ') => (Γ f ds {}).map fun (d, _) => (d, ρ')
  | .call f (some i) es => fun ρ => (getS ρ.sl i).bind fun _ => (evV Γ es ρ).bind fun (ds, ρ') => (Γ f ds ρ'.src).map fun (d, s) => (d, { ρ' with src := s })
  | .bi f es => fun ρ => (evV Γ es ρ).bind fun (ds, ρ') => (biD f ds).map (·, ρ')
  | .pop i => fun ρ => match getS ρ.sl i with
    | some (.list xs) => xs.getLast?.map fun x => (x, { ρ with sl := ρ.sl.set i (some (.list xs.dropLast)) })
    | _ => none
  | .popAt i e => fun ρ => (getS ρ.sl i).bind fun d0 => (evE Γ e ρ).bind fun (d, ρ') => match d, getS ρ'.sl i with
    | .int k, some (.list xs) => if tyD d0 = 1 ∧ xs.length ≤ lim then (ixD xs.length k).bind fun j => xs[j]?.map fun x => (x, { ρ' with sl := ρ'.sl.set i (some (.list (xs.eraseIdx j))) }) else none
    | _, _ => none
  | .setd i es => fun ρ => (getS ρ.sl i).bind fun d0 => (evV Γ es ρ).bind fun (ds, ρ') => match ds, getS ρ'.sl i with
    | [x, y], some (.dict kvs) => if okK kvs x && decide (kvs.length < lim) && decide (tyD d0 = 3) then match dget kvs x with
        | some z => some (z, ρ')
        | none => some (y, { ρ' with sl := ρ'.sl.set i (some (.dict (dset kvs x y))) }) else none
    | _, _ => none
  | .enum es => fun ρ => (evV Γ es ρ).bind fun (ds, ρ') => match ds with
    | [.list xs] => some (.list (enumD 0 xs), ρ')
    | [.tuple xs] => some (.list (enumD 0 xs), ρ')
    | _ => none
  | .zip es => fun ρ => (evV Γ es ρ).bind fun (ds, ρ') => match ds with
    | [x, y] => (itemsD x).bind fun xs => (itemsD y).bind fun ys => if xs.length = ys.length then some (.list (zipD xs ys), ρ') else none
    | _ => none
  | .rng1 a => fun ρ => (evE Γ a ρ).bind fun (d, ρ') => match d with
    | .int n => if n.natAbs < 1073741824 then some (.list (rngD 0 n.toNat), ρ') else none
    | _ => none
  | .rng2 es => fun ρ => (evV Γ es ρ).bind fun (ds, ρ') => match ds with
    | [.int m, .int n] => if m.natAbs < 1073741824 ∧ n.natAbs < 1073741824 then some (.list (rngD m (n - m).toNat), ρ') else none
    | _ => none
  | .items es => fun ρ => (evV Γ es ρ).bind fun (ds, ρ') => match ds with
    | [.dict kvs] => some (.list (kvs.map fun p => .tuple [p.1, p.2]), ρ')
    | _ => none
/-- operands from the left; a borrowed name is read behind the others -/
def evV (Γ : Calls) : List E → R (List D)
  | [] => fun ρ => some ([], ρ)
  | .bv i :: es => fun ρ => (getS ρ.sl i).bind fun d0 => (evV Γ es ρ).bind fun (ds, ρ') => (getS ρ'.sl i).bind fun d => if tyD d0 = tyD d then some (d :: ds, ρ') else none
  | e :: es => fun ρ => (evE Γ e ρ).bind fun (d, ρ') => (evV Γ es ρ').map fun (ds, ρ'') => (d :: ds, ρ'')
def evAnd (Γ : Calls) : List E → R D
  | [] => fun ρ => some (.bool true, ρ)
  | e :: es => fun ρ => (boolR (evE Γ e ρ)).bind fun (b, ρ') => if b then evAnd Γ es ρ' else some (.bool false, ρ')
def evOr (Γ : Calls) : List E → R D
  | [] => fun ρ => some (.bool false, ρ)
  | e :: es => fun ρ => (boolR (evE Γ e ρ)).bind fun (b, ρ') => if b then some (.bool true, ρ') else evOr Γ es ρ'
end

inductive Ctl where | nx | rt (d : D) | bk | ct

def whileL (t : R D) (b : R Ctl) : Nat → R Ctl
  | 0, _ => none
  | n + 1, ρ => match boolR (t ρ) with
    | none => none
    | some (false, ρ1) => some (.nx, ρ1)
    | some (true, ρ1) => match b ρ1 with
      | none => none
      | some (.rt d, ρ2) => some (.rt d, ρ2)
      | some (.bk, ρ2) => some (.nx, ρ2)
      | some (_, ρ2) => whileL t b n ρ2
def forL (t : Tgt) (b : R Ctl) : List D → R Ctl
  | [], ρ => some (.nx, ρ)
  | x :: xs, ρ => match asgT t x ρ.sl with
    | none => none
    | some sl => match b { ρ with sl := sl } with
      | none => none
      | some (.rt d, ρ2) => some (.rt d, ρ2)
      | some (.bk, ρ2) => some (.nx, ρ2)
      | some (_, ρ2) => forL t b xs ρ2

/-- more turns than any loop here makes -/
def turns : Nat := 1099511627776

mutual
def evS (Γ : Calls) : S → R Ctl
  | .asg t e => fun ρ => (evE Γ e ρ).bind fun (d, ρ') => (asgT t d ρ'.sl).map fun sl => (.nx, { ρ' with sl := sl })
  | .par is es => fun ρ => (evV Γ es ρ).bind fun (ds, ρ') => (setAll is ds ρ'.sl).map fun sl => (.nx, { ρ' with sl := sl })
  | .aug i o e => fun ρ => match getS ρ.sl i with
    | none => none
    | some x => (evE Γ e ρ).bind fun (y, ρ') => match x, y with
      | .int _, .int _ => (binD o x y).map fun z => (.nx, { ρ' with sl := ρ'.sl.set i (some z) })
      | _, _ => none
  | .setI i k e => fun ρ => (evE Γ e ρ).bind fun (y, ρ1) => (getS ρ1.sl i).bind fun _ => (evE Γ k ρ1).bind fun (k, ρ2) => match getS ρ2.sl i, k with
    | some (.list xs), .int n => (ixD xs.length n).map fun j => (.nx, { ρ2 with sl := ρ2.sl.set i (some (.list (xs.set j y))) })
    | some (.dict kvs), k => if okK kvs k && decide (kvs.length < lim) then some (.nx, { ρ2 with sl := ρ2.sl.set i (some (.dict (dset kvs k y))) }) else none
    | _, _ => none
  | .augI i o k e => fun ρ => (evE Γ k ρ).bind fun (k, ρ1) => match getS ρ1.sl i with
    | none => none
    | some x => match atD x k with
      | none => none
      | some y => (evE Γ e ρ1).bind fun (z, ρ2) => (binD o y z).bind fun w => match getS ρ2.sl i, k with
        | some (.list xs), .int n => (ixD xs.length n).map fun j => (.nx, { ρ2 with sl := ρ2.sl.set i (some (.list (xs.set j w))) })
        | some (.dict kvs), k => if okK kvs k && decide (kvs.length < lim) then some (.nx, { ρ2 with sl := ρ2.sl.set i (some (.dict (dset kvs k w))) }) else none
        | _, _ => none
  | .app i e => fun ρ => (getS ρ.sl i).bind fun d0 => (evE Γ e ρ).bind fun (d, ρ') => match getS ρ'.sl i with
    | some (.list xs) => if xs.length < lim ∧ tyD d0 = 1 then some (.nx, { ρ' with sl := ρ'.sl.set i (some (.list (xs ++ [d]))) }) else none
    | _ => none
  | .ext i e => fun ρ => (getS ρ.sl i).bind fun d0 => (evV Γ [e] ρ).bind fun (ds, ρ') => match ds, getS ρ'.sl i with
    | [.list ys], some (.list xs) => if xs.length + ys.length ≤ lim ∧ tyD d0 = 1 then some (.nx, { ρ' with sl := ρ'.sl.set i (some (.list (xs ++ ys))) }) else none
    | _, _ => none
  | .upd i e => fun ρ => (getS ρ.sl i).bind fun d0 => (evV Γ [e] ρ).bind fun (ds, ρ') => match ds, getS ρ'.sl i with
    | [.dict ys], some (.dict xs) => if tyD d0 = 3 then (dsetAll xs ys).bind fun zs => if zs.length < lim then some (.nx, { ρ' with sl := ρ'.sl.set i (some (.dict zs)) }) else none else none
    | _, _ => none
  | .ite t a b => fun ρ => (boolR (evE Γ t ρ)).bind fun (c, ρ') => if c then evSs Γ a ρ' else evSs Γ b ρ'
  | .whil _ _ t b => whileL (evE Γ t) (evSs Γ b) turns
  | .forr _ _ t it b => fun ρ => (evE Γ it ρ).bind fun (d, ρ') => (seqD d).bind fun xs => forL t (evSs Γ b) xs ρ'
  | .ret e => fun ρ => (evE Γ e ρ).map fun (d, ρ') => (.rt d, ρ')
  | .brk => fun ρ => some (.bk, ρ)
  | .cont => fun ρ => some (.ct, ρ)
  | .mkSrc i e => fun ρ => none
def evSs (Γ : Calls) : List S → R Ctl
  | [] => fun ρ => some (.nx, ρ)
  | s :: ss => fun ρ => match evS Γ s ρ with
    | none => none
    | some (.nx, ρ') => evSs Γ ss ρ'
    | some (c, ρ') => some (c, ρ')
end

/-- a def: how many slots, its body; with the source its first slot is the source's -/
structure Fn where
  n : Nat
  src : Bool := false
  body : List S
def startS (f : Fn) (args : List D) : Slots := ((if f.src then [some PyData.none] else []) ++ args.map some) ++ List.replicate (f.n - (args.length + if f.src then 1 else 0)) none
def runFn (Γ : Calls) (f : Fn) (args : List D) (s : Src) : Option (D × Src) :=
  match evSs Γ f.body ⟨startS f args, s⟩ with
  | some (.rt d, ρ) => some (d, ρ.src)
  | some (.nx, ρ) => some (.none, ρ.src)
  | _ => none
end Ev
set_option linter.all false
set_option maxRecDepth 100000
/-! EvK: keys of dicts that are tuples at any depth: a HeapKind over data. -/
namespace EvK
open PySem Ev
open Sem (wp)

noncomputable instance decD : DecidableEq D := fun a b => Classical.propDecidable _

theorem lay_of_deepK : ∀ (n : Nat) (d : D), deepK n d = true → d.canLay0 = true ∧ d.depth ≤ n
  | _, .int _, _ => ⟨rfl, Nat.zero_le _⟩
  | n, .str x, h => by
    cases n <;> exact ⟨by simpa [deepK, PyData.canLay0] using h, Nat.zero_le _⟩
  | 0, .tuple xs, h => by simp [deepK] at h
  | n + 1, .tuple xs, h => by
    have h' : ∀ x ∈ xs, deepK n x = true := by simpa [deepK] using h
    have aux : ∀ ys : List D, (∀ x ∈ ys, deepK n x = true) → PyData.canLayAll0 ys = true ∧ PyData.depthAll ys ≤ n := by
      intro ys
      induction ys with
      | nil => intro _; exact ⟨rfl, Nat.zero_le _⟩
      | cons y ys ih =>
        intro hy
        have h1 := lay_of_deepK n y (hy y List.mem_cons_self)
        have h2 := ih fun x hx => hy x (List.mem_cons_of_mem _ hx)
        refine ⟨by simp only [PyData.canLayAll0, h1.1, h2.1, Bool.and_self], ?_⟩
        simp only [PyData.depthAll]
        exact Nat.max_le.mpr ⟨h1.2, h2.2⟩
    obtain ⟨a1, a2⟩ := aux xs h'
    exact ⟨by simpa only [PyData.canLay0] using a1, by simp only [PyData.depth]; omega⟩
  | 0, .none, h => by simp [deepK] at h
  | n + 1, .none, h => by simp [deepK] at h
  | 0, .bool _, h => by simp [deepK] at h
  | n + 1, .bool _, h => by simp [deepK] at h
  | 0, .list _, h => by simp [deepK] at h
  | n + 1, .list _, h => by simp [deepK] at h
  | 0, .dict _, h => by simp [deepK] at h
  | n + 1, .dict _, h => by simp [deepK] at h

/-- of keys: equal in Python exactly if one -/
theorem eqv_iff_deepK : ∀ (n : Nat) (d e : D), deepK n d = true → deepK n e = true → (PyData.eqv d e = true ↔ d = e)
  | n, .int i, .int j, _, _ => by simp [PyData.eqv]
  | n, .int i, .str y, _, _ => by simp [PyData.eqv]
  | n, .int i, .tuple ys, _, _ => by simp [PyData.eqv]
  | n, .str i, .int j, _, _ => by simp [PyData.eqv]
  | n, .str i, .str y, _, _ => by simp [PyData.eqv]
  | n, .str i, .tuple ys, _, _ => by simp [PyData.eqv]
  | n, .tuple i, .int j, _, _ => by simp [PyData.eqv]
  | n, .tuple i, .str y, _, _ => by simp [PyData.eqv]
  | 0, .tuple xs, .tuple ys, h, _ => by simp [deepK] at h
  | n + 1, .tuple xs, .tuple ys, h, k => by
    have h' : ∀ x ∈ xs, deepK n x = true := by simpa [deepK] using h
    have k' : ∀ x ∈ ys, deepK n x = true := by simpa [deepK] using k
    have aux : ∀ xs ys : List D, (∀ x ∈ xs, deepK n x = true) → (∀ x ∈ ys, deepK n x = true) → (PyData.eqvAll xs ys = true ↔ xs = ys) := by
      intro xs
      induction xs with
      | nil => intro ys _ _; cases ys <;> simp [PyData.eqvAll]
      | cons x xs ih =>
        intro ys hx hy
        cases ys with
        | nil => simp [PyData.eqvAll]
        | cons y ys =>
          have h1 := eqv_iff_deepK n x y (hx x List.mem_cons_self) (hy y List.mem_cons_self)
          have h2 := ih ys (fun z hz => hx z (List.mem_cons_of_mem _ hz)) (fun z hz => hy z (List.mem_cons_of_mem _ hz))
          simp only [PyData.eqvAll, Bool.and_eq_true, h1, h2, List.cons.injEq]
    have := aux xs ys h' k'
    simpa only [PyData.eqv, PyData.tuple.injEq] using this
  | n, .none, _, h, _ => by cases n <;> simp [deepK] at h
  | n, .bool _, _, h, _ => by cases n <;> simp [deepK] at h
  | n, .list _, _, h, _ => by cases n <;> simp [deepK] at h
  | n, .dict _, _, h, _ => by cases n <;> simp [deepK] at h
  | n, _, .none, _, h => by cases n <;> simp [deepK] at h
  | n, _, .bool _, _, h => by cases n <;> simp [deepK] at h
  | n, _, .list _, _, h => by cases n <;> simp [deepK] at h
  | n, _, .dict _, _, h => by cases n <;> simp [deepK] at h
theorem eqv_dec {n : Nat} {d e : D} (h : deepK n d = true) (k : deepK n e = true) : PyData.eqv d e = decide (d = e) := by
  have q := eqv_iff_deepK n d e h k
  by_cases z : d = e
  · rw [decide_eq_true z]; exact q.mpr z
  · rw [decide_eq_false z]
    cases hb : PyData.eqv d e with
    | false => rfl
    | true => exact absurd (q.mp hb) z

section
variable {prog : Program} {w : World} {A : Around} {E : Value → Shared → Prop} {s : Shared}

mutual
def hashK (w : World) : D → Int
  | .int i => hashInt i
  | .str x => hashStr w x
  | .tuple xs => reduceHash (Builtin.Tuple.tupleHashOf (hashKs w xs))
  | _ => 0
def hashKs (w : World) : List D → List Int
  | [] => []
  | x :: xs => hashK w x :: hashKs w xs
end
mutual
def drawK : D → Nat
  | .tuple xs => drawKs xs + 1
  | _ => 1
def drawKs : List D → Nat
  | [] => 0
  | x :: xs => drawK x + drawKs xs
end
theorem hashKs_append (w : World) : ∀ (xs : List D) (y : D), hashKs w (xs ++ [y]) = hashKs w xs ++ [hashK w y]
  | [], y => rfl
  | x :: xs, y => by simp only [List.cons_append, hashKs, hashKs_append w xs y]
theorem drawKs_append : ∀ (xs : List D) (y : D), drawKs (xs ++ [y]) = drawKs xs + drawK y
  | [], y => by simp only [List.nil_append, drawKs]; omega
  | x :: xs, y => by simp only [List.cons_append, drawKs, drawKs_append xs y]; omega

theorem pyHash_deep (n : Nat) : ∀ (d : D) (A : Around) (E : Value → Shared → Prop) (s : Shared) (v : Value) (as : List Addr) (Q : Int → Shared → Prop), deepK n d = true → Reads s.heap v d as → A.units + n < cLine →
    Q (hashK w d) { s with toks := s.toks + drawK d } → wpAny (model prog w) A (pyHash v) Q E s := by
  induction n with
  | zero =>
    intro d A E s v as Q hd r hu h
    cases r with
    | int => exact wpAny_pyHash_int h
    | str => exact wpAny_pyHash_str h
    | none => simp [deepK] at hd
    | bool => simp [deepK] at hd
    | list => simp [deepK] at hd
    | dict => simp [deepK] at hd
    | tuple => simp [deepK] at hd
  | succ n ih =>
    intro d A E s v as Q hd r hu h
    cases r with
    | int => exact wpAny_pyHash_int h
    | str => exact wpAny_pyHash_str h
    | none => simp [deepK] at hd
    | bool => simp [deepK] at hd
    | list => simp [deepK] at hd
    | dict => simp [deepK] at hd
    | @tuple a o vs m xs as h1 h2 h3 h4 =>
      have hxs : ∀ x ∈ xs, deepK n x = true := by simpa [deepK] using hd
      have hT : s.TypeIs (.ref a) "tuple" := ⟨o, h1, h2⟩
      unfold pyHash
      first | unfold pyHashByItsType | skip
      first | refine wpAny_bind (wpAny_cRoomFor_or (.inr (by omega)) ?_) | skip
      refine wpAny_bind (wpAny_specialOf hT F.slot_tuple_hash.lookup ?_)
      show wpAny _ _ (if (some (Value.builtin "tuple.__hash__") == some Value.none) = true then _ else _) Q E s
      rw [if_neg (by rw [beq_builtin_none]; exact Bool.false_ne_true)]
      refine wpAny_bind (wpAny_specialOf hT F.slot_tuple_hash.lookup ?_)
      show wpAny _ _ (callSpecialIfBoundUnlessNone? (.ref a) "__hash__" _ >>= _) Q E s
      refine wpAny_bind (wpAny_callSpecialIfBoundUnlessNone?_slot hT F.slot_tuple_hash (wpAny_call_entry F.slot_tuple_hash hT F.entry_tuple_hash ?_ (F.args_tuple_hash_1 _)))
      show wpAny _ _ (Builtin.Tuple.tupleItemsOf (.ref a) >>= _) _ _ s
      refine wpAny_bind (wpAny_tupleItemsOf h1 h3 ?_)
      refine wpAny_bind ?_
      rw [← Array.forIn_toList]
      refine wpAny_forIn_list _
        (fun rest (b : Array Int) s' => ∃ done left bs, xs = done ++ left ∧ ReadsAll s.heap rest left bs ∧ b.toList = hashKs w done ∧ s' = { s with toks := s.toks + drawKs done })
        _ ?_ ?_ _ _ ⟨[], xs, as, rfl, h4, rfl, rfl⟩
      · rintro x rest b s' ⟨done, left, bs, rfl, hl, hb, rfl⟩
        cases hl with
        | cons r1 r2 =>
          rename_i d' ds' as' bs'
          refine wpAny_bind (ih d' _ _ _ _ _ _ (hxs d' (by simp)) r1 (by show A.units + 1 + n < cLine; omega) ?_)
          have fin : ∃ done' left' bs'', done ++ d' :: ds' = done' ++ left' ∧ ReadsAll s.heap rest left' bs'' ∧ (b.push (hashK w d')).toList = hashKs w done' ∧ ({ s with toks := s.toks + drawKs done + drawK d' } : Shared) = { s with toks := s.toks + drawKs done' } :=
            ⟨done ++ [d'], ds', bs', by simp, r2, by rw [hashKs_append]; simp [hb], by rw [drawKs_append, Nat.add_assoc]⟩
          first
            | exact wpAny_pure fin
            | exact wpAny_bind (wpAny_pure (wpAny_pure fin))
      · rintro b s' ⟨done, left, bs, rfl, hl, hb, rfl⟩
        cases hl
        rw [List.append_nil] at h
        show wpAny _ _ (retInt (Builtin.Tuple.tupleHashOf b.toList)) _ _ _
        rw [hb]
        refine wpAny_ret_mkInt ?_
        show wpAny _ _ (if (decide (-(2 : Int) ^ 63 ≤ Builtin.Tuple.tupleHashOf (hashKs w done)) && decide (Builtin.Tuple.tupleHashOf (hashKs w done) < 2 ^ 63)) = true then _ else _) Q E _
        unfold hashK drawK reduceHash at h
        by_cases hr : (decide (-(2 : Int) ^ 63 ≤ Builtin.Tuple.tupleHashOf (hashKs w done)) && decide (Builtin.Tuple.tupleHashOf (hashKs w done) < 2 ^ 63)) = true
        · rw [if_pos hr]
          rw [if_pos hr] at h
          exact wpAny_pure (by simpa [Nat.add_assoc] using h)
        · rw [if_neg hr]
          rw [if_neg hr] at h
          exact wpAny_bind (wpAny_rule (wpAny_pure (by simpa [Nat.add_assoc] using h)))

theorem quiet_deep : ∀ (n : Nat) (d : D) (A : Around) (E : Value → Shared → Prop) (s : Shared) (v : Value) (as : List Addr) (Q : Bool → Shared → Prop), deepK n d = true → Reads s.heap v d as → Q true s → wpAny (model prog w) A (eqIsQuiet n v) Q E s := by
  intro n
  induction n with
  | zero =>
    intro d A E s v as Q hd r h
    cases r with
    | int => rw [eqIsQuiet_byValue _ rfl]; exact wpAny_pure h
    | str => rw [eqIsQuiet_byValue _ rfl]; exact wpAny_pure h
    | none => simp [deepK] at hd
    | bool => simp [deepK] at hd
    | list => simp [deepK] at hd
    | dict => simp [deepK] at hd
    | tuple => simp [deepK] at hd
  | succ n ih =>
    intro d A E s v as Q hd r h
    cases r with
    | int => rw [eqIsQuiet_byValue _ rfl]; exact wpAny_pure h
    | str => rw [eqIsQuiet_byValue _ rfl]; exact wpAny_pure h
    | none => simp [deepK] at hd
    | bool => simp [deepK] at hd
    | list => simp [deepK] at hd
    | dict => simp [deepK] at hd
    | @tuple a o vs m xs as h1 h2 h3 h4 =>
      have hxs : ∀ x ∈ xs, deepK n x = true := by simpa [deepK] using hd
      have hT : s.TypeIs (.ref a) "tuple" := ⟨o, h1, h2⟩
      unfold eqIsQuiet
      refine wpAny_bind (wpAny_specialOf hT F.slot_tuple_eq.lookup ?_)
      show wpAny _ _ (isInstance (.ref a) (.type "tuple") >>= _) _ _ s
      refine wpAny_bind (wpAny_isInstance hT isSubtype_tuple_tuple ?_)
      simp only [Bool.not_true, Bool.false_eq_true, if_false]
      refine wpAny_bind (wpAny_seqItems h1 h3 ?_)
      refine wpAny_bind ?_
      show wpAny _ _ (forIn vs _ _) _ _ s
      rw [← Array.forIn_toList]
      refine wpAny_forIn_list _ (fun rest r s' => r.1 = none ∧ s' = s ∧ ∃ left bs, ReadsAll s.heap rest left bs ∧ ∀ x ∈ left, deepK n x = true) _ ?_ ?_ _ _ ⟨rfl, rfl, xs, as, h4, hxs⟩
      · rintro v rest r s' ⟨hr, rfl, left, bs, hl, hall⟩
        cases hl with
        | cons r1 r2 =>
          rename_i d' ds' as' bs'
          refine wpAny_bind (ih d' _ _ _ _ _ _ (hall d' List.mem_cons_self) r1 ?_)
          simp only [Bool.not_true, Bool.false_eq_true, if_false]
          exact wpAny_pure ⟨rfl, rfl, _, _, r2, fun u hu' => hall u (List.mem_cons_of_mem _ hu')⟩
      · rintro ⟨r1, r2⟩ s' ⟨hr, rfl, _⟩
        simp only at hr
        subst hr
        exact wpAny_pure h

/-- a tuple of keys stands at a -/
def IsDeep (h : Heap) (d : D) (a : Addr) : Prop := tupK d = true ∧ ∃ as, Reads h (.ref a) d as
theorem tupK_deep {d : D} (h : tupK d = true) : deepK 8 d = true := by
  cases d <;> simp only [tupK, Bool.false_eq_true] at h
  simpa only [deepK] using h
theorem reads_keeps {h h' : Heap} {d₀ : Addr} {o : Obj} {es ep} (ho : h.get? d₀ = some o) (hd : o.data = .dict es ep) (hs : Heap.SameBut d₀ h h') (n : Nat) : ∀ (d : D) (v : Value) (as : List Addr), deepK n d = true → Reads h v d as → Reads h' v d as := by
  induction n with
  | zero =>
    intro d v as hk r
    cases r with
    | int => exact .int _ _
    | str => exact .str _ _
    | none => simp [deepK] at hk
    | bool => simp [deepK] at hk
    | list => simp [deepK] at hk
    | dict => simp [deepK] at hk
    | tuple => simp [deepK] at hk
  | succ n ih =>
    intro d v as hk r
    cases r with
    | int => exact .int _ _
    | str => exact .str _ _
    | none => simp [deepK] at hk
    | bool => simp [deepK] at hk
    | list => simp [deepK] at hk
    | dict => simp [deepK] at hk
    | @tuple a o' vs m xs as h1 h2 h3 h4 =>
      have hxs : ∀ x ∈ xs, deepK n x = true := by simpa [deepK] using hk
      have hne : a ≠ d₀ := by
        rintro rfl
        obtain rfl : o' = o := Option.some.inj (h1.symm.trans ho)
        rw [hd] at h3; exact nomatch h3
      refine .tuple ((hs.2 a hne).trans h1) h2 h3 ?_
      have aux : ∀ (vs : List Value) (xs : List D) (as : List Addr), (∀ x ∈ xs, deepK n x = true) → ReadsAll h vs xs as → ReadsAll h' vs xs as := by
        intro vs xs
        induction xs generalizing vs with
        | nil => intro as _ r; cases r; exact .nil
        | cons x xs ihx =>
          intro as hx r
          cases r with
          | cons r1 r2 => exact .cons (ih _ _ _ (hx _ List.mem_cons_self) r1) (ihx _ _ (fun z hz => hx z (List.mem_cons_of_mem _ hz)) r2)
      exact aux _ _ _ hxs h4

noncomputable def deepKind (prog : Program) (w : World) : HeapKind prog w D where
  is := IsDeep
  hash := hashK w
  draws := drawK
  room := fun A => A.units + 16 < cLine
  inj := fun {h a x y} hx hy => by
    obtain ⟨kx, as, rx⟩ := hx
    obtain ⟨ky, bs, ry⟩ := hy
    exact SeqAt.Reads.unique x _ _ _ _ (lay_of_deepK 8 x (tupK_deep kx)).1 rx ry
  keeps := fun {h h' k a d o es ep} x ho hd hs => by
    obtain ⟨kx, as, rx⟩ := x
    exact ⟨kx, as, reads_keeps ho hd hs 8 _ _ _ (tupK_deep kx) rx⟩
  pyHash := fun {A E s k a Q} hu hk h => by
    obtain ⟨kx, as, rx⟩ := hk
    exact pyHash_deep 8 k A E s _ as Q (tupK_deep kx) rx (by omega) h
  eqBool := fun {A E s x y a b Q} hu hx hy h => by
    obtain ⟨kx, as, rx⟩ := hx
    obtain ⟨ky, bs, ry⟩ := hy
    have lx := lay_of_deepK 8 x (tupK_deep kx)
    have ly := lay_of_deepK 8 y (tupK_deep ky)
    refine SeqAt.eqBoolOverData prog w A E s _ _ x y as bs Q rx ry lx.1 ly.1 ?_ ?_
    · have : min x.depth y.depth ≤ x.depth := Nat.min_le_left _ _
      have := lx.2
      omega
    · rw [eqv_dec (tupK_deep kx) (tupK_deep ky)]
      exact h
  quiet := fun {A E s k a Q} hk h => by
    obtain ⟨kx, as, rx⟩ := hk
    exact quiet_deep 8 k A E s _ as Q (tupK_deep kx) rx h
end
end EvK
set_option linter.all false
set_option Elab.async false
set_option maxRecDepth 100000
set_option maxHeartbeats 4000000
/-! Ev1: the evaluator's states against the hand layer's heaps: frozen data, owned lists and dicts, the random source. -/
namespace EvS
open PySem PySem.Spec PyProof.Rows L2 EvK
open Ev (D Ste Src getS wipe restore flatK tupK dget dset okK)

inductive Kd where | fz | own | src
  deriving DecidableEq
inductive Ow where | sl (i : Nat) | tm (j : Nat)
  deriving DecidableEq

def keyOf : D → Key
  | .int i => .inl i
  | .str x => .inr x
  | _ => .inl 0
abbrev Ent := D × V × V
/-- a dict whose keys are tuples: what is true of its object -/
def tupPhi (P : Program) (w : World) (a : Addr) (es : List Ent) : Heap → Prop := fun h =>
  es.length ≤ sizeLine ∧ (a == sysModules) = false ∧ ∃ xs : List (D × Addr × Value), Paired (fun (e : Ent) (x : D × Addr × Value) => e.1 = x.1 ∧ e.2.1 = V.ref x.2.1 ∧ RelV e.2.2 x.2.2) es xs ∧
    ∃ o rows ep, h.get? a = some o ∧ o.ExactDict ∧ o.data = .dict rows ep ∧ rows.toList = xs.map (entryOfKey (deepKind P w)) ∧ (xs.map (·.1)).Nodup
/-- what stands at a is a dict of these entries -/
def DcO (P : Program) (w : World) (a : Addr) (o : Option HO) (es : List Ent) : Prop :=
  (o = some (.dK (es.map fun e => (keyOf e.1, e.2.2))) ∧ ∀ e ∈ es, flatK e.1 = true) ∨ (o = some (.ext (tupPhi P w a es)) ∧ ∀ e ∈ es, tupK e.1 = true)

/-- a tuple whose object has no own dict -/
def TuP (K : PySem.W.Frag) (F : Hp) (a : Addr) (xs : List V) : Prop :=
  (∃ o : Obj, F a = some (.frz o (.tup xs)) ∧ o.dict = none) ∨
    ∃ (o : Obj) (its : Array Value) (n : Nat), K.lookup a = some o ∧ o.cls = .type "tuple" ∧ o.dict = none ∧ o.data = .seq its n ∧ its.size ≤ sizeLine ∧ Vals xs its.toList
theorem TuP.sq {K : PySem.W.Frag} {F : Hp} {a : Addr} {xs : List V} (h : TuP K F a xs) : SqT K F a xs := by
  rcases h with ⟨o, h, _⟩ | ⟨o, its, n, h1, h2, _, h3⟩
  · exact .inl (.inr ⟨o, h⟩)
  · exact .inr ⟨o, its, n, h1, h2, h3⟩
mutual
/-- v is the data d, all of it in the part F of the heap -/
inductive Fz (P : Program) (w : World) (K : PySem.W.Frag) (F : Hp) : V → D → Prop
  | non : Fz P w K F .non .none
  | bl (b : Bool) : Fz P w K F (.bl b) (.bool b)
  | int (i : Int) : Fz P w K F (.int i) (.int i)
  | str (x : Str) : Fz P w K F (.str x) (.str x)
  | lst {a : Addr} {xs : List V} {ds : List D} : F a = some (.lst xs) → FzA P w K F xs ds → Fz P w K F (.ref a) (.list ds)
  | tup {a : Addr} {xs : List V} {ds : List D} : TuP K F a xs → FzA P w K F xs ds → Fz P w K F (.ref a) (.tuple ds)
  | dic {a : Addr} {es : List Ent} {kvs : List (D × D)} : DcO P w a (F a) es → FzE P w K F es kvs → Fz P w K F (.ref a) (.dict kvs)
inductive FzA (P : Program) (w : World) (K : PySem.W.Frag) (F : Hp) : List V → List D → Prop
  | nil : FzA P w K F [] []
  | cons {v : V} {vs : List V} {d : D} {ds : List D} : Fz P w K F v d → FzA P w K F vs ds → FzA P w K F (v :: vs) (d :: ds)
inductive FzE (P : Program) (w : World) (K : PySem.W.Frag) (F : Hp) : List Ent → List (D × D) → Prop
  | nil : FzE P w K F [] []
  | cons {k d : D} {kv v : V} {es : List Ent} {kvs : List (D × D)} : Fz P w K F kv k → Fz P w K F v d → FzE P w K F es kvs → FzE P w K F ((k, kv, v) :: es) ((k, d) :: kvs)
end

section
variable {P : Program} {w : World} {K : PySem.W.Frag} {F F' H : Hp}
theorem same_tup {a : Addr} {xs : List V} (s : Same F F') (h : SqT K F a xs) : SqT K F' a xs := by
  rcases h with (h | ⟨o, h⟩) | h
  · exact .inl (.inl (s _ _ h))
  · exact .inl (.inr ⟨o, s _ _ h⟩)
  · exact .inr h
theorem TuP.mono {a : Addr} {xs : List V} (s : Same F F') (h : TuP K F a xs) : TuP K F' a xs := by
  rcases h with ⟨o, h, n⟩ | h
  · exact .inl ⟨o, s _ _ h, n⟩
  · exact .inr h
mutual
theorem Fz.mono (s : Same F F') : ∀ {v : V} {d : D}, Fz P w K F v d → Fz P w K F' v d
  | _, _, .non => .non
  | _, _, .bl b => .bl b
  | _, _, .int i => .int i
  | _, _, .str x => .str x
  | _, _, .lst h t => .lst (s _ _ h) (FzA.mono s t)
  | _, _, .tup h t => .tup (h.mono s) (FzA.mono s t)
  | _, _, .dic h t => .dic (by
      rcases h with ⟨h, q⟩ | ⟨h, q⟩
      · exact .inl ⟨s _ _ h, q⟩
      · exact .inr ⟨s _ _ h, q⟩) (FzE.mono s t)
theorem FzA.mono (s : Same F F') : ∀ {vs : List V} {ds : List D}, FzA P w K F vs ds → FzA P w K F' vs ds
  | _, _, .nil => .nil
  | _, _, .cons h t => .cons (Fz.mono s h) (FzA.mono s t)
theorem FzE.mono (s : Same F F') : ∀ {es : List Ent} {kvs : List (D × D)}, FzE P w K F es kvs → FzE P w K F' es kvs
  | _, _, .nil => .nil
  | _, _, .cons h g t => .cons (Fz.mono s h) (Fz.mono s g) (FzE.mono s t)
end
theorem FzA.length : ∀ {vs : List V} {ds : List D}, FzA P w K F vs ds → vs.length = ds.length
  | _, _, .nil => rfl
  | _, _, .cons _ t => by rw [List.length_cons, List.length_cons, FzA.length t]
theorem FzA.get : ∀ {vs : List V} {ds : List D} {i : Nat} {d : D}, FzA P w K F vs ds → ds[i]? = some d → ∃ v, vs[i]? = some v ∧ Fz P w K F v d
  | _, _, _, _, .nil, e => by simp at e
  | _, _, 0, _, .cons h _, e => by simp at e; subst e; exact ⟨_, rfl, h⟩
  | _, _, i + 1, d, .cons _ t, e => by
    obtain ⟨v, h1, h2⟩ := FzA.get (i := i) (d := d) t (by simpa using e)
    exact ⟨v, by simpa using h1, h2⟩
theorem FzA.getV : ∀ {vs : List V} {ds : List D} {i : Nat} {v : V}, FzA P w K F vs ds → vs[i]? = some v → ∃ d, ds[i]? = some d ∧ Fz P w K F v d
  | _, _, _, _, .nil, e => by simp at e
  | _, _, 0, _, .cons h _, e => by simp at e; subst e; exact ⟨_, rfl, h⟩
  | _, _, i + 1, v, .cons _ t, e => by
    obtain ⟨d, h1, h2⟩ := FzA.getV (i := i) (v := v) t (by simpa using e)
    exact ⟨d, by simpa using h1, h2⟩
theorem FzA.append : ∀ {vs ws : List V} {ds es : List D}, FzA P w K F vs ds → FzA P w K F ws es → FzA P w K F (vs ++ ws) (ds ++ es)
  | _, _, _, _, .nil, t => t
  | _, _, _, _, .cons h s, t => .cons h (FzA.append s t)
theorem FzA.take : ∀ {vs : List V} {ds : List D} (n : Nat), FzA P w K F vs ds → FzA P w K F (vs.take n) (ds.take n)
  | _, _, 0, _ => by simpa using FzA.nil
  | _, _, n + 1, .nil => by simpa using FzA.nil
  | _, _, n + 1, .cons h t => by simpa using FzA.cons h (FzA.take n t)
theorem FzA.drop : ∀ {vs : List V} {ds : List D} (n : Nat), FzA P w K F vs ds → FzA P w K F (vs.drop n) (ds.drop n)
  | _, _, 0, h => by simpa using h
  | _, _, n + 1, .nil => by simpa using FzA.nil
  | _, _, n + 1, .cons h t => by simpa using FzA.drop n t
theorem FzA.set {v : V} {d : D} (h : Fz P w K F v d) : ∀ {vs : List V} {ds : List D} (i : Nat), FzA P w K F vs ds → FzA P w K F (vs.set i v) (ds.set i d)
  | _, _, _, .nil => .nil
  | _, _, 0, .cons _ t => .cons h t
  | _, _, i + 1, .cons g t => .cons g (FzA.set h i t)
theorem FzA.dropLast {vs : List V} {ds : List D} (h : FzA P w K F vs ds) : FzA P w K F vs.dropLast ds.dropLast := by
  rw [List.dropLast_eq_take, List.dropLast_eq_take, h.length]
  exact h.take _
theorem FzA.eraseIdx : ∀ {vs : List V} {ds : List D} (i : Nat), FzA P w K F vs ds → FzA P w K F (vs.eraseIdx i) (ds.eraseIdx i)
  | _, _, _, .nil => .nil
  | _, _, 0, .cons _ t => t
  | _, _, i + 1, .cons g t => .cons g (FzA.eraseIdx i t)
theorem FzA.reverse : ∀ {vs : List V} {ds : List D}, FzA P w K F vs ds → FzA P w K F vs.reverse ds.reverse
  | _, _, .nil => .nil
  | _, _, .cons h t => by rw [List.reverse_cons, List.reverse_cons]; exact (FzA.reverse t).append (.cons h .nil)
theorem FzA.rep {vs : List V} {ds : List D} (h : FzA P w K F vs ds) : ∀ k : Nat, FzA P w K F (List.replicate k vs).flatten (List.replicate k ds).flatten
  | 0 => .nil
  | k + 1 => by
    rw [List.replicate_succ, List.replicate_succ, List.flatten_cons, List.flatten_cons]
    exact h.append (FzA.rep h k)
end

/-- what is fixed through a def's body -/
structure Ct where
  P : Program
  w : World
  K : PySem.W.Frag
  /-- the heap at the entry, without what the def may change -/
  B : Hp
  F0 : Hp
  /-- whether the random source is there, its dict, its cells -/
  hs : Bool
  aS : Addr
  aC : Addr
structure Gh where
  F : Hp
  ow : Addr → Option Ow

/-- a list or dict at a whose members are frozen -/
def Top (c : Ct) (F H : Hp) (a : Addr) (d : D) : Prop :=
  (∃ ds vs, d = .list ds ∧ H a = some (.lst vs) ∧ FzA c.P c.w c.K F vs ds) ∨ ∃ kvs es, d = .dict kvs ∧ DcO c.P c.w a (H a) es ∧ FzE c.P c.w c.K F es kvs
def isC : D → Bool
  | .list _ | .dict _ => true
  | _ => false
/-- the view of a value by its kind: own: a list or dict is the owner's; other data are frozen all the same -/
def Vw (c : Ct) (g : Gh) (H : Hp) (o : Ow) : Kd → D → V → Prop
  | .fz, d, v => Fz c.P c.w c.K g.F v d
  | .own, d, v => (isC d = false ∧ Fz c.P c.w c.K g.F v d) ∨ ∃ a, v = .ref a ∧ g.ow a = some o ∧ Top c g.F H a d
  | .src, d, v => d = .none ∧ v = .ref c.aS ∧ c.hs = true
def SrcOk (c : Ct) (s : Src) (H : Hp) : Prop :=
  H c.aS = some (.dK [(.inr "cells", .ref c.aC), (.inr "left", .int s.left), (.inr "mixed", .int s.mixed), (.inr "turn", .int s.turn)]) ∧ H c.aC = some (.lst (s.cells.map V.int))

abbrev Tm := Kd × D × V
structure Rel (c : Ct) (g : Gh) (Ks : List Kd) (ρ : Ste) (ts : List Tm) (σ : L2.St) (H : Hp) : Prop where
  fh : Same g.F H
  bh : Same c.B H
  ff : Same c.F0 g.F
  fb : ∀ a, c.B a ≠ none → g.F a = c.F0 a
  len : ρ.sl.length = σ.length
  sl : ∀ i d, getS ρ.sl i = some d → ∃ v, σ[i]? = some (some v) ∧ Vw c g H (.sl i) (Ks.getD i .fz) d v
  tm : ∀ (j : Nat) (t : Tm), ts[j]? = some t → Vw c g H (.tm j) t.1 t.2.1 t.2.2
  ow : ∀ a o, g.ow a = some o → g.F a = none ∧ c.B a = none ∧ H a ≠ none
  src : c.hs = true → SrcOk c ρ.src H ∧ c.aS ≠ c.aC ∧ g.F c.aS = none ∧ g.F c.aC = none ∧ c.B c.aS = none ∧ c.B c.aC = none ∧ g.ow c.aS = none ∧ g.ow c.aC = none

section
variable {c : Ct} {g : Gh} {Ks : List Kd} {ρ : Ste} {ts ts' : List Tm} {σ : L2.St} {H : Hp}

theorem Top.mono {F F' H' : Hp} {a : Addr} {d : D} (s : Same F F') (e : H' a = H a) (h : Top c F H a d) : Top c F' H' a d := by
  rcases h with ⟨ds, vs, h1, h2, h3⟩ | ⟨kvs, es, h1, h2, h3⟩
  · exact .inl ⟨ds, vs, h1, e.trans h2, h3.mono s⟩
  · exact .inr ⟨kvs, es, h1, by rw [e]; exact h2, h3.mono s⟩
/-- what an owner has, frozen -/
theorem Top.fz {F : Hp} {a : Addr} {d : D} (s : Same g.F F) (e : F a = H a) (h : Top c g.F H a d) : Fz c.P c.w c.K F (.ref a) d := by
  rcases h with ⟨ds, vs, rfl, h2, h3⟩ | ⟨kvs, es, rfl, h2, h3⟩
  · exact .lst (e.trans h2) (h3.mono s)
  · exact .dic (by rw [e]; exact h2) (h3.mono s)

theorem Rel.drop (R : Rel c g Ks ρ (ts ++ ts') σ H) : Rel c g Ks ρ ts σ H :=
  { R with tm := fun j t e => R.tm j t (by rw [List.getElem?_append_left (List.getElem?_eq_some_iff.mp e).1]; exact e) }
theorem getElem?_snoc {α : Type} {xs : List α} {x y : α} {j : Nat} (e : (xs ++ [x])[j]? = some y) : (xs[j]? = some y ∧ j < xs.length) ∨ (j = xs.length ∧ x = y) := by
  by_cases hj : j < xs.length
  · rw [List.getElem?_append_left hj] at e; exact .inl ⟨e, hj⟩
  · rw [List.getElem?_append_right (by omega)] at e
    by_cases z : j - xs.length = 0
    · rw [z] at e; cases e; exact .inr ⟨by omega, rfl⟩
    · obtain ⟨k, hk⟩ : ∃ k, j - xs.length = k + 1 := ⟨j - xs.length - 1, by omega⟩
      rw [hk] at e; simp at e
theorem Rel.push (R : Rel c g Ks ρ ts σ H) {d : D} {v : V} (h : Fz c.P c.w c.K g.F v d) : Rel c g Ks ρ (ts ++ [(.fz, d, v)]) σ H := by
  refine ⟨R.fh, R.bh, R.ff, R.fb, R.len, R.sl, fun j t e => ?_, R.ow, R.src⟩
  rcases getElem?_snoc e with ⟨e, _⟩ | ⟨rfl, rfl⟩
  · exact R.tm j t e
  · exact h
theorem Rel.pushSrc (R : Rel c g Ks ρ ts σ H) (h : c.hs = true) : Rel c g Ks ρ (ts ++ [(.src, .none, .ref c.aS)]) σ H := by
  refine ⟨R.fh, R.bh, R.ff, R.fb, R.len, R.sl, fun j t e => ?_, R.ow, R.src⟩
  rcases getElem?_snoc e with ⟨e, _⟩ | ⟨rfl, rfl⟩
  · exact R.tm j t e
  · exact ⟨rfl, rfl, h⟩
theorem Rel.fnone (R : Rel c g Ks ρ ts σ H) {p : Addr} (np : H p = none) : g.F p = none := R.fh.free np
theorem Rel.bnone (R : Rel c g Ks ρ ts σ H) {p : Addr} (np : H p = none) : c.B p = none := R.bh.free np
theorem Rel.onone (R : Rel c g Ks ρ ts σ H) {p : Addr} (np : H p = none) : g.ow p = none := by
  cases e : g.ow p with
  | none => rfl
  | some o => exact absurd np (R.ow p o e).2.2
theorem same_new {H : Hp} {p : Addr} {o : HO} (n : H p = none) : Same H (upd H p o) := fun b x e => by
  rw [upd_ne (ne_of_none e n)]; exact e
theorem Vw.mono {g' : Gh} {H' : Hp} {o : Ow} {k : Kd} {d : D} {v : V} (s : Same g.F g'.F) (e : ∀ a, g.ow a = some o → g'.ow a = some o ∧ H' a = H a) (h : Vw c g H o k d v) : Vw c g' H' o k d v := by
  cases k with
  | fz => exact Fz.mono s h
  | own =>
    rcases h with ⟨h0, h1⟩ | ⟨a, h1, h2, h3⟩
    · exact .inl ⟨h0, h1.mono s⟩
    · exact .inr ⟨a, h1, (e a h2).1, h3.mono s (e a h2).2⟩
  | src => exact h
theorem SrcOk.mono {s : Src} {H' : Hp} (e1 : H' c.aS = H c.aS) (e2 : H' c.aC = H c.aC) (h : SrcOk c s H) : SrcOk c s H' := ⟨e1.trans h.1, e2.trans h.2⟩

/-- a new thing that is frozen at once -/
theorem Rel.newF (R : Rel c g Ks ρ ts σ H) {p : Addr} {o : HO} (np : H p = none) : Rel c ⟨upd g.F p o, g.ow⟩ Ks ρ ts σ (upd H p o) := by
  have nf := R.fnone np
  have nb := R.bnone np
  have no := R.onone np
  have sf : Same g.F (upd g.F p o) := same_new nf
  have own : ∀ {o' : Ow}, ∀ a, g.ow a = some o' → g.ow a = some o' ∧ upd H p o a = H a := fun a e => ⟨e, upd_ne fun z => by rw [z, no] at e; cases e⟩
  refine ⟨fun a x e => ?_, fun a x e => ?_, R.ff.trans sf, fun a h => ?_, R.len, fun i d e => ?_, fun j t e => ?_, fun a o' e => ?_, fun h => ?_⟩
  · have e : upd g.F p o a = some x := e
    by_cases z : a = p
    · subst z; rw [upd_same] at e ⊢; exact e
    · rw [upd_ne z] at e ⊢; exact R.fh _ _ e
  · rw [upd_ne (ne_of_none (R.bh _ _ e) np)]; exact R.bh _ _ e
  · show upd g.F p o a = _
    rw [upd_ne fun z => h (by rw [z]; exact nb)]; exact R.fb a h
  · obtain ⟨v, h1, h2⟩ := R.sl i d e
    exact ⟨v, h1, h2.mono sf own⟩
  · exact (R.tm j t e).mono sf own
  · obtain ⟨h1, h2, h3⟩ := R.ow a o' e
    have z : a ≠ p := fun z => by rw [z, no] at e; cases e
    exact ⟨by show upd g.F p o a = none; rw [upd_ne z]; exact h1, h2, by rw [upd_ne z]; exact h3⟩
  · obtain ⟨h0, h1, h2, h3, h4, h5, h6, h7⟩ := R.src h
    have z1 : c.aS ≠ p := fun z => by have := h0.1; rw [z, np] at this; cases this
    have z2 : c.aC ≠ p := fun z => by have := h0.2; rw [z, np] at this; cases this
    exact ⟨h0.mono (upd_ne z1) (upd_ne z2), h1, by show upd g.F p o _ = none; rw [upd_ne z1]; exact h2, by show upd g.F p o _ = none; rw [upd_ne z2]; exact h3, h4, h5, h6, h7⟩
/-- a new thing that nobody keeps -/
theorem Rel.newG (R : Rel c g Ks ρ ts σ H) {p : Addr} {o : HO} (np : H p = none) : Rel c g Ks ρ ts σ (upd H p o) := by
  have no := R.onone np
  have own : ∀ {o' : Ow}, ∀ a, g.ow a = some o' → g.ow a = some o' ∧ upd H p o a = H a := fun a e => ⟨e, upd_ne fun z => by rw [z, no] at e; cases e⟩
  refine ⟨R.fh.trans (same_new np), R.bh.trans (same_new np), R.ff, R.fb, R.len, fun i d e => ?_, fun j t e => ?_, fun a o' e => ?_, fun h => ?_⟩
  · obtain ⟨v, h1, h2⟩ := R.sl i d e
    exact ⟨v, h1, h2.mono (g := g) (Same.refl g.F) own⟩
  · exact (R.tm j t e).mono (g := g) (Same.refl g.F) own
  · obtain ⟨h1, h2, h3⟩ := R.ow a o' e
    exact ⟨h1, h2, by rw [(own a e).2]; exact h3⟩
  · obtain ⟨h0, h1, h2, h3, h4, h5, h6, h7⟩ := R.src h
    have z1 : c.aS ≠ p := fun z => by have := h0.1; rw [z, np] at this; cases this
    have z2 : c.aC ≠ p := fun z => by have := h0.2; rw [z, np] at this; cases this
    exact ⟨h0.mono (upd_ne z1) (upd_ne z2), h1, h2, h3, h4, h5, h6, h7⟩
/-- a new list or dict, owned by the next value in hand -/
theorem Rel.newO (R : Rel c g Ks ρ ts σ H) {p : Addr} {o : HO} {d : D} (np : H p = none) (h : Top c g.F (upd H p o) p d) :
    Rel c ⟨g.F, fun a => if a = p then some (.tm ts.length) else g.ow a⟩ Ks ρ (ts ++ [(.own, d, .ref p)]) σ (upd H p o) := by
  have nf := R.fnone np
  have nb := R.bnone np
  have no := R.onone np
  have own : ∀ {o' : Ow}, ∀ a, g.ow a = some o' → (if a = p then some (.tm ts.length) else g.ow a) = some o' ∧ upd H p o a = H a := fun a e => by
    have z : a ≠ p := fun z => by rw [z, no] at e; cases e
    exact ⟨by rw [if_neg z]; exact e, upd_ne z⟩
  refine ⟨R.fh.trans (same_new np), R.bh.trans (same_new np), R.ff, R.fb, R.len, fun i d e => ?_, fun j t e => ?_, fun a o' e => ?_, fun h => ?_⟩
  · obtain ⟨v, h1, h2⟩ := R.sl i d e
    exact ⟨v, h1, h2.mono (g := g) (Same.refl g.F) own⟩
  · rcases getElem?_snoc e with ⟨e, _⟩ | ⟨rfl, rfl⟩
    · exact (R.tm j t e).mono (g := g) (Same.refl g.F) own
    · exact .inr ⟨p, rfl, if_pos rfl, h⟩
  · by_cases z : a = p
    · subst z; exact ⟨nf, nb, by rw [upd_same]; simp⟩
    · have e : g.ow a = some o' := by
        have e' : (if a = p then some (Ow.tm ts.length) else g.ow a) = some o' := e
        rwa [if_neg z] at e'
      obtain ⟨h1, h2, h3⟩ := R.ow a o' e
      exact ⟨h1, h2, by rw [upd_ne z]; exact h3⟩
  · obtain ⟨h0, h1, h2, h3, h4, h5, h6, h7⟩ := R.src h
    have z1 : c.aS ≠ p := fun z => by have := h0.1; rw [z, np] at this; cases this
    have z2 : c.aC ≠ p := fun z => by have := h0.2; rw [z, np] at this; cases this
    exact ⟨h0.mono (upd_ne z1) (upd_ne z2), h1, h2, h3, h4, h5, by show (if c.aS = p then _ else g.ow c.aS) = none; rw [if_neg z1]; exact h6, by show (if c.aC = p then _ else g.ow c.aC) = none; rw [if_neg z2]; exact h7⟩
/-- the ghost in which all that an owner has is frozen -/
def Gh.frz (g : Gh) (H : Hp) (o : Ow) : Gh := ⟨fun a => if g.ow a = some o then H a else g.F a, fun a => if g.ow a = some o then none else g.ow a⟩
theorem Rel.sameFrz (R : Rel c g Ks ρ ts σ H) (o : Ow) : Same g.F (g.frz H o).F := fun a x e => by
  show (if g.ow a = some o then H a else g.F a) = some x
  by_cases z : g.ow a = some o
  · rw [(R.ow a o z).1] at e; cases e
  · rw [if_neg z]; exact e
theorem Vw.frzO (R : Rel c g Ks ρ ts σ H) {o : Ow} {k : Kd} {d : D} {v : V} (h : Vw c g H o k d v) (hk : k ≠ .src) : Vw c (g.frz H o) H o .fz d v := by
  cases k with
  | fz => exact Fz.mono (R.sameFrz o) h
  | own =>
    rcases h with ⟨_, h1⟩ | ⟨a, rfl, h2, h3⟩
    · exact Fz.mono (R.sameFrz o) h1
    · exact h3.fz (R.sameFrz o) (by show (if g.ow a = some o then H a else g.F a) = H a; rw [if_pos h2])
  | src => exact absurd rfl hk
theorem Vw.frzE (R : Rel c g Ks ρ ts σ H) {o o' : Ow} (ne : o' ≠ o) {k : Kd} {d : D} {v : V} (h : Vw c g H o' k d v) : Vw c (g.frz H o) H o' k d v :=
  h.mono (R.sameFrz o) fun a e => ⟨by
    show (if g.ow a = some o then none else g.ow a) = some o'
    rw [if_neg fun z => ne (Option.some.inj (e.symm.trans z))]; exact e, rfl⟩
theorem Rel.frzBase (R : Rel c g Ks ρ ts σ H) (o : Ow) :
    Same (g.frz H o).F H ∧ Same c.F0 (g.frz H o).F ∧ (∀ a, c.B a ≠ none → (g.frz H o).F a = c.F0 a) ∧ (∀ a o', (g.frz H o).ow a = some o' → (g.frz H o).F a = none ∧ c.B a = none ∧ H a ≠ none) ∧
    (c.hs = true → SrcOk c ρ.src H ∧ c.aS ≠ c.aC ∧ (g.frz H o).F c.aS = none ∧ (g.frz H o).F c.aC = none ∧ c.B c.aS = none ∧ c.B c.aC = none ∧ (g.frz H o).ow c.aS = none ∧ (g.frz H o).ow c.aC = none) := by
  refine ⟨fun a x e => ?_, R.ff.trans (R.sameFrz o), fun a h => ?_, fun a o' e => ?_, fun h => ?_⟩
  · have e' : (if g.ow a = some o then H a else g.F a) = some x := e
    by_cases z : g.ow a = some o
    · rwa [if_pos z] at e'
    · rw [if_neg z] at e'; exact R.fh _ _ e'
  · show (if g.ow a = some o then H a else g.F a) = _
    rw [if_neg fun z => h (R.ow a o z).2.1]; exact R.fb a h
  · have e' : (if g.ow a = some o then none else g.ow a) = some o' := e
    by_cases z : g.ow a = some o
    · rw [if_pos z] at e'; cases e'
    · rw [if_neg z] at e'
      obtain ⟨h1, h2, h3⟩ := R.ow a o' e'
      exact ⟨by show (if g.ow a = some o then H a else g.F a) = none; rw [if_neg z]; exact h1, h2, h3⟩
  · obtain ⟨h0, h1, h2, h3, h4, h5, h6, h7⟩ := R.src h
    have q1 : ¬ g.ow c.aS = some o := by rw [h6]; exact nofun
    have q2 : ¬ g.ow c.aC = some o := by rw [h7]; exact nofun
    exact ⟨h0, h1, by show (if g.ow c.aS = some o then H c.aS else g.F c.aS) = none; rw [if_neg q1]; exact h2, by show (if g.ow c.aC = some o then H c.aC else g.F c.aC) = none; rw [if_neg q2]; exact h3, h4, h5,
      by show (if g.ow c.aS = some o then none else g.ow c.aS) = none; rw [if_neg q1]; exact h6, by show (if g.ow c.aC = some o then none else g.ow c.aC) = none; rw [if_neg q2]; exact h7⟩
theorem getD_set {α : Type} {xs : List α} {i j : Nat} {x y : α} : (xs.set i x).getD j y = if i = j ∧ i < xs.length then x else xs.getD j y := by
  rw [List.getD_eq_getElem?_getD, List.getD_eq_getElem?_getD, List.getElem?_set]
  by_cases h : i = j
  · subst h
    by_cases hl : i < xs.length
    · simp [hl]
    · simp [hl]
  · simp [h]
/-- a slot's list or dict is frozen -/
theorem Rel.frzSl (R : Rel c g Ks ρ ts σ H) (i : Nat) (hk : Ks.getD i .fz ≠ .src) : Rel c (g.frz H (.sl i)) (Ks.set i .fz) ρ ts σ H := by
  obtain ⟨b1, b2, b3, b4, b5⟩ := R.frzBase (.sl i)
  refine ⟨b1, R.bh, b2, b3, R.len, fun j d e => ?_, fun j t e => ?_, b4, b5⟩
  · obtain ⟨v, h1, h2⟩ := R.sl j d e
    refine ⟨v, h1, ?_⟩
    rw [getD_set]
    by_cases z : i = j
    · subst z
      by_cases hl : i < Ks.length
      · rw [if_pos ⟨rfl, hl⟩]; exact h2.frzO R hk
      · rw [if_neg fun q => hl q.2]
        have e0 : Ks.getD i .fz = .fz := by rw [List.getD_eq_getElem?_getD, List.getElem?_eq_none (by omega)]; rfl
        rw [e0]; exact h2.frzO R hk
    · rw [if_neg fun q => z q.1]
      exact h2.frzE R fun q => z (by cases q; rfl)
  · exact (R.tm j t e).frzE R (fun q => by cases q)
/-- the last value in hand is frozen -/
theorem Rel.frzTm {k : Kd} {d : D} {v : V} (R : Rel c g Ks ρ (ts ++ [(k, d, v)]) σ H) (hk : k ≠ .src) : Rel c (g.frz H (.tm ts.length)) Ks ρ (ts ++ [(.fz, d, v)]) σ H := by
  obtain ⟨b1, b2, b3, b4, b5⟩ := R.frzBase (.tm ts.length)
  refine ⟨b1, R.bh, b2, b3, R.len, fun j d e => ?_, fun j t e => ?_, b4, b5⟩
  · obtain ⟨v, h1, h2⟩ := R.sl j d e
    exact ⟨v, h1, h2.frzE R (fun q => by cases q)⟩
  · rcases getElem?_snoc e with ⟨e, hj⟩ | ⟨rfl, rfl⟩
    · refine (R.tm j t ?_).frzE R fun q => by cases q; omega
      rw [List.getElem?_append_left hj]; exact e
    · have := R.tm ts.length (k, d, v) (by rw [List.getElem?_append_right (Nat.le_refl _), Nat.sub_self]; rfl)
      exact this.frzO R hk
end
end EvS
set_option linter.all false
set_option Elab.async false
set_option maxRecDepth 100000
set_option maxHeartbeats 4000000
/-! Ev2: slots set and changed; views; readings by functions. -/
namespace EvS
open PySem PySem.Spec PyProof.Rows L2 EvK
open Ev (D Ste Src getS wipe restore flatK tupK dget dset okK)

section
variable {c : Ct} {g : Gh} {Ks Ks' : List Kd} {ρ : Ste} {ts ts' : List Tm} {σ : L2.St} {H : Hp}

theorem getS_set {sl : Ev.Slots} {i j : Nat} {x : Option D} : getS (sl.set i x) j = if i = j ∧ i < sl.length then x else getS sl j := by
  unfold getS
  rw [List.getElem?_set]
  by_cases h : i = j
  · subst h
    by_cases hl : i < sl.length
    · simp [hl]
    · simp [hl]
  · simp [h]
theorem getS_lt {sl : Ev.Slots} {i : Nat} {d : D} (h : getS sl i = some d) : i < sl.length := by
  by_cases hl : i < sl.length
  · exact hl
  · unfold getS at h; rw [List.getElem?_eq_none (by omega)] at h; cases h
theorem getD_ge {Ks : List Kd} {i : Nat} (h : Ks.length ≤ i) : Ks.getD i .fz = .fz := by
  rw [List.getD_eq_getElem?_getD, List.getElem?_eq_none h]; rfl
theorem kd_lt {Ks : List Kd} {i : Nat} {k : Kd} (h : Ks.getD i .fz = k) (ne : k ≠ .fz) : i < Ks.length := by
  by_cases hl : i < Ks.length
  · exact hl
  · rw [getD_ge (by omega)] at h; exact absurd h.symm ne

/-- slot i takes the last value in hand, frozen -/
theorem Rel.setFz {d : D} {v : V} (R : Rel c g Ks ρ (ts ++ [(.fz, d, v)]) σ H) (i : Nat) : Rel c g (Ks.set i .fz) { ρ with sl := ρ.sl.set i (some d) } ts (σ.set i (some v)) H := by
  have ht : Fz c.P c.w c.K g.F v d := R.tm ts.length (.fz, d, v) (by rw [List.getElem?_append_right (Nat.le_refl _), Nat.sub_self]; rfl)
  refine ⟨R.fh, R.bh, R.ff, R.fb, by simp [R.len], fun j e he => ?_, fun j t e => R.drop.tm j t e, R.ow, R.src⟩
  have he : getS (ρ.sl.set i (some d)) j = some e := he
  rw [getS_set] at he
  by_cases z : i = j ∧ i < ρ.sl.length
  · rw [if_pos z] at he
    cases he
    obtain ⟨rfl, hl⟩ := z
    refine ⟨v, by rw [List.getElem?_set, if_pos rfl, if_pos (by rw [← R.len]; exact hl)], ?_⟩
    have e0 : (Ks.set i .fz).getD i .fz = .fz := by
      rw [getD_set]
      by_cases q : i < Ks.length
      · rw [if_pos ⟨rfl, q⟩]
      · rw [if_neg fun z => q z.2, getD_ge (by omega)]
    rw [e0]; exact ht
  · rw [if_neg z] at he
    have hij : i ≠ j := fun q => z ⟨q, by subst q; exact getS_lt he⟩
    obtain ⟨u, h1, h2⟩ := R.sl j e he
    refine ⟨u, by rw [List.getElem?_set_ne hij]; exact h1, ?_⟩
    rw [getD_set, if_neg fun q => hij q.1]; exact h2
/-- the list or dict of one owner goes to another -/
def Gh.pass (g : Gh) (o o' : Ow) : Gh := ⟨g.F, fun a => if g.ow a = some o then some o' else g.ow a⟩
/-- slot i takes the last value in hand, as its own -/
theorem Rel.setOwn {d : D} {v : V} (R : Rel c g Ks ρ (ts ++ [(.own, d, v)]) σ H) (i : Nat) (hi : i < Ks.length) :
    Rel c (g.pass (.tm ts.length) (.sl i)) (Ks.set i .own) { ρ with sl := ρ.sl.set i (some d) } ts (σ.set i (some v)) H := by
  have ht : Vw c g H (.tm ts.length) .own d v := R.tm ts.length (.own, d, v) (by rw [List.getElem?_append_right (Nat.le_refl _), Nat.sub_self]; rfl)
  have oth : ∀ {o : Ow}, o ≠ .tm ts.length → ∀ a, g.ow a = some o → (g.pass (.tm ts.length) (.sl i)).ow a = some o ∧ H a = H a := fun {o} ne a e => ⟨by
    show (if g.ow a = some (.tm ts.length) then _ else g.ow a) = some o
    rw [if_neg fun z => ne (Option.some.inj (e.symm.trans z))]; exact e, rfl⟩
  have owq : ∀ a o, (g.pass (.tm ts.length) (.sl i)).ow a = some o → ∃ o', g.ow a = some o' := fun a o e => by
    have e' : (if g.ow a = some (.tm ts.length) then some (Ow.sl i) else g.ow a) = some o := e
    by_cases z : g.ow a = some (.tm ts.length)
    · exact ⟨_, z⟩
    · rw [if_neg z] at e'; exact ⟨_, e'⟩
  refine ⟨R.fh, R.bh, R.ff, R.fb, by simp [R.len], fun j e he => ?_, fun j t e => ?_, fun a o e => ?_, fun h => ?_⟩
  · have he : getS (ρ.sl.set i (some d)) j = some e := he
    rw [getS_set] at he
    by_cases z : i = j ∧ i < ρ.sl.length
    · rw [if_pos z] at he
      cases he
      obtain ⟨rfl, hl⟩ := z
      refine ⟨v, by rw [List.getElem?_set, if_pos rfl, if_pos (by rw [← R.len]; exact hl)], ?_⟩
      rw [getD_set, if_pos ⟨rfl, hi⟩]
      rcases ht with ht | ⟨a, rfl, h2, h3⟩
      · exact .inl ht
      · exact .inr ⟨a, rfl, by show (if g.ow a = some (.tm ts.length) then _ else g.ow a) = some (.sl i); rw [if_pos h2], h3⟩
    · rw [if_neg z] at he
      have hij : i ≠ j := fun q => z ⟨q, by subst q; exact getS_lt he⟩
      obtain ⟨u, h1, h2⟩ := R.sl j e he
      refine ⟨u, by rw [List.getElem?_set_ne hij]; exact h1, ?_⟩
      rw [getD_set, if_neg fun q => hij q.1]; exact h2.mono (g := g) (Same.refl g.F) (oth (by simp))
  · refine (R.drop.tm j t e).mono (g := g) (Same.refl g.F) (oth fun q => ?_)
    have := (List.getElem?_eq_some_iff.mp e).1
    cases q; omega
  · obtain ⟨o', e'⟩ := owq a o e
    exact R.ow a o' e'
  · obtain ⟨h0, h1, h2, h3, h4, h5, h6, h7⟩ := R.src h
    refine ⟨h0, h1, h2, h3, h4, h5, ?_, ?_⟩
    · cases q : (g.pass (.tm ts.length) (.sl i)).ow c.aS with
      | none => rfl
      | some o => obtain ⟨o', e'⟩ := owq _ _ q; rw [h6] at e'; cases e'
    · cases q : (g.pass (.tm ts.length) (.sl i)).ow c.aC with
      | none => rfl
      | some o => obtain ⟨o', e'⟩ := owq _ _ q; rw [h7] at e'; cases e'
/-- what slot i owns, handed out (the slot is read no more) -/
theorem Rel.takeSl (R : Rel c g Ks ρ ts σ H) {i : Nat} {d : D} (hk : Ks.getD i .fz = .own) (hd : getS ρ.sl i = some d) :
    ∃ v, σ[i]? = some (some v) ∧ Rel c (g.pass (.sl i) (.tm ts.length)) Ks { ρ with sl := ρ.sl.set i none } (ts ++ [(.own, d, v)]) σ H := by
  obtain ⟨v, hv, hw⟩ := R.sl i d hd
  rw [hk] at hw
  have oth : ∀ {o : Ow}, o ≠ .sl i → ∀ a, g.ow a = some o → (g.pass (.sl i) (.tm ts.length)).ow a = some o ∧ H a = H a := fun {o} ne a e => ⟨by
    show (if g.ow a = some (.sl i) then _ else g.ow a) = some o
    rw [if_neg fun z => ne (Option.some.inj (e.symm.trans z))]; exact e, rfl⟩
  have owq : ∀ a o, (g.pass (.sl i) (.tm ts.length)).ow a = some o → ∃ o', g.ow a = some o' := fun a o e => by
    have e' : (if g.ow a = some (.sl i) then some (Ow.tm ts.length) else g.ow a) = some o := e
    by_cases z : g.ow a = some (.sl i)
    · exact ⟨_, z⟩
    · rw [if_neg z] at e'; exact ⟨_, e'⟩
  refine ⟨v, hv, R.fh, R.bh, R.ff, R.fb, by simp [R.len], fun j e he => ?_, fun j t e => ?_, fun a o e => ?_, fun h => ?_⟩
  · have he : getS (ρ.sl.set i none) j = some e := he
    rw [getS_set] at he
    by_cases z : i = j ∧ i < ρ.sl.length
    · rw [if_pos z] at he; cases he
    · rw [if_neg z] at he
      have hij : i ≠ j := fun q => z ⟨q, by subst q; exact getS_lt he⟩
      obtain ⟨u, h1, h2⟩ := R.sl j e he
      exact ⟨u, h1, h2.mono (g := g) (Same.refl g.F) (oth fun q => hij (by cases q; rfl))⟩
  · rcases getElem?_snoc e with ⟨e, _⟩ | ⟨rfl, rfl⟩
    · exact (R.tm j t e).mono (g := g) (Same.refl g.F) (oth fun q => by cases q)
    · rcases hw with hw | ⟨a, rfl, h2, h3⟩
      · exact .inl hw
      · exact .inr ⟨a, rfl, by show (if g.ow a = some (.sl i) then _ else g.ow a) = _; rw [if_pos h2], h3⟩
  · obtain ⟨o', e'⟩ := owq a o e
    exact R.ow a o' e'
  · obtain ⟨h0, h1, h2, h3, h4, h5, h6, h7⟩ := R.src h
    refine ⟨h0, h1, h2, h3, h4, h5, ?_, ?_⟩
    · cases q : (g.pass (.sl i) (.tm ts.length)).ow c.aS with
      | none => rfl
      | some o => obtain ⟨o', e'⟩ := owq _ _ q; rw [h6] at e'; cases e'
    · cases q : (g.pass (.sl i) (.tm ts.length)).ow c.aC with
      | none => rfl
      | some o => obtain ⟨o', e'⟩ := owq _ _ q; rw [h7] at e'; cases e'
/-- slot i's own list or dict is changed -/
theorem Rel.mut (R : Rel c g Ks ρ ts σ H) {i : Nat} {d d' : D} {a : Addr} {o : HO} (hk : Ks.getD i .fz = .own) (hd : getS ρ.sl i = some d) (hv : σ[i]? = some (some (.ref a))) (ho : g.ow a = some (.sl i))
    (h : Top c g.F (upd H a o) a d') : Rel c g Ks { ρ with sl := ρ.sl.set i (some d') } ts σ (upd H a o) := by
  obtain ⟨nf, nb, nh⟩ := R.ow a _ ho
  have oth : ∀ {o' : Ow}, o' ≠ .sl i → ∀ b, g.ow b = some o' → g.ow b = some o' ∧ upd H a o b = H b := fun {o'} ne b e => ⟨e, upd_ne fun z => ne (by rw [z, ho] at e; exact (Option.some.inj e).symm)⟩
  refine ⟨fun b x e => ?_, fun b x e => ?_, R.ff, R.fb, by simp [R.len], fun j e he => ?_, fun j t e => ?_, fun b o' e => ?_, fun hs => ?_⟩
  · rw [upd_ne fun z => by rw [z, nf] at e; cases e]; exact R.fh _ _ e
  · rw [upd_ne fun z => by rw [z, nb] at e; cases e]; exact R.bh _ _ e
  · have he : getS (ρ.sl.set i (some d')) j = some e := he
    rw [getS_set] at he
    by_cases z : i = j ∧ i < ρ.sl.length
    · rw [if_pos z] at he
      cases he
      obtain ⟨rfl, hl⟩ := z
      exact ⟨.ref a, hv, by rw [hk]; exact .inr ⟨a, rfl, ho, h⟩⟩
    · rw [if_neg z] at he
      have hij : i ≠ j := fun q => z ⟨q, by subst q; exact getS_lt he⟩
      obtain ⟨u, h1, h2⟩ := R.sl j e he
      exact ⟨u, h1, h2.mono (g := g) (Same.refl g.F) (oth fun q => hij (by cases q; rfl))⟩
  · exact (R.tm j t e).mono (g := g) (Same.refl g.F) (oth fun q => by cases q)
  · obtain ⟨h1, h2, h3⟩ := R.ow b o' e
    refine ⟨h1, h2, ?_⟩
    by_cases z : b = a
    · rw [z, upd_same]; simp
    · rw [upd_ne z]; exact h3
  · obtain ⟨h0, h1, h2, h3, h4, h5, h6, h7⟩ := R.src hs
    have z1 : c.aS ≠ a := fun z => by rw [z, ho] at h6; cases h6
    have z2 : c.aC ≠ a := fun z => by rw [z, ho] at h7; cases h7
    exact ⟨h0.mono (upd_ne z1) (upd_ne z2), h1, h2, h3, h4, h5, h6, h7⟩

/-- kinds lowered -/
def leK : List Kd → List Kd → Bool
  | [], [] => true
  | k' :: r', k :: r => (k' == k || (k' == .fz && k == .own)) && leK r' r
  | _, _ => false
theorem leK_len : ∀ {Ks' Ks : List Kd}, leK Ks' Ks = true → Ks'.length = Ks.length
  | [], [], _ => rfl
  | _ :: _, _ :: _, h => by
    simp only [leK, Bool.and_eq_true] at h
    rw [List.length_cons, List.length_cons, leK_len h.2]
  | [], _ :: _, h => by simp [leK] at h
  | _ :: _, [], h => by simp [leK] at h
theorem leK_at : ∀ {Ks' Ks : List Kd} {i : Nat}, leK Ks' Ks = true → Ks'.getD i .fz = Ks.getD i .fz ∨ (Ks'.getD i .fz = .fz ∧ Ks.getD i .fz = .own)
  | [], [], _, _ => .inl rfl
  | k' :: r', k :: r, 0, h => by
    simp only [leK, Bool.and_eq_true, Bool.or_eq_true, beq_iff_eq] at h
    rcases h.1 with e | e
    · exact .inl e
    · exact .inr e
  | _ :: r', _ :: r, i + 1, h => by
    simp only [leK, Bool.and_eq_true] at h
    exact leK_at (Ks' := r') (Ks := r) (i := i) h.2
  | [], _ :: _, _, h => by simp [leK] at h
  | _ :: _, [], _, h => by simp [leK] at h
theorem Rel.sameK (R : Rel c g Ks ρ ts σ H) (h : ∀ i, Ks'.getD i .fz = Ks.getD i .fz) : Rel c g Ks' ρ ts σ H :=
  ⟨R.fh, R.bh, R.ff, R.fb, R.len, fun i d e => by
    obtain ⟨v, h1, h2⟩ := R.sl i d e
    exact ⟨v, h1, by rw [h i]; exact h2⟩, R.tm, R.ow, R.src⟩
theorem Rel.low (R : Rel c g Ks ρ ts σ H) (h : leK Ks' Ks = true) : ∃ g', Rel c g' Ks' ρ ts σ H := by
  have main : ∀ n, n ≤ Ks.length → ∃ g', Rel c g' (Ks'.take n ++ Ks.drop n) ρ ts σ H := by
    intro n
    induction n with
    | zero => intro _; exact ⟨g, by simpa using R⟩
    | succ n ih =>
      intro hn
      obtain ⟨g', R'⟩ := ih (by omega)
      have hl := leK_len h
      have hn' : n < Ks'.length := by omega
      have e1 : (Ks'.take n ++ Ks.drop n).getD n .fz = Ks.getD n .fz := by
        rw [List.getD_eq_getElem?_getD, List.getElem?_append_right (by simp; omega)]
        rw [List.length_take, Nat.min_eq_left (by omega), Nat.sub_self, List.getElem?_drop, List.getD_eq_getElem?_getD]
        simp
      have e2 : Ks'.take (n + 1) ++ Ks.drop (n + 1) = (Ks'.take n ++ Ks.drop n).set n (Ks'.getD n .fz) := by
        rw [List.set_append, if_neg (by rw [List.length_take]; omega), List.length_take, Nat.min_eq_left (by omega), Nat.sub_self]
        rw [List.drop_eq_getElem_cons (show n < Ks.length by omega)]
        rw [List.set_cons_zero, List.getD_eq_getElem?_getD, List.getElem?_eq_getElem hn', Option.getD_some]
        have e3 : Ks'.take (n + 1) = Ks'.take n ++ [Ks'[n]] := by rw [List.take_add_one, List.getElem?_eq_getElem hn']; rfl
        rw [e3, List.append_assoc]
        rfl
      rcases leK_at (i := n) h with q | ⟨q1, q2⟩
      · refine ⟨g', R'.sameK fun i => ?_⟩
        rw [e2, getD_set]
        by_cases z : n = i ∧ n < (Ks'.take n ++ Ks.drop n).length
        · rw [if_pos z, ← z.1, e1]; exact q
        · rw [if_neg z]
      · rw [e2, q1]
        exact ⟨_, R'.frzSl n (by rw [e1, q2]; decide)⟩
  obtain ⟨g', R'⟩ := main Ks.length (Nat.le_refl _)
  have hl := leK_len h
  refine ⟨g', ?_⟩
  rwa [List.drop_length, List.append_nil, List.take_of_length_le (by omega)] at R'

/-! ### views of operands -/
def View (c : Ct) (g : Gh) (H : Hp) (d : D) (v : V) : Prop := ∃ o k, k ≠ .src ∧ Vw c g H o k d v
theorem Fz.view {d : D} {v : V} (h : Fz c.P c.w c.K g.F v d) : View c g H d v := ⟨.tm 0, .fz, by decide, h⟩
theorem View.list {ds : List D} {v : V} (R : Rel c g Ks ρ ts σ H) (h : View c g H (.list ds) v) : ∃ a vs, v = .ref a ∧ H a = some (.lst vs) ∧ FzA c.P c.w c.K g.F vs ds := by
  obtain ⟨o, k, hk, h⟩ := h
  cases k with
  | fz =>
    cases h with
    | lst h t => exact ⟨_, _, rfl, R.fh _ _ h, t⟩
  | own =>
    rcases h with ⟨h, _⟩ | ⟨a, rfl, h2, h3⟩
    · simp [isC] at h
    · rcases h3 with ⟨ds', vs, e, h4, h5⟩ | ⟨kvs, es, e, _⟩
      · cases e; exact ⟨a, vs, rfl, h4, h5⟩
      · cases e
  | src => exact absurd rfl hk
theorem View.tuple {ds : List D} {v : V} (R : Rel c g Ks ρ ts σ H) (h : View c g H (.tuple ds) v) : ∃ a vs, v = .ref a ∧ TuP c.K g.F a vs ∧ SqT c.K H a vs ∧ FzA c.P c.w c.K g.F vs ds := by
  obtain ⟨o, k, hk, h⟩ := h
  cases k with
  | fz =>
    cases h with
    | tup h t => exact ⟨_, _, rfl, h, same_tup R.fh h.sq, t⟩
  | own =>
    rcases h with ⟨_, h⟩ | ⟨a, rfl, h2, h3⟩
    · cases h with
      | tup h t => exact ⟨_, _, rfl, h, same_tup R.fh h.sq, t⟩
    · rcases h3 with ⟨ds', vs, e, h4, h5⟩ | ⟨kvs, es, e, _⟩ <;> cases e
  | src => exact absurd rfl hk
theorem View.dict {kvs : List (D × D)} {v : V} (R : Rel c g Ks ρ ts σ H) (h : View c g H (.dict kvs) v) : ∃ a es, v = .ref a ∧ DcO c.P c.w a (H a) es ∧ FzE c.P c.w c.K g.F es kvs := by
  obtain ⟨o, k, hk, h⟩ := h
  cases k with
  | fz =>
    cases h with
    | dic h t =>
      refine ⟨_, _, rfl, ?_, t⟩
      rcases h with ⟨h, q⟩ | ⟨h, q⟩
      · exact .inl ⟨R.fh _ _ h, q⟩
      · exact .inr ⟨R.fh _ _ h, q⟩
  | own =>
    rcases h with ⟨h, _⟩ | ⟨a, rfl, h2, h3⟩
    · simp [isC] at h
    · rcases h3 with ⟨ds', vs, e, h4, h5⟩ | ⟨kvs, es, e, h4, h5⟩
      · cases e
      · cases e; exact ⟨a, es, rfl, h4, h5⟩
  | src => exact absurd rfl hk
/-- data without lists or dicts at its top is frozen -/
theorem View.fz {d : D} {v : V} (h : View c g H d v) (n : ∀ xs, d ≠ .list xs) (n' : ∀ xs, d ≠ .dict xs) : Fz c.P c.w c.K g.F v d := by
  obtain ⟨o, k, hk, h⟩ := h
  cases k with
  | fz => exact h
  | own =>
    rcases h with ⟨_, h⟩ | ⟨a, rfl, h2, h3⟩
    · exact h
    · rcases h3 with ⟨ds', vs, e, h4, h5⟩ | ⟨kvs, es, e, h4, h5⟩
      · exact absurd e (n _)
      · exact absurd e (n' _)
  | src => exact absurd rfl hk
theorem View.int {i : Int} {v : V} (h : View c g H (.int i) v) : v = .int i := by
  cases h.fz nofun nofun; rfl
theorem View.bl {i : Bool} {v : V} (h : View c g H (.bool i) v) : v = .bl i := by
  cases h.fz nofun nofun; rfl
theorem View.str {i : Str} {v : V} (h : View c g H (.str i) v) : v = .str i := by
  cases h.fz nofun nofun; rfl
theorem View.non {v : V} (h : View c g H .none v) : v = .non := by
  cases h.fz nofun nofun; rfl
mutual
theorem Fz.dp {F : Hp} (s : Same F H) : ∀ {v : V} {d : D}, Fz c.P c.w c.K F v d → d.canLay0 = true → Dp c.K H v d
  | _, _, .non, _ => .non
  | _, _, .bl b, _ => .bl b
  | _, _, .int i, _ => .int i
  | _, _, .str x, _ => .str x
  | _, _, .lst h t, k => .lst (.inl (.inl (s _ _ h))) (FzA.dp s t (by simpa only [PyData.canLay0] using k))
  | _, _, .tup h t, k => .tup (same_tup s h.sq) (FzA.dp s t (by simpa only [PyData.canLay0] using k))
  | _, _, .dic _ _, k => by simp [PyData.canLay0] at k
theorem FzA.dp {F : Hp} (s : Same F H) : ∀ {vs : List V} {ds : List D}, FzA c.P c.w c.K F vs ds → PyData.canLayAll0 ds = true → DpAll c.K H vs ds
  | _, _, .nil, _ => .nil
  | _, _, .cons h t, k => by
    simp only [PyData.canLayAll0, Bool.and_eq_true] at k
    exact .cons (Fz.dp s h k.1) (FzA.dp s t k.2)
end
theorem View.dp {d : D} {v : V} (R : Rel c g Ks ρ ts σ H) (h : View c g H d v) (k : d.canLay0 = true) : Dp c.K H v d := by
  cases d with
  | list ds =>
    obtain ⟨a, vs, rfl, h1, h2⟩ := h.list R
    exact .lst (.inl (.inl h1)) (h2.dp R.fh (by simpa only [PyData.canLay0] using k))
  | dict kvs => simp [PyData.canLay0] at k
  | none => exact (h.fz nofun nofun).dp R.fh k
  | bool _ => exact (h.fz nofun nofun).dp R.fh k
  | int _ => exact (h.fz nofun nofun).dp R.fh k
  | str _ => exact (h.fz nofun nofun).dp R.fh k
  | tuple _ => exact (h.fz nofun nofun).dp R.fh k
/-- an owned list or dict, where it stands -/
theorem Vw.own {o : Ow} {d : D} {v : V} (h : Vw c g H o .own d v) (hc : isC d = true) : ∃ a, v = .ref a ∧ g.ow a = some o ∧ Top c g.F H a d := by
  rcases h with ⟨h, _⟩ | h
  · rw [hc] at h; cases h
  · exact h
theorem Top.list {F : Hp} {a : Addr} {ds : List D} (h : Top c F H a (.list ds)) : ∃ vs, H a = some (.lst vs) ∧ FzA c.P c.w c.K F vs ds := by
  rcases h with ⟨ds', vs, e, h4, h5⟩ | ⟨kvs, es, e, _⟩
  · cases e; exact ⟨vs, h4, h5⟩
  · cases e
theorem Top.dict {F : Hp} {a : Addr} {kvs : List (D × D)} (h : Top c F H a (.dict kvs)) : ∃ es, DcO c.P c.w a (H a) es ∧ FzE c.P c.w c.K F es kvs := by
  rcases h with ⟨ds', vs, e, h4, h5⟩ | ⟨kvs, es, e, h⟩
  · cases e
  · cases e; exact ⟨es, h⟩
end
end EvS
set_option linter.all false
set_option Elab.async false
set_option maxRecDepth 100000
set_option maxHeartbeats 4000000
/-! EvD: dicts of both sorts: read, asked, written. -/
namespace EvS
open PySem PySem.Spec PyProof.Rows L2 EvK
open Ev (D Ste Src getS wipe restore flatK tupK dget dset okK)

/-! ### keys -/
theorem keyOf_flat {k e : D} (hk : flatK k = true) (he : flatK e = true) : PyData.eqv e k = decide (keyOf e = keyOf k) := by
  cases k <;> simp only [flatK, Bool.false_eq_true] at hk <;> cases e <;> simp only [flatK, Bool.false_eq_true] at he
  · rename_i i j; show (j == i) = decide ((Sum.inl j : Key) = Sum.inl i); rw [key_ll]
  · rename_i i j; show false = decide ((Sum.inr j : Key) = Sum.inl i); rw [key_rl]
  · rename_i i j; show false = decide ((Sum.inl j : Key) = Sum.inr i); rw [key_lr]
  · rename_i i j
    show (j == i) = decide ((Sum.inr j : Key) = Sum.inr i)
    rw [key_rr]
    by_cases z : j = i
    · subst z; simp
    · rw [decide_eq_false z]; exact beq_eq_false_iff_ne.mpr z
theorem tup_flat {k : D} (h : tupK k = true) (h' : flatK k = true) : False := by
  cases k <;> simp [flatK, tupK] at h h'
def eget : List Ent → D → Option V
  | [], _ => none
  | e :: r, k => if PyData.eqv e.1 k then some e.2.2 else eget r k
def eput : List Ent → D → V → V → List Ent
  | [], k, kv, v => [(k, kv, v)]
  | e :: r, k, kv, v => if PyData.eqv e.1 k then (e.1, e.2.1, v) :: r else e :: eput r k kv v
theorem eput_len : ∀ (es : List Ent) (k : D) (kv v : V), (eput es k kv v).length ≤ es.length + 1
  | [], _, _, _ => Nat.le_refl _
  | e :: r, k, kv, v => by
    unfold eput
    by_cases h : PyData.eqv e.1 k = true
    · rw [if_pos h]; simp
    · rw [if_neg h, List.length_cons, List.length_cons]; have := eput_len r k kv v; omega
theorem mem_eput {k : D} {kv v : V} {x : Ent} : ∀ {es : List Ent}, x ∈ eput es k kv v → (∃ e ∈ es, x.1 = e.1 ∧ x.2.1 = e.2.1) ∨ (x.1 = k ∧ x.2.1 = kv)
  | [], h => by
    simp only [eput, List.mem_singleton] at h; subst h; exact .inr ⟨rfl, rfl⟩
  | e :: r, h => by
    unfold eput at h
    by_cases q : PyData.eqv e.1 k = true
    · rw [if_pos q] at h
      rcases List.mem_cons.mp h with h | h
      · subst h; exact .inl ⟨e, List.mem_cons_self, rfl, rfl⟩
      · exact .inl ⟨x, List.mem_cons_of_mem _ h, rfl, rfl⟩
    · rw [if_neg q] at h
      rcases List.mem_cons.mp h with h | h
      · subst h; exact .inl ⟨x, List.mem_cons_self, rfl, rfl⟩
      · rcases mem_eput h with ⟨e', h1, h2⟩ | h
        · exact .inl ⟨e', List.mem_cons_of_mem _ h1, h2⟩
        · exact .inr h

section
variable {P : Program} {w : World} {K : PySem.W.Frag} {F : Hp}
theorem FzE.get : ∀ {es : List Ent} {kvs : List (D × D)} (k : D), FzE P w K F es kvs → (dget kvs k = none ∧ eget es k = none) ∨ ∃ d v, dget kvs k = some d ∧ eget es k = some v ∧ Fz P w K F v d
  | _, _, _, .nil => .inl ⟨rfl, rfl⟩
  | _, _, k, .cons (k := k') (d := d) (v := v) h g t => by
    unfold dget eget
    by_cases q : PyData.eqv k' k = true
    · rw [if_pos q, if_pos q]; exact .inr ⟨d, v, rfl, rfl, g⟩
    · rw [if_neg q, if_neg q]; exact FzE.get k t
theorem FzE.put {k d : D} {kv v : V} (hk : Fz P w K F kv k) (hv : Fz P w K F v d) : ∀ {es : List Ent} {kvs : List (D × D)}, FzE P w K F es kvs → FzE P w K F (eput es k kv v) (dset kvs k d)
  | _, _, .nil => .cons hk hv .nil
  | _, _, .cons (k := k') h g t => by
    unfold dset eput
    by_cases q : PyData.eqv k' k = true
    · rw [if_pos q, if_pos q]; exact .cons h hv t
    · rw [if_neg q, if_neg q]; exact .cons h g (FzE.put hk hv t)
theorem FzE.length : ∀ {es : List Ent} {kvs : List (D × D)}, FzE P w K F es kvs → es.length = kvs.length
  | _, _, .nil => rfl
  | _, _, .cons _ _ t => by rw [List.length_cons, List.length_cons, FzE.length t]
theorem FzE.keys : ∀ {es : List Ent} {kvs : List (D × D)}, FzE P w K F es kvs → es.map (·.1) = kvs.map (·.1)
  | _, _, .nil => rfl
  | _, _, .cons _ _ t => by rw [List.map_cons, List.map_cons, FzE.keys t]
theorem FzE.key : ∀ {es : List Ent} {kvs : List (D × D)}, FzE P w K F es kvs → ∀ e ∈ es, Fz P w K F e.2.1 e.1
  | _, _, .nil, e, h => by simp at h
  | _, _, .cons h g t, e, he => by
    rcases List.mem_cons.mp he with rfl | he
    · exact h
    · exact FzE.key t e he
theorem FzE.flat {es : List Ent} {kvs : List (D × D)} (h : FzE P w K F es kvs) (q : kvs.all (fun p => flatK p.1) = true) : ∀ e ∈ es, flatK e.1 = true := fun e he => by
  have hm : e.1 ∈ kvs.map (·.1) := by rw [← h.keys]; exact List.mem_map.mpr ⟨e, he, rfl⟩
  obtain ⟨p, hp, e1⟩ := List.mem_map.mp hm
  rw [← e1]; exact List.all_eq_true.mp q p hp
theorem FzE.tup {es : List Ent} {kvs : List (D × D)} (h : FzE P w K F es kvs) (q : kvs.all (fun p => tupK p.1) = true) : ∀ e ∈ es, tupK e.1 = true := fun e he => by
  have hm : e.1 ∈ kvs.map (·.1) := by rw [← h.keys]; exact List.mem_map.mpr ⟨e, he, rfl⟩
  obtain ⟨p, hp, e1⟩ := List.mem_map.mp hm
  rw [← e1]; exact List.all_eq_true.mp q p hp
theorem flat_val {k : D} (hk : flatK k = true) : ∀ {es : List Ent}, (∀ e ∈ es, flatK e.1 = true) → valV (es.map fun e => (keyOf e.1, e.2.2)) (keyOf k) = eget es k
  | [], _ => rfl
  | e :: r, h => by
    have h1 := h e List.mem_cons_self
    have ih := flat_val hk (es := r) fun x hx => h x (List.mem_cons_of_mem _ hx)
    unfold eget
    rw [keyOf_flat hk h1, List.map_cons]
    by_cases z : keyOf e.1 = keyOf k
    · rw [if_pos (decide_eq_true z), valV_pos z]
    · rw [if_neg (by rw [decide_eq_false z]; exact Bool.false_ne_true), valV_neg z, ih]
theorem flat_notin {k : D} (hk : flatK k = true) : ∀ {es : List Ent}, (∀ e ∈ es, flatK e.1 = true) → keyOf k ∉ (es.map fun e => (keyOf e.1, e.2.2)).map (·.1) → ∀ v, (es.map fun e => (keyOf e.1, e.2.2)).map (fun kv => if kv.1 = keyOf k then (kv.1, v) else kv) = es.map fun e => (keyOf e.1, e.2.2)
  | [], _, _, _ => rfl
  | e :: r, h, hn, v => by
    simp only [List.map_cons, List.mem_cons, not_or] at hn ⊢
    rw [if_neg fun z => hn.1 z.symm]
    have := flat_notin hk (es := r) (fun x hx => h x (List.mem_cons_of_mem _ hx)) (by simpa using hn.2) v
    rw [List.map_map] at this ⊢
    rw [this]
theorem flat_put {k : D} {kv : V} (hk : flatK k = true) (v : V) : ∀ {es : List Ent}, (∀ e ∈ es, flatK e.1 = true) → ((es.map fun e => (keyOf e.1, e.2.2)).map (·.1)).Nodup → putK (es.map fun e => (keyOf e.1, e.2.2)) (keyOf k) v = (eput es k kv v).map fun e => (keyOf e.1, e.2.2)
  | [], _, _ => rfl
  | e :: r, h, hn => by
    have h1 := h e List.mem_cons_self
    have hr : ∀ x ∈ r, flatK x.1 = true := fun x hx => h x (List.mem_cons_of_mem _ hx)
    simp only [List.map_cons, List.nodup_cons] at hn
    have ih := flat_put hk v (kv := kv) (es := r) hr hn.2
    unfold eput
    rw [keyOf_flat hk h1]
    by_cases z : keyOf e.1 = keyOf k
    · rw [if_pos (decide_eq_true z)]
      unfold putK
      have ha : ((e :: r).map fun e => (keyOf e.1, e.2.2)).any (fun kv => decide (kv.1 = keyOf k)) = true := by
        rw [List.map_cons, List.any_cons]; simp [z]
      rw [if_pos ha, List.map_cons, List.map_cons, if_pos z, List.map_cons]
      rw [flat_notin hk hr (by rw [← z]; exact hn.1)]
    · rw [if_neg (by rw [decide_eq_false z]; exact Bool.false_ne_true), List.map_cons, List.map_cons, ← ih]
      unfold putK
      have ha : (((keyOf e.1, e.2.2) :: r.map fun e => (keyOf e.1, e.2.2)).any fun kv => decide (kv.1 = keyOf k)) = (r.map fun e => (keyOf e.1, e.2.2)).any fun kv => decide (kv.1 = keyOf k) := by
        rw [List.any_cons, decide_eq_false z, Bool.false_or]
      rw [ha]
      by_cases q : (r.map fun e => (keyOf e.1, e.2.2)).any (fun kv => decide (kv.1 = keyOf k)) = true
      · rw [if_pos q, if_pos q, List.map_cons, if_neg z]
      · rw [if_neg q, if_neg q, List.cons_append]
abbrev EX : List Ent → List (D × Addr × Value) → Prop := Paired (fun (e : Ent) (x : D × Addr × Value) => e.1 = x.1 ∧ e.2.1 = V.ref x.2.1 ∧ RelV e.2.2 x.2.2)
theorem tup_val {k : D} (hk : tupK k = true) : ∀ {es : List Ent} {xs : List (D × Addr × Value)}, EX es xs → (∀ e ∈ es, tupK e.1 = true) → RelO (eget es k) ((atKey xs k).map (·.2))
  | _, _, .nil, _ => trivial
  | _, _, .cons (a := e) (b := x) (l₁ := r) h t, hh => by
    have h1 := hh e List.mem_cons_self
    have ih := tup_val hk t fun y hy => hh y (List.mem_cons_of_mem _ hy)
    unfold eget atKey
    rw [eqv_dec (tupK_deep h1) (tupK_deep hk), h.1, List.find?_cons]
    by_cases z : x.1 = k
    · rw [if_pos (decide_eq_true z), decide_eq_true z]; exact h.2.2
    · rw [if_neg (by rw [decide_eq_false z]; exact Bool.false_ne_true), decide_eq_false z]; exact ih
theorem tup_put {k : D} (hk : tupK k = true) {b : Addr} {v : V} {u : Value} (rv : RelV v u) : ∀ {es : List Ent} {xs : List (D × Addr × Value)}, EX es xs → (∀ e ∈ es, tupK e.1 = true) → (xs.map (·.1)).Nodup → EX (eput es k (.ref b) v) (storedH xs k b u)
  | _, _, .nil, _, _ => by
    exact .cons ⟨rfl, rfl, rv⟩ .nil
  | _, _, .cons (a := e) (b := x) (l₁ := r) (l₂ := xr) h t, hh, hn => by
    have h1 := hh e List.mem_cons_self
    simp only [List.map_cons, List.nodup_cons] at hn
    have ih := tup_put hk rv (b := b) t (fun y hy => hh y (List.mem_cons_of_mem _ hy)) hn.2
    unfold eput
    rw [eqv_dec (tupK_deep h1) (tupK_deep hk), h.1]
    by_cases z : x.1 = k
    · rw [if_pos (decide_eq_true z)]
      have ha : atKey (x :: xr) k = some x.2 := by unfold atKey; rw [List.find?_cons, decide_eq_true z]; rfl
      unfold storedH
      rw [ha, if_pos (show (some x.2).isSome = true from rfl), List.map_cons, putAt, if_pos z, map_putAt_of_not_mem xr k u (by rw [← z]; exact hn.1)]
      exact .cons ⟨rfl, h.2.1, rv⟩ t
    · rw [if_neg (by rw [decide_eq_false z]; exact Bool.false_ne_true)]
      have ha : atKey (x :: xr) k = atKey xr k := by unfold atKey; rw [List.find?_cons, decide_eq_false z]
      unfold storedH at ih ⊢
      rw [ha]
      by_cases q : (atKey xr k).isSome = true
      · rw [if_pos q] at ih ⊢
        rw [List.map_cons, putAt, if_neg z]
        exact .cons h ih
      · rw [if_neg q] at ih ⊢
        exact .cons h ih
end

/-! ### the raw dict -/
section
variable {X : Cx} {pins : List (Addr × Obj)} {σ : L2.St} {H : Hp} {s : Shared} {a : Addr} {es : List Ent} {k : D} {y v : V} {u r : Value} {A : Around} {E : Value → Shared → Prop}
theorem ext_of (I : Inv X pins σ H s) (h : H a = some (.ext (tupPhi X.prog X.w a es))) : tupPhi X.prog X.w a es s.heap := (I.hok a _ h).1
theorem dc_flat (I : Inv X pins σ H s) (h : DcO X.prog X.w a (H a) es) (fl : ∀ e ∈ es, flatK e.1 = true) :
    es.length ≤ sizeLine ∧ (a == sysModules) = false ∧ ∃ vs, KV (es.map fun e => (keyOf e.1, e.2.2)) vs ∧ s.heap.DictOf (mixKind X.prog X.w) a vs := by
  rcases h with ⟨h, _⟩ | ⟨h, q⟩
  · obtain ⟨h1, h2, h3⟩ := dk_of I.hok h
    exact ⟨by simpa using h1, h2, h3⟩
  · obtain ⟨h1, h2, xs, hp, o, rows, ep, g1, g2, g3, g4, g5⟩ := ext_of I h
    cases es with
    | nil =>
      cases hp
      refine ⟨h1, h2, [], .nil, o, rows, ep, g1, g2, g3, fun e he => ?_, ?_, List.nodup_nil⟩
      · have : e ∈ rows.toList := by simpa using he
        rw [g4] at this; simp at this
      · rw [g4]; exact .nil
    | cons e r => exact (tup_flat (q e List.mem_cons_self) (fl e List.mem_cons_self)).elim
theorem reads_of (I : Inv X pins σ H s) {d : D} {b : Addr} (h : Dp X.K H (.ref b) d) (t : tupK d = true) : (deepKind X.prog X.w).is s.heap d b := by
  obtain ⟨as, q⟩ := Dp.reads I d _ (.ref b) h rfl
  exact ⟨t, as, q⟩
theorem dc_tup (I : Inv X pins σ H s) (h : DcO X.prog X.w a (H a) es) (tk : ∀ e ∈ es, tupK e.1 = true) (kd : ∀ e ∈ es, Dp X.K H e.2.1 e.1) :
    es.length ≤ sizeLine ∧ (a == sysModules) = false ∧ ∃ xs, EX es xs ∧ s.heap.DictOfH (deepKind X.prog X.w) a xs := by
  rcases h with ⟨h, q⟩ | ⟨h, q⟩
  · cases es with
    | nil =>
      obtain ⟨h1, h2, vs, h3, o, rows, ep, g1, g2, g3, g4, g5, g6⟩ := dk_of I.hok h
      cases h3
      refine ⟨Nat.zero_le _, h2, [], .nil, o, rows, ep, g1, g2, g3, ?_, fun x hx => by simp at hx, List.nodup_nil⟩
      cases hr : rows.toList with
      | nil => rfl
      | cons z zs => rw [hr] at g5; cases g5
    | cons e r => exact (tup_flat (tk e List.mem_cons_self) (q e List.mem_cons_self)).elim
  · obtain ⟨h1, h2, xs, hp, o, rows, ep, g1, g2, g3, g4, g5⟩ := ext_of I h
    refine ⟨h1, h2, xs, hp, o, rows, ep, g1, g2, g3, g4, fun x hx => ?_, g5⟩
    obtain ⟨j, hj⟩ := List.getElem?_of_mem hx
    have aux : ∀ {es : List Ent} {xs : List (D × Addr × Value)} {j : Nat}, EX es xs → xs[j]? = some x → ∃ e ∈ es, e.1 = x.1 ∧ e.2.1 = V.ref x.2.1 := by
      intro es xs j hp
      induction hp generalizing j with
      | nil => intro e; simp at e
      | cons h t ih =>
        intro e
        cases j with
        | zero => simp at e; subst e; exact ⟨_, List.mem_cons_self, h.1, h.2.1⟩
        | succ j =>
          obtain ⟨e', h1, h2⟩ := ih (by simpa using e)
          exact ⟨e', List.mem_cons_of_mem _ h1, h2⟩
    obtain ⟨e, he, e1, e2⟩ := aux hp hj
    have := kd e he
    rw [e2, e1] at this
    exact reads_of I this (by rw [← e1]; exact tk e he)
/-- y is the key k, of the sort of the keys of es -/
def KeyFit (K : PySem.W.Frag) (H : Hp) (es : List Ent) (k : D) (y : V) : Prop :=
  (flatK k = true ∧ (∀ e ∈ es, flatK e.1 = true) ∧ y = kV (keyOf k)) ∨ (tupK k = true ∧ (∀ e ∈ es, tupK e.1 = true) ∧ (∀ e ∈ es, Dp K H e.2.1 e.1) ∧ ∃ b, y = .ref b ∧ Dp K H (.ref b) k)
theorem deep_room (hu : A.units + 32 < cLine) {P : Program} {w : World} : (deepKind P w).room A.in1 := by
  show A.units + 1 + 16 < cLine
  omega
theorem g_getItem {Q : Value → Shared → Prop} (hu : A.units + 32 < cLine) (I : Inv X pins σ H s) (h : DcO X.prog X.w a (H a) es) (f : KeyFit X.K H es k y) (g : eget es k = some v) (ry : RelV y u)
    (q : ∀ w' s', Inv X pins σ H s' → RelV v w' → Q w' s') : wpAny (model X.prog X.w) A (getItem (.ref a) u) Q E s := by
  rcases f with ⟨hk, fl, rfl⟩ | ⟨hk, tk, kd, b, rfl, hb⟩
  · obtain ⟨z, hd, vs, rel, dd⟩ := dc_flat I h fl
    obtain ⟨w', hw, rw'⟩ := RelO.some_of (v := v) (o := valueAt vs (keyOf k)) (by rw [← g, ← flat_val hk fl]; exact rel.val _)
    exact wpAny_getItem_of (kV_is ry) dd.mapOf hw (q w' _ (I.tok _) rw')
  · cases (show u = Value.ref b from ry)
    obtain ⟨z, hd, xs, rel, dd⟩ := dc_tup I h tk kd
    obtain ⟨w', hw, rw'⟩ := RelO.some_of (v := v) (o := (atKey xs k).map (·.2)) (by rw [← g]; exact tup_val hk rel tk)
    obtain ⟨p, hp, hp2⟩ := Option.map_eq_some_iff.mp hw
    refine wpAny_getItem_heap (deep_room hu) (reads_of I hb hk) dd hp ?_
    rw [hp2]
    exact q w' _ (I.tok _) rw'
theorem g_in {Q : Value → Shared → Prop} (hu : A.units + 32 < cLine) (I : Inv X pins σ H s) (h : DcO X.prog X.w a (H a) es) (f : KeyFit X.K H es k y) (ry : RelV y u)
    (q : ∀ s', Inv X pins σ H s' → Q (.bool (eget es k).isSome) s') : wpAny (model X.prog X.w) A (compareOp .In u (.ref a)) Q E s := by
  rcases f with ⟨hk, fl, rfl⟩ | ⟨hk, tk, kd, b, rfl, hb⟩
  · obtain ⟨z, hd, vs, rel, dd⟩ := dc_flat I h fl
    refine wpAny_in_of (kV_is ry) hd dd.mapOf ?_
    rw [← (rel.val _).isSome_eq, flat_val hk fl]
    exact q _ (I.tok _)
  · cases (show u = Value.ref b from ry)
    obtain ⟨z, hd, xs, rel, dd⟩ := dc_tup I h tk kd
    refine wpAny_in_heap (deep_room hu) (reads_of I hb hk) hd dd ?_
    have e := (tup_val hk rel tk).isSome_eq
    rw [Option.isSome_map] at e
    rw [← e]
    exact q _ (I.tok _)
theorem g_notIn {Q : Value → Shared → Prop} (hu : A.units + 32 < cLine) (I : Inv X pins σ H s) (h : DcO X.prog X.w a (H a) es) (f : KeyFit X.K H es k y) (ry : RelV y u)
    (q : ∀ s', Inv X pins σ H s' → Q (.bool (!(eget es k).isSome)) s') : wpAny (model X.prog X.w) A (compareOp .NotIn u (.ref a)) Q E s := by
  rcases f with ⟨hk, fl, rfl⟩ | ⟨hk, tk, kd, b, rfl, hb⟩
  · obtain ⟨z, hd, vs, rel, dd⟩ := dc_flat I h fl
    refine wpAny_notIn_of (kV_is ry) hd dd.mapOf ?_
    rw [← (rel.val _).isSome_eq, flat_val hk fl]
    exact q _ (I.tok _)
  · cases (show u = Value.ref b from ry)
    obtain ⟨z, hd, xs, rel, dd⟩ := dc_tup I h tk kd
    refine wpAny_notIn_heap (deep_room hu) (reads_of I hb hk) hd dd ?_
    have e := (tup_val hk rel tk).isSome_eq
    rw [Option.isSome_map] at e
    rw [← e]
    exact q _ (I.tok _)
theorem g_get1 {Q : Value → Shared → Prop} (hu : A.units + 32 < cLine) (I : Inv X pins σ H s) (h : DcO X.prog X.w a (H a) es) (f : KeyFit X.K H es k y) (ry : RelV y u)
    (q : ∀ w' s', Inv X pins σ H s' → RelV ((eget es k).getD .non) w' → Q w' s') : wpAny (model X.prog X.w) A (call (.builtin "dict.get") [.ref a, u]) Q E s := by
  rcases f with ⟨hk, fl, rfl⟩ | ⟨hk, tk, kd, b, rfl, hb⟩
  · obtain ⟨z, hd, vs, rel, dd⟩ := dc_flat I h fl
    refine call_meetsIn PySem.F.slot_dict_get dd.typeIs PySem.F.entry_dict_get (PySem.F.args_dict_get_2 _ _) (meets_dict_get (mixKind X.prog X.w) a (kV_is ry) hd) ⟨_, dd.mapOf, q _ _ (I.tok _) ?_⟩
    rw [← flat_val hk fl]
    exact (rel.val _).getD rfl
  · cases (show u = Value.ref b from ry)
    obtain ⟨z, hd, xs, rel, dd⟩ := dc_tup I h tk kd
    refine call_meetsIn PySem.F.slot_dict_get dd.typeIs PySem.F.entry_dict_get (PySem.F.args_dict_get_2 _ _) (meetsH_dict_get (deepKind X.prog X.w) a b hd) ⟨deep_room hu, k, xs, reads_of I hb hk, dd, q _ _ (I.tok _) ?_⟩
    exact (tup_val hk rel tk).getD rfl
theorem g_get2 {d : V} {Q : Value → Shared → Prop} (hu : A.units + 32 < cLine) (I : Inv X pins σ H s) (h : DcO X.prog X.w a (H a) es) (f : KeyFit X.K H es k y) (ry : RelV y u) (rd : RelV d r)
    (q : ∀ w' s', Inv X pins σ H s' → RelV ((eget es k).getD d) w' → Q w' s') : wpAny (model X.prog X.w) A (call (.builtin "dict.get") [.ref a, u, r]) Q E s := by
  rcases f with ⟨hk, fl, rfl⟩ | ⟨hk, tk, kd, b, rfl, hb⟩
  · obtain ⟨z, hd, vs, rel, dd⟩ := dc_flat I h fl
    refine call_meetsIn PySem.F.slot_dict_get dd.typeIs PySem.F.entry_dict_get (PySem.F.args_dict_get_3 _ _ _) (meets_dict_get_default (mixKind X.prog X.w) a (kV_is ry) hd r) ⟨_, dd.mapOf, q _ _ (I.tok _) ?_⟩
    rw [← flat_val hk fl]
    exact (rel.val _).getD rd
  · cases (show u = Value.ref b from ry)
    obtain ⟨z, hd, xs, rel, dd⟩ := dc_tup I h tk kd
    refine call_meetsIn PySem.F.slot_dict_get dd.typeIs PySem.F.entry_dict_get (PySem.F.args_dict_get_3 _ _ _) (meetsH_dict_get_default (deepKind X.prog X.w) a b hd r) ⟨deep_room hu, k, xs, reads_of I hb hk, dd, q _ _ (I.tok _) ?_⟩
    exact (tup_val hk rel tk).getD rd
/-- what stands at a behind a store -/
def putO (P : Program) (w : World) (a : Addr) (es : List Ent) (k : D) (y v : V) : HO :=
  if flatK k = true then .dK ((eput es k y v).map fun e => (keyOf e.1, e.2.2)) else .ext (tupPhi P w a (eput es k y v))
theorem putO_dc {K : PySem.W.Frag} {P : Program} {w : World} (f : KeyFit K H es k y) : DcO P w a (some (putO P w a es k y v)) (eput es k y v) := by
  rcases f with ⟨hk, fl, rfl⟩ | ⟨hk, tk, kd, b, rfl, hb⟩
  · unfold putO; rw [if_pos hk]
    refine .inl ⟨rfl, fun e he => ?_⟩
    rcases mem_eput he with ⟨e', h1, h2, _⟩ | ⟨h1, _⟩
    · rw [h2]; exact fl e' h1
    · rw [h1]; exact hk
  · unfold putO; rw [if_neg fun z => tup_flat hk z]
    refine .inr ⟨rfl, fun e he => ?_⟩
    rcases mem_eput he with ⟨e', h1, h2, _⟩ | ⟨h1, _⟩
    · rw [h2]; exact tk e' h1
    · rw [h1]; exact hk
theorem dc_mut {o : Option HO} {P : Program} {w : World} (h : DcO P w a o es) : Mut o := by
  rcases h with ⟨rfl, _⟩ | ⟨rfl, _⟩ <;> exact True.intro
theorem g_set {Q : Unit → Shared → Prop} (hu : A.units + 32 < cLine) (I : Inv X pins σ H s) (h : DcO X.prog X.w a (H a) es) (f : KeyFit X.K H es k y) (hl : es.length < sizeLine) (ry : RelV y u) (rv : RelV v r)
    (q : ∀ s', Inv X pins σ (upd H a (putO X.prog X.w a es k y v)) s' → Q () s') : wpAny (model X.prog X.w) A (setItem (.ref a) u r) Q E s := by
  have hl2 : (eput es k y v).length ≤ sizeLine := by have := eput_len es k y v; omega
  rcases f with ⟨hk, fl, rfl⟩ | ⟨hk, tk, kd, b, rfl, hb⟩
  · obtain ⟨z, hd, vs, rel, dd⟩ := dc_flat I h fl
    have hz : vs.length ≤ sizeLine := by have := rel.length; rw [List.length_map] at this; omega
    have hn : ((es.map fun e => (keyOf e.1, e.2.2)).map (·.1)).Nodup := by
      rw [rel.keys]; obtain ⟨_, _, _, _, _, _, _, _, g6⟩ := dd; exact g6
    refine wpAny_setItem_pairs (hsz := hz) (kV_is ry) dd fun h' dd' hs => q _ ?_
    have he : ∃ q, h'.get? a = some q := let ⟨q, _, _, hq, _⟩ := dd'; ⟨q, hq⟩
    have e : putO X.prog X.w a es k (kV (keyOf k)) v = .dK (putK (es.map fun e => (keyOf e.1, e.2.2)) (keyOf k) v) := by
      unfold putO; rw [if_pos hk, flat_put hk v fl hn]
    rw [e]
    exact d_write I (dc_mut h) hs he (dk_new (by rw [flat_put (kv := kV (keyOf k)) hk v fl hn, List.length_map]; exact hl2) hd (rel.put _ rv) dd')
  · cases (show u = Value.ref b from ry)
    obtain ⟨z, hd, xs, rel, dd⟩ := dc_tup I h tk kd
    have hz : xs.length ≤ sizeLine := by rw [← Paired.length rel]; exact z
    have hn : (xs.map (·.1)).Nodup := by obtain ⟨_, _, _, _, _, _, _, _, g6⟩ := dd; exact g6
    refine wpAny_setItem_heap (hsz := hz) (deep_room hu) (reads_of I hb hk) dd fun h' dd' hs => q _ ?_
    obtain ⟨ob, rows, ep, hq, h2, h3, h4, _, h5⟩ := dd'
    have e : putO X.prog X.w a es k (.ref b) v = .ext (tupPhi X.prog X.w a (eput es k (.ref b) v)) := by
      unfold putO; rw [if_neg fun z => tup_flat hk z]
    rw [e]
    refine d_write I (dc_mut h) hs ⟨ob, hq⟩ ⟨⟨hl2, hd, _, tup_put hk rv rel tk hn, ob, rows, ep, hq, h2, h3, h4, h5⟩, ⟨ob, hq⟩, fun h1 h2' hh hk' => ?_⟩
    obtain ⟨l1, l2, ys, l3, o', rows', ep', l4, l5⟩ := hh
    exact ⟨l1, l2, ys, l3, o', rows', ep', hk' _ l4, l5⟩
theorem g_len {Q : Value → Shared → Prop} (I : Inv X pins σ H s) (h : DcO X.prog X.w a (H a) es) (kd : (∀ e ∈ es, tupK e.1 = true) → ∀ e ∈ es, Dp X.K H e.2.1 e.1) (q : ∀ t s', Inv X pins σ H s' → Q (.int es.length t) s') :
    wpAny (model X.prog X.w) A (call (.builtin "len") [.ref a]) Q E s := by
  rcases id h with ⟨_, fl⟩ | ⟨_, tk⟩
  · obtain ⟨z, hd, vs, rel, dd⟩ := dc_flat I h fl
    have e : vs.length = es.length := by have := rel.length; rw [List.length_map] at this; exact this.symm
    refine call_len_dict hd dd (by rw [e]; rw [sizeLine_eq] at z; omega) ?_
    rw [e]
    exact q _ _ (I.tok _)
  · obtain ⟨z, hd, xs, rel, dd⟩ := dc_tup I h tk (kd tk)
    have e : xs.length = es.length := (Paired.length rel).symm
    refine call_len_dictH hd dd (by rw [e]; rw [sizeLine_eq] at z; omega) ?_
    rw [e]
    exact q _ _ (I.tok _)
end
end EvS
set_option linter.all false
set_option Elab.async false
set_option maxRecDepth 100000
set_option maxHeartbeats 4000000
/-! Ev3: the operators. -/
namespace EvS
open PySem PySem.Spec PyProof.Rows L2 EvK
open Ev (D Ste Src getS wipe restore flatK tupK dget dset okK binD cmpD atD eqD inD isD shapedEq Bop Cop lim)

/-! ### t * k for small k -/
section
variable {prog : Program} {w : World} {A : Around} {E : Value → Shared → Prop} {s : Shared}
theorem tuple_mul_same (l : Addr) (items : Array Value) (n : Nat) (dd : Option Addr) (sl : Array (Option Value)) (x : Int) (u : Tok) (c0 : (decide (x < -(2 ^ 63)) || decide (x ≥ 2 ^ 63)) = false) (c1 : (items.isEmpty || x == 1) = true) :
    Meets (Builtin.«tuple.__mul__» ⟨[.ref l, .int x u], []⟩) (fun _ R s => s.heap.get? l = some { cls := .type "tuple", dict := dd, data := .seq items n, slots := sl } ∧
      R (.ok (.ret (Value.ref l))) s) :=
  .of_wp fun prog w A R s h => by
    obtain ⟨hp, g, d, tk, os⟩ := s
    obtain ⟨hl, h⟩ := h
    have f1 := AutoSeq1.idx_int
    wp_walk using wpAny_loadPart' hl
    repeat (first
      | (refine wpAny_ite_false (decide_eq_false (by rw [c0]; exact Bool.false_ne_true)) ?_; wp_walk using wpAny_loadPart' hl)
      | (refine wpAny_ite_true (decide_eq_true c1) ?_; wp_walk using wpAny_loadPart' hl))
    exact ⟨_, rfl, h⟩
theorem tuple_mul_none (l : Addr) (items : Array Value) (n : Nat) (dd : Option Addr) (sl : Array (Option Value)) (x : Int) (u : Tok) (c0 : (decide (x < -(2 ^ 63)) || decide (x ≥ 2 ^ 63)) = false) (c1 : (items.isEmpty || x == 1) = false) (c2 : (decide (x ≤ 0) || items.isEmpty) = true) :
    Meets (Builtin.«tuple.__mul__» ⟨[.ref l, .int x u], []⟩) (fun _ R s => s.heap.get? l = some { cls := .type "tuple", dict := dd, data := .seq items n, slots := sl } ∧
      R (.ok (.ret (Value.ref s.heap.objs.size))) { s with heap := s.heap.push { cls := Value.type "tuple", data := Data.seq #[] }, toks := s.toks }) :=
  .of_wp fun prog w A R s h => by
    obtain ⟨hp, g, d, tk, os⟩ := s
    obtain ⟨hl, h⟩ := h
    have f1 := AutoSeq1.idx_int
    wp_walk using wpAny_loadPart' hl
    repeat (first
      | (refine wpAny_ite_false (decide_eq_false (by rw [c0]; exact Bool.false_ne_true)) ?_; wp_walk using wpAny_loadPart' hl)
      | (refine wpAny_ite_false (decide_eq_false (by rw [c1]; exact Bool.false_ne_true)) ?_; wp_walk using wpAny_loadPart' hl)
      | (refine wpAny_ite_true (decide_eq_true c2) ?_; wp_walk using wpAny_loadPart' hl))
    exact ⟨_, rfl, h⟩
end
section
variable {X : Cx}
/-- a new tuple, tracked with its object -/
def tupO (us : List Value) : Obj := { cls := .type "tuple", data := .seq us.toArray }
theorem Inv.newTup {pins : List (Addr × Obj)} {s : Shared} {σ : L2.St} {H : Hp} {xs : List V} {us : List Value} (I : Inv X pins σ H s) (r : Vals xs us) (hz : xs.length ≤ sizeLine) :
    Inv X pins σ (upd H s.heap.objs.size (.frz (tupO us) (.tup xs))) { s with heap := s.heap.push (tupO us) } :=
  I.laid (t' := s.toks) (fun b ob q => Heap.get?_push_of_some _ q) (Nat.le_refl _) ⟨Heap.get?_push_size _ rfl, hz, us, r, ⟨_, Heap.get?_push_size _ rfl, rfl, _, rfl⟩⟩
/-- a new tuple -/
def NewT (H : Hp) (xs : List V) (Q : VK) : Prop := ∀ p o, H p = none → o.dict = none → Q (.ref p) (upd H p (.frz o (.tup xs)))
theorem Inv.outT {pins : List (Addr × Obj)} {s : Shared} {σ : L2.St} {H : Hp} {xs : List V} {us : List Value} {Q : VK} (I : Inv X pins σ H s) (r : Vals xs us) (hz : xs.length ≤ sizeLine) (q : NewT H xs Q) :
    EP X pins σ Q (.ref s.heap.objs.size) { s with heap := s.heap.push (tupO us) } := ⟨.ref _, _, Inv.newTup I r hz, rfl, q _ _ (I.hok.fresh (Nat.le_refl _)) rfl⟩
/-- t * k: the same one, the empty one, or a new one -/
def rRepA (K : PySem.W.Frag) : R2 := fun x y H Q => ∃ l k xs, x = .ref l ∧ y = .int k ∧ SqT K H l xs ∧ -(2 ^ 62) < k ∧ k ≤ 1000 ∧ xs.length ≤ 1000 ∧
  ((xs = [] ∨ k = 1) → Q (.ref l) H) ∧ (¬ (xs = [] ∨ k = 1) → NewT H (List.replicate k.toNat xs).flatten Q)
theorem op_repA : OpR X (binaryOp .Mult) (rRepA X.K) := by
  intro pins s σ H x y v u Q I rx ry h
  obtain ⟨l, k, xs, rfl, rfl, hT, h0, h2, hz, q1, q2⟩ := h
  cases rx
  obtain ⟨t, rfl⟩ := ry
  obtain ⟨its, r, ⟨⟨cls, dd, data, sl⟩, ho, hc, n, hd⟩, hs⟩ := I.tuple hT
  simp only at hc hd
  subst hc hd
  have hle : its.length = xs.length := r.length.symm
  have c0 : (decide (k < -(2 ^ 63)) || decide (k ≥ 2 ^ 63)) = false := by
    rw [decide_eq_false (by omega), decide_eq_false (by omega)] <;> rfl
  have he : its.toArray.isEmpty = xs.isEmpty := by
    cases its with
    | nil =>
      have : xs = [] := List.eq_nil_of_length_eq_zero hle.symm
      subst this; rfl
    | cons a b =>
      cases xs with
      | nil => simp at hle
      | cons _ _ => rfl
  have fin : ∀ {ob : Value → Shared → Prop}, wpAny (model X.prog X.w) X.A (call (.builtin "tuple.__mul__") [.ref l, .int k t]) ob X.xe s → wpAny (model X.prog X.w) X.A (binaryOp .Mult (.ref l) (.int k t)) ob X.xe s := fun {ob} h =>
    wpAny_binaryOp_repeat_ref (T := "tuple") (U := "int") (by decide) ⟨_, ho, rfl⟩ (fun s' => typeIs_int s' k t) noFill_tuple_mul F.fills_int_mul F.slot_int_rmul repeat_tuple F.slot_int_index.lookup
      (call_meets F.slot_int_rmul (typeIs_int s k t) F.entry_int_rmul (F.args_int_rmul_2 _ _) (int_rmul_tuple k t l its.toArray n dd sl) ⟨ho, rfl, ⟨_, ho, rfl⟩, h⟩)
  refine fin ?_
  by_cases hsame : xs = [] ∨ k = 1
  · have c1 : (its.toArray.isEmpty || k == 1) = true := by
      rw [he]
      rcases hsame with z | z
      · rw [z]; rfl
      · rw [z]; simp
    exact call_meets F.slot_tuple_mul ⟨_, ho, rfl⟩ F.entry_tuple_mul (F.args_tuple_mul_2 _ _) (tuple_mul_same l its.toArray n dd sl k t c0 c1) ⟨ho, .ref l, H, I, rfl, q1 hsame⟩
  · have hx : xs ≠ [] := fun z => hsame (.inl z)
    have hxe : xs.isEmpty = false := by
      cases xs with
      | nil => exact absurd rfl hx
      | cons _ _ => rfl
    have c1 : (its.toArray.isEmpty || k == 1) = false := by
      rw [he, hxe, Bool.false_or]
      exact beq_eq_false_iff_ne.mpr fun z => hsame (.inr z)
    have flen : (List.replicate k.toNat xs).flatten.length ≤ sizeLine := by
      rw [PyProof.Rows.lm_len_rep_flat, sizeLine_eq]
      have a1 : k.toNat * xs.length ≤ 1000 * 1000 := Nat.mul_le_mul (by omega) hz
      omega
    have q3 := q2 hsame
    by_cases hk : k ≤ 0
    · have c2 : (decide (k ≤ 0) || its.toArray.isEmpty) = true := by
        rw [decide_eq_true hk, Bool.true_or]
      have ek : k.toNat = 0 := by omega
      rw [ek] at q3
      exact call_meets F.slot_tuple_mul ⟨_, ho, rfl⟩ F.entry_tuple_mul (F.args_tuple_mul_2 _ _) (tuple_mul_none l its.toArray n dd sl k t c0 c1 c2) ⟨ho, Inv.outT I .nil (Nat.zero_le _) q3⟩
    · have c2 : (decide (k ≤ 0) || its.toArray.isEmpty) = false := by
        rw [he, hxe, Bool.or_false]
        exact decide_eq_false hk
      have hm : ((its.toArray.size : Nat) : Int) * k ≤ 1000000 := by
        rw [List.size_toArray, hle]
        have a1 : ((xs.length : Nat) : Int) * k ≤ 1000 * k := Int.mul_le_mul_of_nonneg_right (by omega) (by omega)
        omega
      have c4 : Builtin.Tuple.tupleTooMany (((its.toArray.size : Nat) : Int) * k) = false := by
        unfold Builtin.Tuple.tupleTooMany
        rw [sizeLine_eq]
        exact decide_eq_false (by omega)
      have flen2 : (List.replicate k.toNat its).flatten.length ≤ sizeLine := by
        rw [← (r.rep k.toNat).length]; exact flen
      refine call_meets F.slot_tuple_mul ⟨_, ho, rfl⟩ F.entry_tuple_mul (F.args_tuple_mul_2 _ _) (tuple_mulW l its.toArray n dd sl k t c0 c1 c2 (by omega) c4 (by rw [size_rep, List.size_toArray]; exact flen2)) ⟨ho, ?_⟩
      rw [size_rep]
      exact Inv.outT I (r.rep k.toNat) flen q3
/-- t + u -/
def rCatN (K : PySem.W.Frag) : R2 := fun x y H Q => ∃ a b xs ys, x = .ref a ∧ y = .ref b ∧ SqT K H a xs ∧ SqT K H b ys ∧ xs.length + ys.length ≤ sizeLine ∧
  (xs = [] → Q (.ref b) H) ∧ (xs ≠ [] → ys = [] → Q (.ref a) H) ∧ (xs ≠ [] → ys ≠ [] → NewT H (xs ++ ys) Q)
theorem op_catN : OpR X (binaryOp .Add) (rCatN X.K) := by
  intro pins s σ H x y v u Q I rx ry h
  obtain ⟨a, b, xs, ys, rfl, rfl, ha, hb, hz, q0, q1, q2⟩ := h
  cases rx
  cases ry
  obtain ⟨its, r1, p1, _⟩ := I.tuple ha
  obtain ⟨its2, r2, p2, _⟩ := I.tuple hb
  by_cases hx : xs = []
  · subst hx
    cases r1
    exact cat_tup0 p1 p2 ⟨.ref b, H, I, rfl, q0 rfl⟩
  · refine HT.cat_tup p1 p2 (fun z => hx (r1.nil_iff.mp z)) (fun z => ⟨.ref a, H, I, rfl, q1 hx (r2.nil_iff.mp z)⟩) (fun z => ?_) (by rw [← r1.length, ← r2.length]; exact hz)
    exact Inv.outT I (r1.append r2) (by rw [List.length_append]; exact hz) (q2 hx fun w => z (r2.nil_iff.mpr w))
end

/-! ### what an operator asks, by functions -/
/-- what is wanted behind: the value d, in hand -/
def Pst (c : Ct) (Ks : List Kd) (ρ : Ste) (ts : List Tm) (σ : L2.St) (kd : Kd) (d : D) (Q : VK) : Prop := ∀ g v H, Rel c g Ks ρ (ts ++ [(kd, d, v)]) σ H → Q v H
def opF (c : Ct) (f : D → D → Option D) : R2 := fun x y H Q => ∃ g Ks ρ ts σ d1 d2 d, Rel c g Ks ρ ts σ H ∧ View c g H d1 x ∧ View c g H d2 y ∧ f d1 d2 = some d ∧ Pst c Ks ρ ts σ .own d Q
/-- the context of the judgement fits the fixed part -/
structure Fit (c : Ct) (X : Cx) : Prop where
  gd : X.A.guards = some []
  P : X.prog = c.P
  w : X.w = c.w
  K : X.K = c.K
  units : X.A.units + 80 < cLine
  calm : X.calm = true
section
variable {c : Ct} {X : Cx} {g : Gh} {Ks : List Kd} {ρ : Ste} {ts : List Tm} {σ : L2.St} {H : Hp}
theorem lim_line : lim = sizeLine := by rw [sizeLine_eq]; rfl
theorem Rel.pushN (R : Rel c g Ks ρ ts σ H) {d : D} {v : V} (h : Fz c.P c.w c.K g.F v d) (n : isC d = false) : Rel c g Ks ρ (ts ++ [(.own, d, v)]) σ H := by
  refine ⟨R.fh, R.bh, R.ff, R.fb, R.len, R.sl, fun j t e => ?_, R.ow, R.src⟩
  rcases getElem?_snoc e with ⟨e, _⟩ | ⟨rfl, rfl⟩
  · exact R.tm j t e
  · exact .inl ⟨n, h⟩
theorem Pst.int {Q : VK} {i : Int} (R : Rel c g Ks ρ ts σ H) (q : Pst c Ks ρ ts σ .own (.int i) Q) : Q (.int i) H := q g _ H (R.pushN (.int i) rfl)
theorem Pst.bl {Q : VK} {i : Bool} (R : Rel c g Ks ρ ts σ H) (q : Pst c Ks ρ ts σ .own (.bool i) Q) : Q (.bl i) H := q g _ H (R.pushN (.bl i) rfl)
theorem Pst.str {Q : VK} {i : Str} (R : Rel c g Ks ρ ts σ H) (q : Pst c Ks ρ ts σ .own (.str i) Q) : Q (.str i) H := q g _ H (R.pushN (.str i) rfl)
theorem Pst.list {Q : VK} {ds : List D} {vs : List V} (R : Rel c g Ks ρ ts σ H) (h : FzA c.P c.w c.K g.F vs ds) (q : Pst c Ks ρ ts σ .own (.list ds) Q) (p : Addr) (np : H p = none) : Q (.ref p) (upd H p (.lst vs)) :=
  q _ _ _ (R.newO np (.inl ⟨ds, vs, rfl, upd_same, h⟩))
theorem Pst.tup {Q : VK} {ds : List D} {vs : List V} (R : Rel c g Ks ρ ts σ H) (h : FzA c.P c.w c.K g.F vs ds) (q : Pst c Ks ρ ts σ .own (.tuple ds) Q) : NewT H vs Q := fun p o np no =>
  q _ _ _ ((R.newF np).pushN (.tup (.inl ⟨o, upd_same, no⟩) (h.mono (same_new (R.fnone np)))) rfl)
theorem Pst.same {Q : VK} {d : D} {v : V} (R : Rel c g Ks ρ ts σ H) (h : Fz c.P c.w c.K g.F v d) (n : isC d = false) (q : Pst c Ks ρ ts σ .own d Q) : Q v H := q g _ H (R.pushN h n)

theorem bin_add (ft : Fit c X) : OpR X (binaryOp .Add) (opF c Ev.addD) := by
  intro pins s σ' H x y v u Q I rx ry h
  obtain ⟨g, Ks, ρ, ts, σ, d1, d2, d, R, v1, v2, e, q⟩ := h
  unfold Ev.addD at e
  split at e
  · rename_i a b
    cases e; cases v1.int; cases v2.int
    exact op_add pins s σ' H _ _ v u Q I rx ry ⟨a, b, rfl, rfl, q.int R⟩
  · rename_i a b
    split at e
    · rename_i hl
      cases e; cases v1.str; cases v2.str
      exact op_add_str pins s σ' H _ _ v u Q I rx ry ⟨a, b, rfl, rfl, by rw [← lim_line]; exact hl, q.str R⟩
    · cases e
  · rename_i a b
    split at e
    · rename_i hl
      cases e
      obtain ⟨p1, vs, rfl, h1, f1⟩ := v1.list R
      obtain ⟨p2, ws, rfl, h2, f2⟩ := v2.list R
      exact op_cat pins s σ' H _ _ v u Q I rx ry ⟨p1, p2, vs, ws, rfl, rfl, h1, h2, by rw [f1.length, f2.length, ← lim_line]; exact hl, q.list R (f1.append f2)⟩
    · cases e
  · rename_i a b
    split at e
    · rename_i hl
      cases e
      obtain ⟨p1, vs, rfl, k1, h1, f1⟩ := v1.tuple R
      obtain ⟨p2, ws, rfl, k2, h2, f2⟩ := v2.tuple R
      refine op_catN pins s σ' H _ _ v u Q I rx ry ⟨p1, p2, vs, ws, rfl, rfl, by rw [ft.K]; exact h1, by rw [ft.K]; exact h2, by rw [f1.length, f2.length, ← lim_line]; exact hl, fun z => ?_, fun _ z => ?_, fun _ _ => q.tup R (f1.append f2)⟩
      · subst z; cases f1
        exact q.same R (.tup k2 f2) rfl
      · subst z; cases f2
        rw [List.append_nil] at q
        exact q.same R (.tup k1 f1) rfl
    · cases e
  · cases e
theorem rep_one (xs : List D) : (List.replicate (1 : Int).toNat xs).flatten = xs := by simp
theorem rep_nil : ∀ n : Nat, (List.replicate n ([] : List D)).flatten = [] := fun n => by simp
theorem bin_sub (ft : Fit c X) : OpR X (binaryOp .Sub) (opF c Ev.subD) := by
  intro pins s σ' H x y v u Q I rx ry h
  obtain ⟨g, Ks, ρ, ts, σ, d1, d2, d, R, v1, v2, e, q⟩ := h
  unfold Ev.subD at e
  split at e
  · rename_i a b
    cases e; cases v1.int; cases v2.int
    exact op_sub pins s σ' H _ _ v u Q I rx ry ⟨a, b, rfl, rfl, q.int R⟩
  · cases e
theorem bin_mul (ft : Fit c X) : OpR X (binaryOp .Mult) (opF c Ev.mulD) := by
  intro pins s σ' H x y v u Q I rx ry h
  obtain ⟨g, Ks, ρ, ts, σ, d1, d2, d, R, v1, v2, e, q⟩ := h
  unfold Ev.mulD at e
  split at e
  · rename_i a b
    split at e
    · rename_i hl
      cases e; cases v1.int; cases v2.int
      refine op_mul pins s σ' H _ _ v u Q I rx ry ⟨a, b, rfl, rfl, ?_, q.int R⟩
      rcases hl with hl | hl
      · exact .inl ⟨by omega, by omega⟩
      · exact .inr ⟨by omega, by omega⟩
    · cases e
  · rename_i a b
    split at e
    · rename_i hl
      cases e
      obtain ⟨p1, vs, rfl, h1, f1⟩ := v1.list R
      cases v2.int
      exact op_rep pins s σ' H _ _ v u Q I rx ry ⟨p1, b, vs, rfl, rfl, h1, by omega, by omega, by rw [f1.length, ← lim_line]; exact hl.1, q.list R (f1.rep _)⟩
    · cases e
  · rename_i a b
    split at e
    · rename_i hl
      cases e
      obtain ⟨p1, vs, rfl, k1, h1, f1⟩ := v1.tuple R
      cases v2.int
      refine op_repA pins s σ' H _ _ v u Q I rx ry ⟨p1, b, vs, rfl, rfl, by rw [ft.K]; exact h1, by omega, hl.2.2, by rw [f1.length]; exact hl.1, fun z => ?_, fun _ => q.tup R (f1.rep _)⟩
      rcases z with z | z
      · subst z; cases f1
        rw [rep_nil] at q
        exact q.same R (.tup k1 .nil) rfl
      · subst z
        rw [rep_one] at q
        exact q.same R (.tup k1 f1) rfl
    · cases e
  · cases e
theorem bin_fdiv (ft : Fit c X) : OpR X (binaryOp .FloorDiv) (opF c Ev.fdivD) := by
  intro pins s σ' H x y v u Q I rx ry h
  obtain ⟨g, Ks, ρ, ts, σ, d1, d2, d, R, v1, v2, e, q⟩ := h
  unfold Ev.fdivD at e
  split at e
  · rename_i a b
    split at e
    · rename_i hl
      cases e; cases v1.int; cases v2.int
      exact op_fdivN pins s σ' H _ _ v u Q I rx ry ⟨a, b, rfl, rfl, hl, q.int R⟩
    · cases e
  · cases e
theorem bin_mod (ft : Fit c X) : OpR X (binaryOp .Mod) (opF c Ev.modD) := by
  intro pins s σ' H x y v u Q I rx ry h
  obtain ⟨g, Ks, ρ, ts, σ, d1, d2, d, R, v1, v2, e, q⟩ := h
  unfold Ev.modD at e
  split at e
  · rename_i a b
    split at e
    · rename_i hl
      cases e; cases v1.int; cases v2.int
      exact op_modN pins s σ' H _ _ v u Q I rx ry ⟨a, b, rfl, rfl, hl, q.int R⟩
    · cases e
  · cases e
theorem bin_pow (ft : Fit c X) : OpR X (binaryOp .Pow) (opF c Ev.powD) := by
  intro pins s σ' H x y v u Q I rx ry h
  obtain ⟨g, Ks, ρ, ts, σ, d1, d2, d, R, v1, v2, e, q⟩ := h
  unfold Ev.powD at e
  split at e
  · rename_i a b
    split at e
    · rename_i hl
      cases e; cases v1.int; cases v2.int
      exact op_pow pins s σ' H _ _ v u Q I rx ry ⟨a, b, rfl, rfl, ⟨hl.1, hl.2.1, hl.2.2⟩, q.int R⟩
    · cases e
  · cases e
def opOf : Bop → Operator
  | .add => .Add
  | .sub => .Sub
  | .mul => .Mult
  | .fdiv => .FloorDiv
  | .mod => .Mod
  | .pow => .Pow
theorem bin_ok (ft : Fit c X) : ∀ o, OpR X (binaryOp (opOf o)) (opF c (binD o))
  | .add => bin_add ft
  | .sub => bin_sub ft
  | .mul => bin_mul ft
  | .fdiv => bin_fdiv ft
  | .mod => bin_mod ft
  | .pow => bin_pow ft

/-! ### comparisons -/
/-- a comparison's wish: the truth value, in hand -/
def opB (c : Ct) (f : D → D → Option Bool) : R2 := opF c fun x y => (f x y).map .bool
theorem Fit.hu (ft : Fit c X) : X.A.units + 64 < cLine := by have := ft.units; omega
theorem dec_beq {α : Type} [DecidableEq α] [BEq α] [LawfulBEq α] (a b : α) : decide (a = b) = (a == b) := by
  by_cases h : a = b
  · subst h; simp
  · rw [decide_eq_false h]; exact (beq_eq_false_iff_ne.mpr h).symm
theorem cmp_int {op : CmpOp} {p : Int → Int → Bool} (o : OpR X (compareOp op) (rI0 fun i j => .bl (p i j))) {f : D → D → Option Bool} (hf : ∀ a b t, f a b = some t → ∃ i j, a = .int i ∧ b = .int j ∧ t = p i j) : OpR X (compareOp op) (opB c f) := by
  intro pins s σ' H x y v u Q I rx ry h
  obtain ⟨g, Ks, ρ, ts, σ, d1, d2, d, R, v1, v2, e, q⟩ := h
  obtain ⟨t, e1, e2⟩ := Option.map_eq_some_iff.mp e
  obtain ⟨i, j, rfl, rfl, rfl⟩ := hf _ _ _ e1
  subst e2
  cases v1.int; cases v2.int
  exact o pins s σ' H _ _ v u Q I rx ry ⟨i, j, rfl, rfl, q.bl R⟩
theorem cmp_lt : OpR X (compareOp .Lt) (opB c Ev.ltD) := cmp_int op_lt fun a b t h => by
  unfold Ev.ltD at h; split at h
  · cases h; exact ⟨_, _, rfl, rfl, rfl⟩
  · cases h
theorem cmp_le : OpR X (compareOp .LtE) (opB c Ev.leD) := cmp_int op_le fun a b t h => by
  unfold Ev.leD at h; split at h
  · cases h; exact ⟨_, _, rfl, rfl, rfl⟩
  · cases h
theorem cmp_gt : OpR X (compareOp .Gt) (opB c Ev.gtD) := cmp_int op_gt fun a b t h => by
  unfold Ev.gtD at h; split at h
  · cases h; exact ⟨_, _, rfl, rfl, rfl⟩
  · cases h
theorem cmp_ge : OpR X (compareOp .GtE) (opB c Ev.geD) := cmp_int op_ge fun a b t h => by
  unfold Ev.geD at h; split at h
  · cases h; exact ⟨_, _, rfl, rfl, rfl⟩
  · cases h
/-- what == of two data asks -/
theorem eq_views {d1 d2 : D} {x y : V} {t : Bool} (R : Rel c g Ks ρ ts σ H) (v1 : View c g H d1 x) (v2 : View c g H d2 y) (e : eqD d1 d2 = some t) :
    (scal x y = true ∧ decide (x = y) = t) ∨ ∃ d e, Dp c.K H x d ∧ Dp c.K H y e ∧ SeqAt.shaped d = true ∧ SeqAt.shaped e = true ∧ PyData.eqv d e = t := by
  unfold eqD at e
  split at e
  · cases e; cases v1.int; cases v2.int; exact .inl ⟨rfl, dec_int⟩
  · cases e; cases v1.bl; cases v2.bl; exact .inl ⟨rfl, dec_bl⟩
  · cases e; cases v1.str; cases v2.str; exact .inl ⟨rfl, dec_str⟩
  · cases e; cases v1.non; cases v2.non; exact .inl ⟨rfl, rfl⟩
  · unfold shapedEq at e
    split at e
    · rename_i hs
      cases e
      rw [Bool.and_eq_true] at hs
      exact .inr ⟨_, _, v1.dp R (SeqAt.canLay_of_shaped hs.1), v2.dp R (SeqAt.canLay_of_shaped hs.2), hs.1, hs.2, rfl⟩
    · cases e
theorem cmp_eq (ft : Fit c X) : OpR X (compareOp .Eq) (opB c eqD) := by
  intro pins s σ' H x y v u Q I rx ry h
  obtain ⟨g, Ks, ρ, ts, σ, d1, d2, d, R, v1, v2, e, q⟩ := h
  obtain ⟨t, e1, e2⟩ := Option.map_eq_some_iff.mp e
  subst e2
  rcases eq_views R v1 v2 e1 with ⟨h1, rfl⟩ | ⟨d, e, k1, k2, k3, k4, rfl⟩
  · exact op_eq pins s σ' H _ _ v u Q I rx ry ⟨h1, q.bl R⟩
  · exact op_eqD ft.hu pins s σ' H _ _ v u Q I rx ry ⟨_, _, by rw [ft.K]; exact k1, by rw [ft.K]; exact k2, k3, k4, q.bl R⟩
theorem cmp_ne (ft : Fit c X) : OpR X (compareOp .NotEq) (opB c fun a b => (eqD a b).map not) := by
  intro pins s σ' H x y v u Q I rx ry h
  obtain ⟨g, Ks, ρ, ts, σ, d1, d2, d, R, v1, v2, e, q⟩ := h
  obtain ⟨t, e1, e2⟩ := Option.map_eq_some_iff.mp e
  obtain ⟨t', e3, e4⟩ := Option.map_eq_some_iff.mp e1
  subst e2 e4
  rcases eq_views R v1 v2 e3 with ⟨h1, rfl⟩ | ⟨d, e, k1, k2, k3, k4, rfl⟩
  · exact op_ne pins s σ' H _ _ v u Q I rx ry ⟨h1, q.bl R⟩
  · exact op_neD ft.hu pins s σ' H _ _ v u Q I rx ry ⟨_, _, by rw [ft.K]; exact k1, by rw [ft.K]; exact k2, k3, k4, q.bl R⟩
end
end EvS
set_option linter.all false
set_option Elab.async false
set_option maxRecDepth 100000
set_option maxHeartbeats 4000000
/-! Ev4: is, in, subscripts, slices. -/
namespace EvS
open PySem PySem.Spec PyProof.Rows L2 EvK
open Ev (D Ste Src getS wipe restore flatK tupK dget dset okK binD cmpD atD eqD inD isD shapedEq Bop Cop lim)
section
variable {c : Ct} {X : Cx} {g : Gh} {Ks : List Kd} {ρ : Ste} {ts : List Tm} {σ : L2.St} {H : Hp}

theorem View.isNon {d : D} {x : V} (R : Rel c g Ks ρ ts σ H) (v : View c g H d x) : decide (x = .non) = Ev.isNoneD d := by
  cases d with
  | none => cases v.non; rfl
  | bool b => cases v.bl; rfl
  | int i => cases v.int; rfl
  | str z => cases v.str; rfl
  | list ds => obtain ⟨a, vs, rfl, _⟩ := v.list R; rfl
  | tuple ds => obtain ⟨a, vs, rfl, _⟩ := v.tuple R; rfl
  | dict ds => obtain ⟨a, vs, rfl, _⟩ := v.dict R; rfl
theorem cmp_is : OpR X (compareOp .Is) (opB c isD) := by
  intro pins s σ' H x y v u Q I rx ry h
  obtain ⟨g, Ks, ρ, ts, σ, d1, d2, d, R, v1, v2, e, q⟩ := h
  obtain ⟨t, e1, e2⟩ := Option.map_eq_some_iff.mp e
  subst e2
  unfold isD at e1
  split at e1
  · cases e1; cases v2.non
    refine op_isN pins s σ' H _ _ v u Q I rx ry ⟨rfl, ?_⟩
    rw [v1.isNon R]; exact q.bl R
  · rename_i a b
    cases e1; cases v1.bl; cases v2.bl
    exact op_isBl pins s σ' H _ _ v u Q I rx ry ⟨a, b, rfl, rfl, by rw [dec_beq]; exact q.bl R⟩
  · rename_i b
    cases e1; cases v1.non; cases v2.bl
    cases (show v = Value.none from rx)
    cases (show u = Value.bool b from ry)
    exact wpAny_is_other rfl (fun z => nomatch z) ⟨.bl false, H, I, rfl, q.bl R⟩
  · cases e1
theorem cmp_isNot : OpR X (compareOp .IsNot) (opB c fun a b => (isD a b).map not) := by
  intro pins s σ' H x y v u Q I rx ry h
  obtain ⟨g, Ks, ρ, ts, σ, d1, d2, d, R, v1, v2, e, q⟩ := h
  obtain ⟨t, e1, e2⟩ := Option.map_eq_some_iff.mp e
  obtain ⟨t', e3, e4⟩ := Option.map_eq_some_iff.mp e1
  subst e2 e4
  unfold isD at e3
  split at e3
  · cases e3; cases v2.non
    refine op_notN pins s σ' H _ _ v u Q I rx ry ⟨rfl, ?_⟩
    rw [v1.isNon R]; exact q.bl R
  · rename_i a b
    cases e3; cases v1.bl; cases v2.bl
    exact op_notBl pins s σ' H _ _ v u Q I rx ry ⟨a, b, rfl, rfl, by rw [dec_beq]; exact q.bl R⟩
  · rename_i b
    cases e3; cases v1.non; cases v2.bl
    cases (show v = Value.none from rx)
    cases (show u = Value.bool b from ry)
    exact wpAny_isNot_other rfl (fun z => nomatch z) ⟨.bl true, H, I, rfl, q.bl R⟩
  · cases e3

/-! ### keys of dicts -/
theorem View.key {kvs : List (D × D)} {es : List Ent} {k : D} {y : V} (R : Rel c g Ks ρ ts σ H) (f : FzE c.P c.w c.K g.F es kvs) (v : View c g H k y) (h : okK kvs k = true) : KeyFit c.K H es k y := by
  unfold okK at h
  simp only [Bool.or_eq_true, Bool.and_eq_true] at h
  rcases h with ⟨h1, h2⟩ | ⟨h1, h2⟩
  · refine .inl ⟨h1, f.flat h2, ?_⟩
    cases k <;> simp only [flatK, Bool.false_eq_true] at h1
    · cases v.int; rfl
    · cases v.str; rfl
  · refine .inr ⟨h1, f.tup h2, fun e he => (f.key e he).dp R.fh (lay_of_deepK 8 _ (tupK_deep (f.tup h2 e he))).1, ?_⟩
    have hd := v.dp R (lay_of_deepK 8 _ (tupK_deep h1)).1
    cases k <;> simp only [tupK, Bool.false_eq_true] at h1
    obtain ⟨a, vs, rfl, _⟩ := v.tuple R
    exact ⟨a, rfl, hd⟩
theorem okK_sort {kvs : List (D × D)} {k : D} (h : okK kvs k = true) : (kvs.all fun p => flatK p.1) = true ∨ (kvs.all fun p => tupK p.1) = true := by
  unfold okK at h
  simp only [Bool.or_eq_true, Bool.and_eq_true] at h
  rcases h with ⟨_, h⟩ | ⟨_, h⟩
  · exact .inl h
  · exact .inr h
/-- what in asks of a list or tuple -/
theorem in_run (ft : Fit c X) {neg : Bool} {pins : List (Addr × Obj)} {s : Shared} {σ' : L2.St} {x y : V} {v u : Value} {Q : VK} {d1 d2 : D} {t : Bool} (I : Inv X pins σ' H s) (rx : RelV x v) (ry : RelV y u) (R : Rel c g Ks ρ ts σ H)
    (v1 : View c g H d1 x) (v2 : View c g H d2 y) (e : inD d1 d2 = some t) (q : Q (.bl (if neg then !t else t)) H) :
    wpAny (model X.prog X.w) X.A (compareOp (if neg then .NotIn else .In) v u) (EP X pins σ' Q) X.xe s := by
  have hu : X.A.units + 65 < cLine := by have := ft.units; omega
  unfold inD at e
  split at e
  · rename_i ds
    split at e
    · rename_i hs
      cases e
      rw [Bool.and_eq_true] at hs
      have p1 := v1.dp R (SeqAt.canLay_of_shaped hs.1)
      have p2 := v2.dp R (SeqAt.canLay_of_shaped hs.2)
      rw [← ft.K] at p1 p2
      cases neg with
      | false => exact op_inD hu pins s σ' H _ _ v u Q I rx ry ⟨d1, ds, p1, p2, hs.1, hs.2, q⟩
      | true => exact op_notInD hu pins s σ' H _ _ v u Q I rx ry ⟨d1, ds, p1, p2, hs.1, hs.2, q⟩
    · cases e
  · rename_i ds
    split at e
    · rename_i hs
      cases e
      rw [Bool.and_eq_true] at hs
      have p1 := v1.dp R (SeqAt.canLay_of_shaped hs.1)
      have p2 := v2.dp R (SeqAt.canLay_of_shaped hs.2)
      rw [← ft.K] at p1 p2
      obtain ⟨as, r1⟩ := Dp.reads I d1 x v p1 rx
      obtain ⟨bs, r2⟩ := Dp.reads I (.tuple ds) y u p2 ry
      cases neg with
      | false => exact SeqAt.in_tuple_reads r2 r1 (SeqAt.canLay_of_shaped hs.2) (SeqAt.canLay_of_shaped hs.1) (room_in_shaped hs.1 hu) ⟨.bl _, H, I, rfl, q⟩
      | true => exact SeqAt.notIn_tuple_reads r2 r1 (SeqAt.canLay_of_shaped hs.2) (SeqAt.canLay_of_shaped hs.1) (room_in_shaped hs.1 hu) ⟨.bl _, H, I, rfl, q⟩
    · cases e
  · rename_i kvs
    split at e
    · rename_i hk
      cases e
      obtain ⟨a, es, rfl, h1, f⟩ := v2.dict R
      have kf := v1.key R f hk
      rw [← ft.K] at kf
      have h1' : DcO X.prog X.w a (H a) es := by rw [ft.P, ft.w]; exact h1
      have eq : (dget kvs d1).isSome = (eget es d1).isSome := by
        rcases f.get d1 with ⟨e1, e2⟩ | ⟨d, z, e1, e2, _⟩ <;> rw [e1, e2] <;> rfl
      rw [eq] at q
      cases (show u = Value.ref a from ry)
      have hu2 : X.A.units + 32 < cLine := by have := ft.units; omega
      cases neg with
      | false => exact g_in hu2 I h1' kf rx fun s' I' => ⟨.bl _, H, I', rfl, q⟩
      | true => exact g_notIn hu2 I h1' kf rx fun s' I' => ⟨.bl _, H, I', rfl, q⟩
    · cases e
  · cases e
theorem cmp_in (ft : Fit c X) : OpR X (compareOp .In) (opB c inD) := by
  intro pins s σ' H x y v u Q I rx ry h
  obtain ⟨g, Ks, ρ, ts, σ, d1, d2, d, R, v1, v2, e, q⟩ := h
  obtain ⟨t, e1, e2⟩ := Option.map_eq_some_iff.mp e
  subst e2
  exact in_run (neg := false) ft I rx ry R v1 v2 e1 (q.bl R)
theorem cmp_notIn (ft : Fit c X) : OpR X (compareOp .NotIn) (opB c fun a b => (inD a b).map not) := by
  intro pins s σ' H x y v u Q I rx ry h
  obtain ⟨g, Ks, ρ, ts, σ, d1, d2, d, R, v1, v2, e, q⟩ := h
  obtain ⟨t, e1, e2⟩ := Option.map_eq_some_iff.mp e
  obtain ⟨t', e3, e4⟩ := Option.map_eq_some_iff.mp e1
  subst e2 e4
  exact in_run (neg := true) ft I rx ry R v1 v2 e3 (q.bl R)
def copOf : Cop → CmpOp
  | .eq => .Eq
  | .ne => .NotEq
  | .lt => .Lt
  | .le => .LtE
  | .gt => .Gt
  | .ge => .GtE
  | .is => .Is
  | .isNot => .IsNot
  | .inn => .In
  | .notIn => .NotIn
theorem cmp_ok (ft : Fit c X) : ∀ o, OpR X (compareOp (copOf o)) (opB c (cmpD o))
  | .eq => cmp_eq ft
  | .ne => cmp_ne ft
  | .lt => cmp_lt
  | .le => cmp_le
  | .gt => cmp_gt
  | .ge => cmp_ge
  | .is => cmp_is
  | .isNot => cmp_isNot
  | .inn => cmp_in ft
  | .notIn => cmp_notIn ft

/-! ### subscripts -/
/-- as opF, but what is handed out is frozen (a member) -/
def opM (c : Ct) (f : D → D → Option D) : R2 := fun x y H Q => ∃ g Ks ρ ts σ d1 d2 d, Rel c g Ks ρ ts σ H ∧ View c g H d1 x ∧ View c g H d2 y ∧ f d1 d2 = some d ∧ Pst c Ks ρ ts σ .fz d Q
theorem Pst.fz {Q : VK} {d : D} {v : V} (R : Rel c g Ks ρ ts σ H) (h : Fz c.P c.w c.K g.F v d) (q : Pst c Ks ρ ts σ .fz d Q) : Q v H := q g _ H (R.push h)
theorem ixD_atI {vs : List V} {ds : List D} {i : Int} {d : D} (f : FzA c.P c.w c.K g.F vs ds) (e : (Ev.ixD ds.length i).bind (fun j => ds[j]?) = some d) : ∃ v, atI vs i = some v ∧ Fz c.P c.w c.K g.F v d := by
  obtain ⟨j, h1, h2⟩ := Option.bind_eq_some_iff.mp e
  obtain ⟨v, h3, h4⟩ := f.get h2
  refine ⟨v, ?_, h4⟩
  unfold atI
  have : ixN vs.length i = some j := by rw [f.length]; exact h1
  rw [this]; exact h3
theorem sub_any {value slice : Expr} {pins : List (Addr × Obj)} {σ' : L2.St} {s : Shared} {o i : Value} {T id : String} {Q : Value → Shared → Prop} (hl : typeLookup (.type T) "__getitem__" = pure (some (.builtin id))) (hT : s.TypeIs o T)
    (hs : subscripted slice false o i = operate [o, i] (getItem o i)) (h : wpAny (model X.prog X.w) X.A (getItem o i) Q X.xe s) : wpAny (model X.prog X.w) X.A (subscriptTail value slice o i) Q X.xe s := by
  unfold subscriptTail
  refine wpAny_bind ?_
  rw [getitemInPython_of_ne hT.not_modules]
  refine wpAny_bind (wpAny_specialOf hT hl ?_)
  have fin : wpAny (model X.prog X.w) X.A (subscripted slice false o i) (fun r s₃ => wpAny (model X.prog X.w) X.A (letTemporaryGo value o r >>= fun _ => pure r) Q X.xe s₃) X.xe s := by
    rw [hs]
    exact wpAny_operating (wpAny_mono h (fun r s₃ h₃ => wpAny_bind (wpAny_letTemporaryGo (wpAny_pure h₃))) fun _ _ x => x)
  first
    | exact wpAny_pure (wpAny_bind fin)
    | exact wpAny_bind (wpAny_pure (wpAny_bind fin))
    | exact wpAny_bind fin
theorem dc_typeIs {pins : List (Addr × Obj)} {σ' : L2.St} {s : Shared} {a : Addr} {es : List Ent} (I : Inv X pins σ' H s) (h : DcO X.prog X.w a (H a) es) :
    s.TypeIs (.ref a) "dict" ∧ (∃ ob, s.heap.get? a = some ob ∧ ob.dict = none) ∧ (a == sysModules) = false := by
  rcases h with ⟨h, _⟩ | ⟨h, _⟩
  · obtain ⟨_, hd, vs, _, dd⟩ := dk_of I.hok h
    refine ⟨dd.typeIs, ?_, hd⟩
    obtain ⟨ob, _, _, h1, h2, _⟩ := dd
    exact ⟨ob, h1, h2.2.1⟩
  · obtain ⟨_, hd, xs, _, o, rows, ep, g1, g2, _⟩ := ext_of I h
    exact ⟨⟨o, g1, g2.1⟩, ⟨o, g1, g2.2.1⟩, hd⟩
theorem ix_ok (ft : Fit c X) : IxR X (opM c atD) := by
  intro value slice pins s σ' H x y v u Q I rx ry h hs
  obtain ⟨g, Ks, ρ, ts, σ, d1, d2, d, R, v1, v2, e, q⟩ := h
  unfold atD at e
  split at e
  · rename_i ds i
    cases v2.int
    obtain ⟨a, vs, rfl, h1, f⟩ := v1.list R
    obtain ⟨z, h2, h3⟩ := ixD_atI f e
    exact ix_list value slice pins s σ' H _ _ v u Q I rx ry ⟨a, vs, i, z, rfl, rfl, .inl (.inl h1), h2, q.fz R h3⟩ hs
  · rename_i ds i
    cases v2.int
    obtain ⟨a, vs, rfl, h0, h1, f⟩ := v1.tuple R
    obtain ⟨z, h2, h3⟩ := ixD_atI f e
    exact ix_tup value slice pins s σ' H _ _ v u Q I rx ry ⟨a, vs, i, z, rfl, rfl, by rw [ft.K]; exact h1, h2, q.fz R h3⟩ hs
  · rename_i kvs
    split at e
    · rename_i hk
      obtain ⟨a, es, rfl, h1, f⟩ := v1.dict R
      have kf := v2.key R f hk
      rw [← ft.K] at kf
      have h1' : DcO X.prog X.w a (H a) es := by rw [ft.P, ft.w]; exact h1
      rcases f.get d2 with ⟨e1, _⟩ | ⟨d', z, e1, e2, h3⟩
      · rw [e1] at e; cases e
      · rw [e1] at e; cases e
        cases (show v = Value.ref a from rx)
        have hu2 : X.A.units + 32 < cLine := by have := ft.units; omega
        exact sub_any (pins := pins) (σ' := σ') PySem.F.slot_dict_getitem.lookup (dc_typeIs I h1').1 hs (g_getItem hu2 I h1' kf e2 ry fun w' s' I' rw' => ⟨z, H, I', rw', q.fz R h3⟩)
    · cases e
  · cases e
/-! ### slices -/
theorem cut_eq {vs : List V} {ds : List D} {lo hi : Option Int} (f : FzA c.P c.w c.K g.F vs ds) : FzA c.P c.w c.K g.F (cutV vs lo hi) (Ev.cutD ds lo hi) := by
  have e : ∀ n d o, HT.sIx n d o = Ev.sIxD n d o := fun n d o => by
    cases o <;> rfl
  unfold cutV Ev.cutD
  rw [f.length, e, e]
  exact (f.drop _).take _
/-- t[lo:hi]: the whole of it is t itself -/
def rSlN (K : PySem.W.Frag) : V → Option Int → Option Int → Hp → VK → Prop := fun x lo hi H Q => ∃ a xs, x = .ref a ∧ SqT K H a xs ∧
  (HT.sIx xs.length 0 lo = 0 ∧ HT.sIx xs.length xs.length hi = xs.length → Q (.ref a) H) ∧ (¬ (HT.sIx xs.length 0 lo = 0 ∧ HT.sIx xs.length xs.length hi = xs.length) → NewT H (cutV xs lo hi) Q)
theorem sl_tupN : SlR X (rSlN X.K) := by
  intro pins s σ H x v vl vu lo hi sl Q I rx hs pl pu h
  obtain ⟨a, xs, rfl, hx, q1, q2⟩ := h
  cases rx
  obtain ⟨its, r, ht, hz⟩ := I.tuple hx
  have hlen : its.toArray.size = xs.length := by rw [List.size_toArray]; exact r.length.symm
  refine ⟨"tuple", _, PyProof.Rows.slot_tuple_getitem.lookup, ht.typeIs, ?_⟩
  by_cases hw : HT.sIx xs.length 0 lo = 0 ∧ HT.sIx xs.length xs.length hi = xs.length
  · exact getItem_tuple_whole ht hs pl pu (by rw [hlen]; exact hw) ⟨.ref a, H, I, rfl, q1 hw⟩
  · refine HT.getItem_tuple_cut ht hs pl pu (by rw [hlen]; exact hw) ?_ (by rw [hlen]; exact hz)
    rw [hlen]
    exact Inv.outT I ((r.drop (HT.sIx xs.length 0 lo)).take (HT.sIx xs.length xs.length hi - HT.sIx xs.length 0 lo)) (Nat.le_trans (cutV_length xs lo hi) hz) (q2 hw)
def slF (c : Ct) (f : D → Option Int → Option Int → Option D) : V → Option Int → Option Int → Hp → VK → Prop := fun x lo hi H Q => ∃ g Ks ρ ts σ d1 d, Rel c g Ks ρ ts σ H ∧ View c g H d1 x ∧ f d1 lo hi = some d ∧ Pst c Ks ρ ts σ .own d Q
theorem sl_ok (ft : Fit c X) : SlR X (slF c Ev.slcD) := by
  intro pins s σ' H x v vl vu lo hi sl Q I rx hs pl pu h
  obtain ⟨g, Ks, ρ, ts, σ, d1, d, R, v1, e, q⟩ := h
  unfold Ev.slcD at e
  split at e
  · rename_i ds
    cases e
    obtain ⟨a, vs, rfl, h1, f⟩ := v1.list R
    exact sl_list pins s σ' H _ v vl vu lo hi sl Q I rx hs pl pu ⟨a, vs, rfl, .inl (.inl h1), q.list R (cut_eq f)⟩
  · rename_i ds
    cases e
    obtain ⟨a, vs, rfl, h0, h1, f⟩ := v1.tuple R
    refine sl_tupN pins s σ' H _ v vl vu lo hi sl Q I rx hs pl pu ⟨a, vs, rfl, by rw [ft.K]; exact h1, fun z => ?_, fun _ => q.tup R (cut_eq f)⟩
    have ew : Ev.cutD ds lo hi = ds := by
      have e : ∀ n d o, HT.sIx n d o = Ev.sIxD n d o := fun n d o => by cases o <;> rfl
      unfold Ev.cutD
      rw [← e, ← e, ← f.length, z.1, z.2]
      simp [f.length]
    rw [ew] at q
    exact q.same R (.tup h0 f) rfl
  · cases e
end
end EvS
set_option linter.all false
set_option Elab.async false
set_option maxRecDepth 100000
set_option maxHeartbeats 4000000
/-! EvB: sorted, list, tuple of what is walked; builtins. -/
namespace EvS
open PySem PySem.Spec PyProof.Rows L2 EvK
open Ev (D Ste Src getS wipe restore flatK tupK dget dset okK lim isInts isBls lotKeys sortI sortP leP insI insP itemsD)

/-! ### the sorts, plainly -/
theorem insI_perm (x : Int) : ∀ ys, (insI x ys).Perm (x :: ys)
  | [] => List.Perm.refl _
  | y :: ys => by
    unfold insI
    by_cases h : x ≤ y
    · rw [if_pos h]
    · rw [if_neg h]; exact ((insI_perm x ys).cons y).trans (List.Perm.swap x y ys)
theorem sortI_perm : ∀ ys, (sortI ys).Perm ys
  | [] => List.Perm.refl _
  | y :: ys => (insI_perm y _).trans ((sortI_perm ys).cons y)
theorem insI_sorted (x : Int) : ∀ ys, ys.Pairwise (· ≤ ·) → (insI x ys).Pairwise (· ≤ ·)
  | [], _ => List.pairwise_singleton _ _
  | y :: ys, h => by
    unfold insI
    obtain ⟨h1, h2⟩ := List.pairwise_cons.mp h
    by_cases z : x ≤ y
    · rw [if_pos z]
      refine List.pairwise_cons.mpr ⟨fun a ha => ?_, h⟩
      rcases List.mem_cons.mp ha with rfl | ha
      · exact z
      · have := h1 a ha; omega
    · rw [if_neg z]
      refine List.pairwise_cons.mpr ⟨fun a ha => ?_, insI_sorted x ys h2⟩
      rcases List.mem_cons.mp ((insI_perm x ys).mem_iff.mp ha) with rfl | ha
      · omega
      · exact h1 a ha
theorem sortI_sorted : ∀ ys, (sortI ys).Pairwise (· ≤ ·)
  | [] => List.Pairwise.nil
  | y :: ys => insI_sorted y _ (sortI_sorted ys)
theorem leP_iff {p q : Int × Int} : leP p q = true ↔ p.1 < q.1 ∨ (p.1 = q.1 ∧ p.2 ≤ q.2) := by
  unfold leP; simp
theorem insP_perm (x : Int × Int) : ∀ ys, (insP x ys).Perm (x :: ys)
  | [] => List.Perm.refl _
  | y :: ys => by
    unfold insP
    by_cases h : leP x y = true
    · rw [if_pos h]
    · rw [if_neg h]; exact ((insP_perm x ys).cons y).trans (List.Perm.swap x y ys)
theorem sortP_perm : ∀ ys, (sortP ys).Perm ys
  | [] => List.Perm.refl _
  | y :: ys => (insP_perm y _).trans ((sortP_perm ys).cons y)
theorem insP_sorted (x : Int × Int) : ∀ ys, ys.Pairwise (leP · · = true) → (insP x ys).Pairwise (leP · · = true)
  | [], _ => List.pairwise_singleton _ _
  | y :: ys, h => by
    unfold insP
    obtain ⟨h1, h2⟩ := List.pairwise_cons.mp h
    by_cases z : leP x y = true
    · rw [if_pos z]
      refine List.pairwise_cons.mpr ⟨fun a ha => ?_, h⟩
      rcases List.mem_cons.mp ha with rfl | ha
      · exact z
      · have := leP_iff.mp (h1 a ha); have := leP_iff.mp z; exact leP_iff.mpr (by omega)
    · rw [if_neg z]
      refine List.pairwise_cons.mpr ⟨fun a ha => ?_, insP_sorted x ys h2⟩
      rcases List.mem_cons.mp ((insP_perm x ys).mem_iff.mp ha) with rfl | ha
      · exact leP_iff.mpr (by have : ¬ _ := fun q => z (leP_iff.mpr q); omega)
      · exact h1 a ha
theorem sortP_sorted : ∀ ys, (sortP ys).Pairwise (leP · · = true)
  | [] => List.Pairwise.nil
  | y :: ys => insP_sorted y _ (sortP_sorted ys)
theorem sortP_unique {xs ys : List (Int × Int)} (hp : xs.Perm ys) (hs : xs.Pairwise fun p q => SrtO.lexB q p = false) : xs = sortP ys := by
  refine List.Perm.eq_of_pairwise (le := fun p q => leP p q = true) (fun x y _ _ h1 h2 => ?_) (hs.imp fun {p q} h => ?_) (sortP_sorted ys) (hp.trans (sortP_perm ys).symm)
  · have h1 := leP_iff.mp h1; have h2 := leP_iff.mp h2
    obtain ⟨a, b⟩ := x; obtain ⟨c, d⟩ := y
    simp only at h1 h2
    rw [Prod.mk.injEq]; omega
  · have := SrtO.lexB_no.mp h
    exact leP_iff.mpr (by omega)
theorem sortI_unique {xs ys : List Int} (hp : xs.Perm ys) (hs : xs.Pairwise (· ≤ ·)) : xs = sortI ys :=
  List.Perm.eq_of_pairwise (le := fun p q => p ≤ q) (fun x y _ _ h1 h2 => Int.le_antisymm h1 h2) hs (sortI_sorted ys) (hp.trans (sortI_perm ys).symm)

/-! ### sorted(v) by what is collected of v -/
section
variable {prog : Program} {w : World} {A : Around} {E : Value → Shared → Prop} {s : Shared}
theorem sorted_from {v : Value} {vs : List Value} {ltv : Value → Value → Bool} {Q : Value → Shared → Prop} (O : SrtO.Swo ltv) (hz : vs.length ≤ sizeLine)
    (hcol : ∀ (R : List Value → Shared → Prop), (∀ h' tk, (∀ b o, s.heap.get? b = some o → h'.get? b = some o) → R vs { s with heap := h', toks := tk }) → wpAny (model prog w) A.in1 (collect v) R E s)
    (hS : 2 ≤ vs.length → ∀ (h₁ : Heap) (a : Addr) (tk : Nat), (∀ b o, s.heap.get? b = some o → b ≠ a ∧ h₁.get? b = some o) → h₁.get? a = some (seqObj "list" vs.toArray 0) → SrtO.SortableO prog w A.in1.in1 { s with heap := h₁, toks := tk } a vs ltv)
    (h : ∀ (out : List Value) (h1 h' : Heap) (n tk : Nat), SrtO.Srtd ltv out → SrtO.Stb ltv out vs → (∀ b o, s.heap.get? b = some o → h1.get? b = some o) → (∀ b o, h1.get? b = some o → h'.get? b = some o) → h'.get? h1.objs.size = some (seqObj "list" out.toArray n) → Q (.ref h1.objs.size) { s with heap := h', toks := tk }) :
    wpAny (model prog w) A (call (.builtin "sorted") [v]) Q E s := by
  refine Calls.call_function_entry kind_sorted plain_sorted entry_sorted (args_sorted1 _) ?_
  unfold Builtin.«sorted»
  refine wpAny_bind (m := checkCount "sorted" 1 1 _) (wpAny_pure ?_)
  refine wpAny_bind (hcol _ fun h1 tk kp => ?_)
  refine wpAny_bind (wpAny_newList ?_ hz)
  have hoL : (h1.push (seqObj "list" vs.toArray 0)).get? h1.objs.size = some (seqObj "list" vs.toArray 0) := Heap.get?_push_size _ rfl
  have keep : ∀ b o, s.heap.get? b = some o → b ≠ h1.objs.size ∧ (h1.push (seqObj "list" vs.toArray 0)).get? b = some o := fun b o q =>
    ⟨Nat.ne_of_lt (Heap.lt_size (kp b o q)), Heap.get?_push_of_some _ (kp b o q)⟩
  show wpAny _ _ _ _ _ { s with heap := h1.push (seqObj "list" vs.toArray 0), toks := tk }
  refine wpAny_bind (wpAny_holding (wpAny_call_entry slot_list_sort ⟨_, hoL, rfl⟩ entry_list_sort (SrtO.list_sort_ord O hoL hz (fun h2 => hS h2 _ _ tk keep hoL) fun out hs hb => ⟨_, rfl, ?_⟩) (args_list_sort _)))
  obtain ⟨n, hn⟩ := sortedHeap_at (vs := vs) (out := out.toArray) hoL
  refine wpAny_pure ⟨_, rfl, h out h1 _ n tk hs hb kp (fun b o e => ?_) hn⟩
  have hlt : b < h1.objs.size := Heap.lt_size e
  rw [sortedHeap_old (Nat.ne_of_lt hlt) (by rw [size_push']; exact Nat.lt_succ_of_lt hlt)]
  exact Heap.get?_push_of_some _ e
end

/-! ### what is walked, collected -/
section
variable {c : Ct} {X : Cx} {g : Gh} {Ks : List Kd} {ρ : Ste} {ts : List Tm} {σ : L2.St} {H : Hp} {pins : List (Addr × Obj)} {σ' : L2.St} {s : Shared}
theorem keys_vals : ∀ {es : List Ent} {xs : List (D × Addr × Value)}, EX es xs → Vals (es.map (·.2.1)) (xs.map fun x => Value.ref x.2.1)
  | _, _, .nil => .nil
  | _, _, .cons (a := e) (b := x) h t => .cons (show RelV e.2.1 (Value.ref x.2.1) by rw [h.2.1]; rfl) (keys_vals t)
theorem FzE.keysA {P : Program} {w : World} {K : PySem.W.Frag} {F : Hp} : ∀ {es : List Ent} {kvs : List (D × D)}, FzE P w K F es kvs → FzA P w K F (es.map (·.2.1)) (kvs.map (·.1))
  | _, _, .nil => .nil
  | _, _, .cons h _ t => .cons h (FzE.keysA t)
/-- the raw table of a dict: its keys' values -/
theorem dc_raw (I : Inv X pins σ' H s) {a : Addr} {es : List Ent} {kvs : List (D × D)} (h : DcO X.prog X.w a (H a) es) (f : FzE c.P c.w c.K g.F es kvs) (hk : ∀ e ∈ es, flatK e.1 = true → e.2.1 = kV (keyOf e.1)) :
    ∃ (o : Obj) (rows : Array DictEntry) (ep : Nat), s.heap.get? a = some o ∧ o.ExactDict ∧ o.data = .dict rows ep ∧ (a == sysModules) = false ∧ rows.size ≤ sizeLine ∧ Vals (es.map (·.2.1)) (rows.toList.map (·.key)) := by
  rcases h with ⟨h, fl⟩ | ⟨h, tk⟩
  · obtain ⟨hz, hd, vs, rel, o, rows, ep, g1, g2, g3, g4, g5, g6⟩ := dk_of I.hok h
    have aux : ∀ {es : List Ent} {vs : List (Key × Value)} {rs : List DictEntry}, (∀ e ∈ es, e.2.1 = kV (keyOf e.1)) → KV (es.map fun e => (keyOf e.1, e.2.2)) vs → Pairs (mixKind X.prog X.w) rs vs → Vals (es.map (·.2.1)) (rs.map (·.key)) ∧ rs.length = es.length := by
      intro es
      induction es with
      | nil => intro vs rs _ r p; cases r; cases p; exact ⟨.nil, rfl⟩
      | cons e es ih =>
        intro vs rs he r p
        cases r with
        | cons h1 h2 =>
          cases p with
          | cons q1 q2 q3 =>
            rename_i kv' l' en ens
            obtain ⟨i1, i2⟩ := ih (fun x hx => he x (List.mem_cons_of_mem _ hx)) h2 q3
            refine ⟨.cons ?_ i1, by rw [List.length_cons, List.length_cons, i2]⟩
            show RelV e.2.1 en.key
            rw [he e List.mem_cons_self, show keyOf e.1 = kv'.1 from h1.1]
            exact keyIs_rel q1
    obtain ⟨a1, a2⟩ := aux (fun e he => hk e he (fl e he)) rel g5
    refine ⟨o, rows, ep, g1, g2, g3, hd, ?_, a1⟩
    rw [← Array.length_toList, a2]; simpa using hz
  · obtain ⟨hz, hd, xs, hp, o, rows, ep, g1, g2, g3, g4, g5⟩ := ext_of I h
    refine ⟨o, rows, ep, g1, g2, g3, hd, ?_, ?_⟩
    · rw [← Array.length_toList, g4, List.length_map, ← Paired.length hp]; exact hz
    · rw [g4, List.map_map]; exact keys_vals hp
theorem FzE.flatKey {P : Program} {w : World} {K : PySem.W.Frag} {F : Hp} {es : List Ent} {kvs : List (D × D)} (f : FzE P w K F es kvs) : ∀ e ∈ es, flatK e.1 = true → e.2.1 = kV (keyOf e.1) := fun e he hk => by
  have := f.key e he
  obtain ⟨k, kv, v⟩ := e
  cases k <;> simp only [flatK, Bool.false_eq_true] at hk
  · cases this; rfl
  · cases this; rfl
theorem items_of_raw {rows : Array DictEntry} {acc : Array Value} (h : PySem.ItemsOf (fun i v => ∃ en : DictEntry, rows[i]? = some en ∧ v = en.key) acc rows.size) : acc.toList = rows.toList.map (·.key) := by
  apply List.ext_getElem?
  intro j
  rw [List.getElem?_map]
  cases hj : acc.toList[j]? with
  | none =>
    have h1 := List.getElem?_eq_none_iff.mp hj
    rw [Array.length_toList, h.1] at h1
    rw [List.getElem?_eq_none (by rw [Array.length_toList]; exact h1)]
    rfl
  | some v =>
    obtain ⟨en, e1, e2⟩ := h.2 j v (by rw [← Array.getElem?_toList]; exact hj)
    rw [Array.getElem?_toList, e1, e2]
    rfl
/-- collecting what a view's thing has -/
theorem collect_view (ft : Fit c X) (I : Inv X pins σ' H s) (R : Rel c g Ks ρ ts σ H) {d : D} {ds : List D} {x : V} {u : Value} (v : View c g H d x) (rx : RelV x u) (hi : itemsD d = some ds) :
    ∃ (vs : List Value) (xs : List V), Vals xs vs ∧ FzA c.P c.w c.K g.F xs ds ∧ vs.length ≤ sizeLine ∧
      ∀ (A : Around) (E : Value → Shared → Prop) (Rq : List Value → Shared → Prop), A.handled = none → (∀ h' tk, (∀ b o, s.heap.get? b = some o → h'.get? b = some o) → Rq vs { s with heap := h', toks := tk }) → wpAny (model X.prog X.w) A (collect u) Rq E s := by
  unfold itemsD at hi
  split at hi
  · cases hi
    obtain ⟨a, xs, rfl, h1, f⟩ := v.list R
    cases (show u = Value.ref a from rx)
    obtain ⟨hz, its, n, rv, ho⟩ := (show ObjOk X.prog X.w H s.heap a (.lst xs) from I.hok a _ h1)
    exact ⟨its, xs, rv, f, by rw [← rv.length]; exact hz, fun A E Rq hh q => wpAny_collect_seq (T := "list") a (.inl rfl) ho rfl rfl (fun h' k => by simpa using q h' s.toks k) (by rw [List.size_toArray, ← rv.length]; exact hz)⟩
  · cases hi
    obtain ⟨a, xs, rfl, h0, h1, f⟩ := v.tuple R
    cases (show u = Value.ref a from rx)
    obtain ⟨its, rv, ⟨o, ho, hc, n, hd⟩, hz⟩ := I.tuple (by rw [ft.K]; exact h1)
    exact ⟨its, xs, rv, f, by rw [← rv.length]; exact hz, fun A E Rq hh q => wpAny_collect_seq (T := "tuple") a (.inr rfl) ho hc hd (fun h' k => by simpa using q h' s.toks k) (by rw [List.size_toArray, ← rv.length]; exact hz)⟩
  · cases hi
    obtain ⟨a, es, rfl, h1, f⟩ := v.dict R
    cases (show u = Value.ref a from rx)
    obtain ⟨o, rows, ep, g1, g2, g3, lo, hz, rv⟩ := dc_raw (c := c) I (by rw [ft.P, ft.w]; exact h1) f f.flatKey
    refine ⟨_, _, rv, f.keysA, by rw [List.length_map, Array.length_toList]; exact hz, fun A E Rq hh q => ?_⟩
    refine PySem.W.kdu_collect (kdl_raw lo g2 g3) hh g1 hz fun h' tk acc hk hacc => ?_
    rw [items_of_raw hacc]
    exact q h' tk hk
  · cases hi

/-! ### builtins -/
inductive Views (c : Ct) (g : Gh) (H : Hp) : List D → List V → Prop
  | nil : Views c g H [] []
  | cons {d : D} {v : V} {ds : List D} {vs : List V} : View c g H d v → Views c g H ds vs → Views c g H (d :: ds) (v :: vs)
theorem Views.one {ds : List D} {x : V} (h : Views c g H ds [x]) : ∃ d, ds = [d] ∧ View c g H d x := by
  cases h with
  | cons h t => cases t; exact ⟨_, rfl, h⟩
theorem Views.one' {d : D} {xs : List V} (h : Views c g H [d] xs) : ∃ x, xs = [x] ∧ View c g H d x := by
  cases h with
  | cons h t => cases t; exact ⟨_, rfl, h⟩
theorem Views.two' {d e : D} {xs : List V} (h : Views c g H [d, e] xs) : ∃ x y, xs = [x, y] ∧ View c g H d x ∧ View c g H e y := by
  cases h with
  | cons h t => cases t with
    | cons h2 t => cases t; exact ⟨_, _, rfl, h, h2⟩
def bF (c : Ct) (f : List D → Option D) : List V → Hp → VK → Prop := fun xs H Q => ∃ g Ks ρ ts σ ds d, Rel c g Ks ρ ts σ H ∧ Views c g H ds xs ∧ f ds = some d ∧ Pst c Ks ρ ts σ .own d Q

theorem FzA.ints : ∀ {xs : List V} {ds : List D} {ns : List Int}, FzA c.P c.w c.K g.F xs ds → isInts ds = some ns → xs = ns.map V.int ∧ ds = ns.map PyData.int
  | _, _, _, .nil, e => by cases e; exact ⟨rfl, rfl⟩
  | _, _, _, .cons (d := d) h t, e => by
    cases d <;> simp only [isInts] at e <;> try cases e
    obtain ⟨ns, e1, e2⟩ := Option.map_eq_some_iff.mp e
    subst e2
    obtain ⟨h1, h2⟩ := FzA.ints t e1
    cases h
    subst h1 h2
    exact ⟨rfl, rfl⟩
theorem FzA.bls : ∀ {xs : List V} {ds : List D} {ns : List Bool}, FzA c.P c.w c.K g.F xs ds → isBls ds = some ns → xs = ns.map V.bl
  | _, _, _, .nil, e => by cases e; rfl
  | _, _, _, .cons (d := d) h t, e => by
    cases d <;> simp only [isBls] at e <;> try cases e
    obtain ⟨ns, e1, e2⟩ := Option.map_eq_some_iff.mp e
    subst e2
    have h1 := FzA.bls t e1
    cases h
    subst h1
    rfl
theorem ints_fz : ∀ ns : List Int, FzA c.P c.w c.K g.F (ns.map V.int) (ns.map PyData.int)
  | [] => .nil
  | n :: ns => .cons (.int n) (ints_fz ns)
theorem lot_at : ∀ {ds : List D} {ps : List (Int × Int)}, lotKeys ds = some ps → ds = ps.map Ev.pairD
  | [], ps, e => by cases e; rfl
  | d :: r, ps, e => by
    unfold lotKeys at e
    split at e
    · cases ‹_ :: _ = []›
    · rename_i i j r' he
      cases he
      obtain ⟨ps', e1, e2⟩ := Option.map_eq_some_iff.mp e
      subst e2
      rw [lot_at e1]; rfl
    · cases e
/-- a pair's value, read off a heap -/
noncomputable def pk (h : Heap) (u : Value) : Int × Int := open Classical in if q : ∃ p : Int × Int, Srt.IsPair h u p.1 p.2 then q.choose else (0, 0)
theorem pk_eq {h : Heap} {u : Value} {i j : Int} (q : Srt.IsPair h u i j) : pk h u = (i, j) := by
  have hx : ∃ p : Int × Int, Srt.IsPair h u p.1 p.2 := ⟨(i, j), q⟩
  unfold pk
  rw [dif_pos hx]
  obtain ⟨a, o, t1, t2, n, e, ho, hc, hd⟩ := hx.choose_spec
  obtain ⟨a', o', t1', t2', n', e', ho', hc', hd'⟩ := q
  rw [e] at e'
  cases e'
  rw [ho] at ho'
  cases ho'
  rw [hd] at hd'
  injection hd' with h1 _
  have h2 := congrArg Array.toList h1
  simp only [List.cons.injEq, Value.int.injEq] at h2
  exact Prod.ext h2.1.1 h2.2.1.1
/-- the pairs that stand in a row -/
theorem pairs_at (ft : Fit c X) (I : Inv X pins σ' H s) (R : Rel c g Ks ρ ts σ H) : ∀ {xs : List V} {us : List Value} {ps : List (Int × Int)}, Vals xs us → FzA c.P c.w c.K g.F xs (ps.map Ev.pairD) →
    (∀ u ∈ us, ∃ b, u = .ref b ∧ Srt.IsPair s.heap u (pk s.heap u).1 (pk s.heap u).2 ∧ Fz c.P c.w c.K g.F (.ref b) (Ev.pairD (pk s.heap u))) ∧ us.map (pk s.heap) = ps
  | _, _, [], .nil, .nil => ⟨fun u hu => by simp at hu, rfl⟩
  | x :: xs, u :: us, p :: ps, .cons r t, .cons h f => by
    obtain ⟨i1, i2⟩ := pairs_at ft I R t f
    cases h with
    | @tup a ys ds hq hf =>
      cases hf with
      | cons h1 hf => cases hf with
        | cons h2 hf =>
          cases hf
          cases h1; cases h2
          cases (show u = Value.ref a from r)
          obtain ⟨its, rv, ⟨o, ho, hc, n, hd⟩, _⟩ := I.tuple (a := a) (xs := [.int p.1, .int p.2]) (by rw [ft.K]; exact same_tup R.fh hq.sq)
          obtain ⟨u1, u2, e, ⟨t1, r1⟩, ⟨t2, r2⟩⟩ := vals2 rv
          subst r1 r2 e
          have hp : Srt.IsPair s.heap (.ref a) p.1 p.2 := ⟨a, o, t1, t2, n, rfl, ho, hc, hd⟩
          have ek := pk_eq hp
          refine ⟨fun v hv => ?_, by rw [List.map_cons, ek, i2]⟩
          rcases List.mem_cons.mp hv with rfl | hv
          · rw [ek]; exact ⟨a, rfl, hp, .tup hq (.cons (.int _) (.cons (.int _) .nil))⟩
          · exact i1 v hv
theorem backs : ∀ {out : List Value} {f : Value → Int × Int}, (∀ u ∈ out, ∃ b, u = .ref b ∧ Fz c.P c.w c.K g.F (.ref b) (Ev.pairD (f u))) → ∃ ys, Vals ys out ∧ FzA c.P c.w c.K g.F ys (out.map fun u => Ev.pairD (f u))
  | [], _, _ => ⟨[], .nil, .nil⟩
  | u :: out, f, h => by
    obtain ⟨ys, h1, h2⟩ := backs (out := out) (f := f) fun v hv => h v (List.mem_cons_of_mem _ hv)
    obtain ⟨b, e, hb⟩ := h u List.mem_cons_self
    exact ⟨.ref b :: ys, .cons e h1, .cons hb h2⟩
theorem sorted_ok (ft : Fit c X) : CallR X (.builtin "sorted") (bF c Ev.sortedB) := by
  intro pins s σ' H xs us Q I rx h
  obtain ⟨g, Ks, ρ, ts, σ, ds, d, R, vw, e, q⟩ := h
  unfold Ev.sortedB at e
  split at e
  case h_2 => cases e
  rename_i d1
  obtain ⟨x, rfl, v1⟩ := vw.one'
  obtain ⟨u, rfl, ru⟩ := rx.one
  obtain ⟨ds, hi, e⟩ := Option.bind_eq_some_iff.mp e
  obtain ⟨ds', hs, e⟩ := Option.map_eq_some_iff.mp e
  subst e
  obtain ⟨vs, ys, rv, f, hz, hcol⟩ := collect_view ft I R v1 ru hi
  have hh := I.ok.hd ft.calm
  unfold Ev.sortD at hs
  split at hs
  · rename_i ns hn
    cases hs
    obtain ⟨rfl, rfl⟩ := f.ints hn
    have hI : IntsAre vs ns := rv.ints
    refine sorted_from SrtO.swo_int hz (fun Rq hq => hcol X.A.in1 _ Rq hh hq) (fun h2 h₁ a tk _ _ => SrtO.ints_sortable hI h2) fun out h1 h' n tk hs1 hb kp kp' hn' => ?_
    obtain ⟨k1, k2, k3⟩ := SrtO.ints_out hI hs1 hb
    have eo : out.map SrtO.iv = sortI ns := sortI_unique k2 k3
    rw [eo] at k1
    have I1 : Inv X pins σ' H { s with heap := h1, toks := tk } := I.kept kp
    have hlen : ((sortI ns).map V.int).length ≤ sizeLine := by
      rw [List.length_map, (sortI_perm ns).length_eq]
      have := rv.length; rw [List.length_map] at this; omega
    exact ⟨.ref _, _, I1.laid (t' := tk) (o := .lst ((sortI ns).map V.int)) kp' (Nat.le_refl _) ⟨hlen, out, n, vals_of_ints k1, hn'⟩, rfl, q.list R (ints_fz _) _ (I1.hok.fresh (Nat.le_refl _))⟩
  · split at hs
    · rename_i ps hp
      cases hs
      rw [lot_at hp] at f
      obtain ⟨p1, p2⟩ := pairs_at ft I R rv f
      refine sorted_from (SrtO.swo_lex (pk s.heap)) hz (fun Rq hq => hcol X.A.in1 _ Rq hh hq) (fun h2 h₁ a tk kk ha => ?_) fun out h1 h' n tk hs1 hb kp kp' hn' => ?_
      · refine SrtO.pairs_sortableO (s := { s with heap := h₁, toks := tk }) (by omega) (fun v hv => ?_) fun o eo => ?_
        · obtain ⟨b, _, hq, _⟩ := p1 v hv
          exact hq.keeps fun b o e _ => (kk b o e).2
        · have e' : some o = some (seqObj "list" vs.toArray 0) := eo.symm.trans ha
          cases e'
          intro c
          exact absurd (Value.type.inj c) (by decide)
      · have hm : ∀ u ∈ out, ∃ b, u = .ref b ∧ Fz c.P c.w c.K g.F (.ref b) (Ev.pairD (pk s.heap u)) := fun u hu => by
          obtain ⟨b, h1, _, h3⟩ := p1 u (hb.perm.mem_iff.mp hu)
          exact ⟨b, h1, h3⟩
        obtain ⟨ys, r1, r2⟩ := backs hm
        have eo : out.map (pk s.heap) = sortP ps := by
          refine sortP_unique ?_ (List.pairwise_map.mpr hs1)
          rw [← p2]; exact hb.perm.map _
        have er : (out.map fun u => Ev.pairD (pk s.heap u)) = (sortP ps).map Ev.pairD := by rw [← eo, List.map_map]; rfl
        rw [er] at r2
        have I1 : Inv X pins σ' H { s with heap := h1, toks := tk } := I.kept kp
        have hlen : ys.length ≤ sizeLine := by
          have a1 := r1.length
          have a2 := hb.perm.length_eq
          omega
        exact ⟨.ref _, _, I1.laid (t' := tk) (o := .lst ys) kp' (Nat.le_refl _) ⟨hlen, out, n, r1, hn'⟩, rfl, q.list R r2 _ (I1.hok.fresh (Nat.le_refl _))⟩
    · cases hs
end
end EvS
set_option linter.all false
set_option Elab.async false
set_option maxRecDepth 100000
set_option maxHeartbeats 4000000
/-! EvC: the builtins. -/
namespace EvS
open PySem PySem.Spec PyProof.Rows L2 EvK
open Ev (D Ste Src getS wipe restore flatK tupK dget dset dsetAll okK lim isInts isBls itemsD pairsD)
section
variable {c : Ct} {X : Cx} {g : Gh} {Ks : List Kd} {ρ : Ste} {ts : List Tm} {σ : L2.St} {H : Hp} {pins : List (Addr × Obj)} {σ' : L2.St} {s : Shared}

/-! ### small ones -/
theorem abs_ok : CallR X (.builtin "abs") (bF c Ev.absB) := by
  intro pins s σ' H xs us Q I rx h
  obtain ⟨g, Ks, ρ, ts, σ, ds, d, R, vw, e, q⟩ := h
  unfold Ev.absB at e
  split at e
  · cases e
    obtain ⟨x, rfl, v1⟩ := vw.one'
    cases v1.int
    exact call_abs pins s σ' H _ us Q I rx ⟨_, rfl, q.int R⟩
  · cases e
theorem max2_ok (ft : Fit c X) : CallR X (.builtin "max") (bF c Ev.max2B) := by
  intro pins s σ' H xs us Q I rx h
  obtain ⟨g, Ks, ρ, ts, σ, ds, d, R, vw, e, q⟩ := h
  unfold Ev.max2B at e
  split at e
  · cases e
    obtain ⟨x, y, rfl, v1, v2⟩ := vw.two'
    cases v1.int; cases v2.int
    exact call_max2 ft.calm pins s σ' H _ us Q I rx ⟨_, _, rfl, q.int R⟩
  · cases e
theorem min2_ok (ft : Fit c X) : CallR X (.builtin "min") (bF c Ev.min2B) := by
  intro pins s σ' H xs us Q I rx h
  obtain ⟨g, Ks, ρ, ts, σ, ds, d, R, vw, e, q⟩ := h
  unfold Ev.min2B at e
  split at e
  · cases e
    obtain ⟨x, y, rfl, v1, v2⟩ := vw.two'
    cases v1.int; cases v2.int
    exact call_min2 ft.calm pins s σ' H _ us Q I rx ⟨_, _, rfl, q.int R⟩
  · cases e
theorem int_ok : CallR X (.type "int") (bF c Ev.intB) := by
  intro pins s σ' H xs us Q I rx h
  obtain ⟨g, Ks, ρ, ts, σ, ds, d, R, vw, e, q⟩ := h
  unfold Ev.intB at e
  split at e
  · cases e
    obtain ⟨x, rfl, v1⟩ := vw.one'
    cases v1.int
    exact call_int1 pins s σ' H _ us Q I rx (.inl ⟨_, rfl, q.int R⟩)
  · cases e
    obtain ⟨x, rfl, v1⟩ := vw.one'
    cases v1.bl
    exact call_int1 pins s σ' H _ us Q I rx (.inr ⟨_, rfl, q.int R⟩)
  · cases e
theorem sum_ok (ft : Fit c X) : CallR X (.builtin "sum") (bF c Ev.sumB) := by
  intro pins s σ' H xs us Q I rx h
  obtain ⟨g, Ks, ρ, ts, σ, ds, d, R, vw, e, q⟩ := h
  unfold Ev.sumB at e
  split at e
  · obtain ⟨ns, e1, e2⟩ := Option.map_eq_some_iff.mp e
    subst e2
    obtain ⟨x, rfl, v1⟩ := vw.one'
    obtain ⟨a, vs, rfl, h1, f⟩ := v1.list R
    obtain ⟨rfl, _⟩ := f.ints e1
    exact cr_sum ft.calm pins s σ' H _ us Q I rx ⟨a, ns, rfl, .inl (.inl h1), q.int R⟩
  · cases e
theorem all_ok (ft : Fit c X) : CallR X (.builtin "all") (bF c Ev.allB) := by
  intro pins s σ' H xs us Q I rx h
  obtain ⟨g, Ks, ρ, ts, σ, ds, d, R, vw, e, q⟩ := h
  unfold Ev.allB at e
  split at e
  · obtain ⟨ns, e1, e2⟩ := Option.map_eq_some_iff.mp e
    subst e2
    obtain ⟨x, rfl, v1⟩ := vw.one'
    obtain ⟨a, vs, rfl, h1, f⟩ := v1.list R
    cases f.bls e1
    exact cr_all ft.calm pins s σ' H _ us Q I rx ⟨a, ns, rfl, .inl (.inl h1), q.bl R⟩
  · cases e
theorem any_ok (ft : Fit c X) : CallR X (.builtin "any") (bF c Ev.anyB) := by
  intro pins s σ' H xs us Q I rx h
  obtain ⟨g, Ks, ρ, ts, σ, ds, d, R, vw, e, q⟩ := h
  unfold Ev.anyB at e
  split at e
  · obtain ⟨ns, e1, e2⟩ := Option.map_eq_some_iff.mp e
    subst e2
    obtain ⟨x, rfl, v1⟩ := vw.one'
    obtain ⟨a, vs, rfl, h1, f⟩ := v1.list R
    cases f.bls e1
    exact cr_any ft.calm pins s σ' H _ us Q I rx ⟨a, ns, rfl, .inl (.inl h1), q.bl R⟩
  · cases e
theorem len_ok (ft : Fit c X) : CallR X (.builtin "len") (bF c Ev.lenB) := by
  intro pins s σ' H xs us Q I rx h
  obtain ⟨g, Ks, ρ, ts, σ, ds, d, R, vw, e, q⟩ := h
  unfold Ev.lenB at e
  split at e
  · cases e
    obtain ⟨x, rfl, v1⟩ := vw.one'
    obtain ⟨a, vs, rfl, h1, f⟩ := v1.list R
    rw [← f.length] at q
    exact call_len_seq pins s σ' H _ us Q I rx ⟨a, vs, rfl, .inl (.inl (.inl h1)), q.int R⟩
  · cases e
    obtain ⟨x, rfl, v1⟩ := vw.one'
    obtain ⟨a, vs, rfl, h0, h1, f⟩ := v1.tuple R
    rw [← f.length] at q
    exact call_len_seq pins s σ' H _ us Q I rx ⟨a, vs, rfl, .inr (by rw [ft.K]; exact h1), q.int R⟩
  · rename_i kvs
    split at e
    · rename_i hk
      cases e
      obtain ⟨x, rfl, v1⟩ := vw.one'
      obtain ⟨a, es, rfl, h1, f⟩ := v1.dict R
      obtain ⟨u, rfl, ru⟩ := rx.one
      cases (show u = Value.ref a from ru)
      rw [← f.length] at q
      refine g_len I (by rw [ft.P, ft.w]; exact h1) (fun tk e he => ?_) fun t s' I' => ⟨.int _, H, I', ⟨t, rfl⟩, q.int R⟩
      rw [ft.K]
      exact (f.key e he).dp R.fh (lay_of_deepK 8 _ (tupK_deep (tk e he))).1
    · cases e
  · cases e
theorem tuple_ok (ft : Fit c X) : CallR X (.type "tuple") (bF c Ev.tupleB) := by
  intro pins s σ' H xs us Q I rx h
  obtain ⟨g, Ks, ρ, ts, σ, ds, d, R, vw, e, q⟩ := h
  unfold Ev.tupleB at e
  split at e
  · cases e
    obtain ⟨x, rfl, v1⟩ := vw.one'
    obtain ⟨a, vs, rfl, h1, f⟩ := v1.list R
    obtain ⟨u, rfl, ru⟩ := rx.one
    cases (show u = Value.ref a from ru)
    obtain ⟨its, r', pl, hz⟩ := I.list (.inl (.inl h1))
    have hlen := r'.length
    refine call_tuple_list pl.isList (fun h' kp => ?_) (by simp only [List.size_toArray] <;> omega)
    have I1 : Inv X pins σ' H { s with heap := h' } := I.kept (t' := s.toks) kp
    exact Inv.outT I1 r' hz (q.tup R f)
  · cases e
    obtain ⟨x, rfl, v1⟩ := vw.one'
    obtain ⟨a, vs, rfl, h0, h1, f⟩ := v1.tuple R
    exact call_tuple_of pins s σ' H _ us Q I rx ⟨a, vs, rfl, .inr ⟨by rw [ft.K]; exact h1, q.same R (.tup h0 f) rfl⟩⟩
  · cases e
theorem list_ok (ft : Fit c X) : CallR X (.type "list") (bF c Ev.listB) := by
  intro pins s σ' H xs us Q I rx h
  obtain ⟨g, Ks, ρ, ts, σ, ds, d, R, vw, e, q⟩ := h
  unfold Ev.listB at e
  split at e
  case h_2 => cases e
  rename_i d1
  obtain ⟨ds, e1, e2⟩ := Option.map_eq_some_iff.mp e
  subst e2
  obtain ⟨x, rfl, v1⟩ := vw.one'
  unfold itemsD at e1
  split at e1
  · cases e1
    obtain ⟨a, vs, rfl, h1, f⟩ := v1.list R
    exact call_list_of pins s σ' H _ us Q I rx ⟨a, vs, rfl, .inl (.inl (.inl h1)), fun l nl => q.list R f l nl⟩
  · cases e1
    obtain ⟨a, vs, rfl, h0, h1, f⟩ := v1.tuple R
    exact call_list_of pins s σ' H _ us Q I rx ⟨a, vs, rfl, .inr (by rw [ft.K]; exact h1), fun l nl => q.list R f l nl⟩
  · cases e1
    obtain ⟨a, es, rfl, h1, f⟩ := v1.dict R
    obtain ⟨u, rfl, ru⟩ := rx.one
    cases (show u = Value.ref a from ru)
    obtain ⟨o, rows, ep, g1, g2, g3, lo, hz, rv⟩ := dc_raw (c := c) I (by rw [ft.P, ft.w]; exact h1) f f.flatKey
    refine PySem.W.kdl_call (kdl_raw lo g2 g3) (I.ok.hd ft.calm) g1 hz fun h' tk acc' c' hkeep hS hacc => ?_
    have el := items_of_raw hacc
    have f2 := f.keysA
    rw [← el] at rv
    refine ⟨.ref s.heap.objs.size, upd H s.heap.objs.size (.lst (es.map (·.2.1))), I.laid (t' := tk) hkeep (Nat.le_refl _) ⟨?_, acc'.toList, c', rv, ?_⟩, rfl, q.list R f2 _ (I.hok.fresh (Nat.le_refl _))⟩
    · rw [rv.length, Array.length_toList, hacc.1]; exact hz
    · rw [Array.toArray_toList]; exact hS
  · cases e1

/-! ### repr -/
theorem repr_ok (ft : Fit c X) : CallR X (.builtin "repr") (bF c Ev.reprB) := by
  intro pins s σ' H xs us Q I rx h
  obtain ⟨g, Ks, ρ, ts, σ, ds, d, R, vw, e, q⟩ := h
  unfold Ev.reprB at e
  split at e
  case h_2 => cases e
  rename_i d1
  split at e
  case isFalse => cases e
  rename_i hc
  cases e
  simp only [Bool.and_eq_true, Bool.not_eq_true', decide_eq_true_eq] at hc
  obtain ⟨⟨⟨h1, h2⟩, h3⟩, h4⟩ := hc
  rw [lim_line] at h4
  obtain ⟨x, rfl, v1⟩ := vw.one'
  obtain ⟨u, rfl, ru⟩ := rx.one
  have big : ∀ a, x = .ref a → wpAny (model X.prog X.w) X.A (call (.builtin "repr") [u]) (EP X pins σ' Q) X.xe s := fun a ea => by
    subst ea
    cases (show u = Value.ref a from ru)
    obtain ⟨as, rd⟩ := Dp.reads I d1 (.ref a) (.ref a) (by rw [ft.K]; exact v1.dp R (SeqAt.canLay_of_shaped h3)) rfl
    refine repr_of_reads' rd h1 (PyData.noDict_hsm h2) ft.gd ?_ (fun _ _ e => e) (fun h' t tk hk => ?_) h4
    · have := SeqAt.depth_of_shaped h3
      have := ft.units
      omega
    · exact ⟨.str _, H, I.kept (t' := tk) hk, ⟨t, rfl⟩, q.str R⟩
  cases d1 with
  | none =>
    cases v1.non
    cases (show u = Value.none from ru)
    exact PySem.P.repr_of_none ⟨.str _, H, I.tok _, ⟨_, rfl⟩, q.str R⟩
  | bool b =>
    cases v1.bl
    cases (show u = Value.bool b from ru)
    exact PySem.P.repr_of_bool ⟨.str _, H, I.tok _, ⟨_, rfl⟩, q.str R⟩
  | int i =>
    cases v1.int
    obtain ⟨t, rfl⟩ := ru
    exact PySem.P.repr_of_int (by simpa [PyData.showable] using h1) ⟨.str _, H, I.tok _, ⟨_, rfl⟩, q.str R⟩
  | str z =>
    cases v1.str
    obtain ⟨t, rfl⟩ := ru
    exact PySem.P.repr_of_str ⟨.str _, H, I.tok _, ⟨_, rfl⟩, q.str R⟩ h4
  | list ds =>
    obtain ⟨a, vs, rfl, _⟩ := v1.list R
    exact big a rfl
  | tuple ds =>
    obtain ⟨a, vs, rfl, _⟩ := v1.tuple R
    exact big a rfl
  | dict ds => simp [PyData.hasDict] at h2
end
end EvS
set_option linter.all false
set_option Elab.async false
set_option maxRecDepth 100000
set_option maxHeartbeats 4000000
/-! EvF: dict(pairs), isinstance, index, get. -/
namespace EvS
open PySem PySem.Spec PyProof.Rows L2 EvK
open Ev (D Ste Src getS wipe restore flatK tupK dget dset dsetAll okK lim isInts isBls itemsD pairsD)

/-! ### dsetAll: one sort of keys -/
theorem dset_all {p : D → Bool} {k v : D} : ∀ {kvs : List (D × D)}, kvs.all (fun x => p x.1) = true → p k = true → (dset kvs k v).all (fun x => p x.1) = true
  | [], _, h => by simp [dset, h]
  | (k', v') :: r, h, hk => by
    simp only [List.all_cons, Bool.and_eq_true] at h
    unfold dset
    by_cases q : PyData.eqv k' k = true
    · rw [if_pos q]; simp only [List.all_cons, Bool.and_eq_true]; exact ⟨h.1, h.2⟩
    · rw [if_neg q]; simp only [List.all_cons, Bool.and_eq_true]; exact ⟨h.1, dset_all h.2 hk⟩
theorem dset_ne {k v : D} : ∀ {kvs : List (D × D)}, ∃ x, x ∈ dset kvs k v
  | [] => ⟨_, List.mem_cons_self⟩
  | (k', v') :: r => by
    unfold dset
    by_cases q : PyData.eqv k' k = true
    · rw [if_pos q]; exact ⟨_, List.mem_cons_self⟩
    · rw [if_neg q]; exact ⟨_, List.mem_cons_self⟩
theorem dset_sorts {k v : D} {kvs : List (D × D)} (h1 : (dset kvs k v).all (fun x => flatK x.1) = true) (h2 : (dset kvs k v).all (fun x => tupK x.1) = true) : False := by
  obtain ⟨x, hx⟩ := dset_ne (kvs := kvs) (k := k) (v := v)
  exact tup_flat (List.all_eq_true.mp h2 x hx) (List.all_eq_true.mp h1 x hx)
theorem dsetAll_sort : ∀ {kvs acc zs : List (D × D)}, dsetAll acc kvs = some zs → (acc.all (fun x => flatK x.1) = true ∨ acc.all (fun x => tupK x.1) = true) →
    (acc.all (fun x => flatK x.1) = true ∧ kvs.all (fun x => flatK x.1) = true) ∨ (acc.all (fun x => tupK x.1) = true ∧ kvs.all (fun x => tupK x.1) = true)
  | [], acc, zs, _, h => by
    rcases h with h | h
    · exact .inl ⟨h, rfl⟩
    · exact .inr ⟨h, rfl⟩
  | (k, v) :: r, acc, zs, e, _ => by
    unfold dsetAll at e
    split at e
    · rename_i hk
      unfold okK at hk
      simp only [Bool.or_eq_true, Bool.and_eq_true] at hk
      rcases hk with ⟨k1, k2⟩ | ⟨k1, k2⟩
      · have h1 := dset_all (v := v) k2 k1
        rcases dsetAll_sort e (.inl h1) with ⟨_, q⟩ | ⟨q, _⟩
        · exact .inl ⟨k2, by simp only [List.all_cons, Bool.and_eq_true]; exact ⟨k1, q⟩⟩
        · exact (dset_sorts h1 q).elim
      · have h1 := dset_all (v := v) k2 k1
        rcases dsetAll_sort e (.inr h1) with ⟨q, _⟩ | ⟨_, q⟩
        · exact (dset_sorts q h1).elim
        · exact .inr ⟨k2, by simp only [List.all_cons, Bool.and_eq_true]; exact ⟨k1, q⟩⟩
    · cases e
/-! ### entries merged -/
def mergeE (acc more : List Ent) : List Ent := more.foldl (fun a e => eput a e.1 e.2.1 e.2.2) acc
theorem mergeE_len : ∀ (more acc : List Ent), (mergeE acc more).length ≤ acc.length + more.length
  | [], acc => Nat.le_refl _
  | e :: r, acc => by
    have h1 := mergeE_len r (eput acc e.1 e.2.1 e.2.2)
    have h2 := eput_len acc e.1 e.2.1 e.2.2
    show (mergeE (eput acc e.1 e.2.1 e.2.2) r).length ≤ _
    simp only [List.length_cons]; omega
theorem FzE.merge {P : Program} {w : World} {K : PySem.W.Frag} {F : Hp} : ∀ {es : List Ent} {kvs : List (D × D)} {ea : List Ent} {acc zs : List (D × D)}, FzE P w K F es kvs → FzE P w K F ea acc → dsetAll acc kvs = some zs → FzE P w K F (mergeE ea es) zs
  | _, _, _, _, _, .nil, h, e => by cases e; exact h
  | _, _, ea, _, zs, .cons (k := k) (kv := kv) (v := v) (es := es) hk hv t, h, e => by
    unfold dsetAll at e
    split at e
    · show FzE P w K F (mergeE (eput ea k kv v) es) zs
      exact FzE.merge t (h.put hk hv) e
    · cases e
theorem nd_snoc' {α : Type} [DecidableEq α] {xs : List α} {k : α} (hn : xs.Nodup) (h : k ∉ xs) : (xs ++ [k]).Nodup := by
  rw [List.nodup_append]
  refine ⟨hn, by simp, fun a ha b hb => ?_⟩
  simp only [List.mem_singleton] at hb
  subst hb
  exact fun z => h (z ▸ ha)
theorem nd_put {κ : Type} [DecidableEq κ] {kvs : List (κ × V)} {k : κ} (v : V) (hn : (kvs.map (·.1)).Nodup) : ((putK kvs k v).map (·.1)).Nodup := by
  unfold putK
  by_cases h : (kvs.any fun kv => decide (kv.1 = k)) = true
  · rw [if_pos h, List.map_map]
    have : (fun x : κ × V => x.1) ∘ (fun kv => if kv.1 = k then (kv.1, v) else kv) = fun x => x.1 := by
      funext x
      show (if x.1 = k then (x.1, v) else x).1 = x.1
      by_cases z : x.1 = k
      · rw [if_pos z]
      · rw [if_neg z]
    rw [this]; exact hn
  · rw [if_neg h, List.map_append]
    refine nd_snoc' hn fun z => h ?_
    obtain ⟨p, hp, e⟩ := List.mem_map.mp z
    exact List.any_eq_true.mpr ⟨p, hp, decide_eq_true e⟩
theorem eput_all {p : D → Bool} {k : D} {kv v : V} {es : List Ent} (h : ∀ e ∈ es, p e.1 = true) (hk : p k = true) : ∀ e ∈ eput es k kv v, p e.1 = true := fun e he => by
  rcases mem_eput he with ⟨e', h1, h2, _⟩ | ⟨h1, _⟩
  · rw [h2]; exact h e' h1
  · rw [h1]; exact hk
theorem flat_merge : ∀ {es ea : List Ent}, (∀ e ∈ es, flatK e.1 = true) → (∀ e ∈ ea, flatK e.1 = true) → ((ea.map fun e => (keyOf e.1, e.2.2)).map (·.1)).Nodup →
    mergeK (ea.map fun e => (keyOf e.1, e.2.2)) (es.map fun e => (keyOf e.1, e.2.2)) = (mergeE ea es).map (fun e => (keyOf e.1, e.2.2)) ∧ ∀ e ∈ mergeE ea es, flatK e.1 = true
  | [], ea, _, h, _ => ⟨rfl, h⟩
  | e :: r, ea, hs, h, hn => by
    have h1 := hs e List.mem_cons_self
    have e1 := flat_put (kv := e.2.1) h1 e.2.2 h hn
    have hn2 : (((eput ea e.1 e.2.1 e.2.2).map fun e => (keyOf e.1, e.2.2)).map (·.1)).Nodup := by rw [← e1]; exact nd_put _ hn
    obtain ⟨i1, i2⟩ := flat_merge (es := r) (fun x hx => hs x (List.mem_cons_of_mem _ hx)) (eput_all h h1) hn2
    refine ⟨?_, i2⟩
    show mergeK (putK (ea.map fun e => (keyOf e.1, e.2.2)) (keyOf e.1) e.2.2) (r.map fun e => (keyOf e.1, e.2.2)) = (mergeE (eput ea e.1 e.2.1 e.2.2) r).map _
    rw [e1]; exact i1
theorem nd_storedH {xs : List (D × Addr × Value)} {k : D} {b : Addr} {u : Value} (hn : (xs.map (·.1)).Nodup) : ((storedH xs k b u).map (·.1)).Nodup := by
  unfold storedH
  by_cases h : (atKey xs k).isSome = true
  · rw [if_pos h, keys_map_putAt]; exact hn
  · rw [if_neg h, List.map_append]
    refine nd_snoc' hn fun z => h ?_
    obtain ⟨p, hp, e⟩ := List.mem_map.mp z
    unfold atKey
    rw [Option.isSome_map, List.find?_isSome]
    exact ⟨p, hp, decide_eq_true e⟩
theorem tup_merge : ∀ {es ea : List Ent} {ys xs : List (D × Addr × Value)}, EX es ys → EX ea xs → (∀ e ∈ es, tupK e.1 = true) → (∀ e ∈ ea, tupK e.1 = true) → (xs.map (·.1)).Nodup →
    EX (mergeE ea es) (storedAllH xs ys) ∧ (∀ e ∈ mergeE ea es, tupK e.1 = true) ∧ ((storedAllH xs ys).map (·.1)).Nodup
  | _, _, _, _, .nil, h, _, h2, hn => ⟨h, h2, hn⟩
  | _, ea, _, xs, .cons (a := e) (b := y) (l₁ := r) (l₂ := yr) q t, h, hs, h2, hn => by
    have h1 := hs e List.mem_cons_self
    have p1 := tup_put h1 (b := y.2.1) q.2.2 h h2 hn
    rw [show V.ref y.2.1 = e.2.1 from q.2.1.symm] at p1
    have := tup_merge (xs := storedH xs e.1 y.2.1 y.2.2) t p1 (fun x hx => hs x (List.mem_cons_of_mem _ hx)) (eput_all h2 h1) (nd_storedH hn)
    show EX (mergeE (eput ea e.1 e.2.1 e.2.2) r) (storedAllH (storedH xs y.1 y.2.1 y.2.2) yr) ∧ (∀ x ∈ mergeE (eput ea e.1 e.2.1 e.2.2) r, tupK x.1 = true) ∧ ((storedAllH (storedH xs y.1 y.2.1 y.2.2) yr).map (·.1)).Nodup
    rw [← q.1]; exact this

section
variable {c : Ct} {X : Cx} {g : Gh} {Ks : List Kd} {ρ : Ste} {ts : List Tm} {σ : L2.St} {H : Hp} {pins : List (Addr × Obj)} {σ' : L2.St} {s : Shared}
/-- a frozen tuple's object, without a dict of its own -/
theorem TuP.plain (ft : Fit c X) (I : Inv X pins σ' H s) (fh : Same g.F H) {a : Addr} {xs : List V} (h : TuP c.K g.F a xs) : ∃ its : List Value, Vals xs its ∧ PlainSeq "tuple" s.heap a its.toArray ∧ xs.length ≤ sizeLine := by
  rcases h with ⟨o, h, hn⟩ | ⟨o, its, n, hk, hc, hd, hs, hz, r⟩
  · obtain ⟨e, hz, its, r, ⟨o', ho, hc, n, hd⟩⟩ := (show ObjOk X.prog X.w H s.heap a (.frz o (.tup xs)) from I.hok a _ (fh _ _ h))
    rw [e] at ho; cases ho
    exact ⟨its, r, ⟨o, n, e, hc, hn, hd⟩, hz⟩
  · rw [← ft.K] at hk
    refine ⟨its.toList, r, ⟨o, n, I.kIn a o hk, hc, hd, by simpa using hs⟩, ?_⟩
    have e := r.length
    simp only [Array.length_toList] at e
    omega
abbrev EP2 (es : List Ent) (ps : List (Value × Value)) : Prop := Paired (fun (e : Ent) (p : Value × Value) => RelV e.2.1 p.1 ∧ RelV e.2.2 p.2) es ps
/-- rows that are pairs -/
theorem pair_rows (ft : Fit c X) (I : Inv X pins σ' H s) (fh : Same g.F H) : ∀ {xs : List V} {us : List Value} {ds : List D} {kvs : List (D × D)}, Vals xs us → FzA c.P c.w c.K g.F xs ds → pairsD ds = some kvs →
    ∃ (es : List Ent) (ps : List (Value × Value)), FzE c.P c.w c.K g.F es kvs ∧ EP2 es ps ∧ ps.length = us.length ∧ ∀ (j : Nat) (p : Value × Value), ps[j]? = some p → ∃ T, us[j]? = some (.ref T) ∧ s.heap.IsTuple T #[p.1, p.2]
  | _, _, _, _, .nil, .nil, e => by cases e; exact ⟨[], [], .nil, .nil, rfl, fun j p h => by simp at h⟩
  | _, _, _, kvs, .cons (a := x) (b := u) r t, .cons (d := d) h f, e => by
    unfold pairsD at e
    split at e
    · rename_i he; cases he
    · rename_i k v r' he
      cases he
      obtain ⟨kvs', e1, e2⟩ := Option.map_eq_some_iff.mp e
      subst e2
      obtain ⟨es, ps, i1, i2, i3, i4⟩ := pair_rows ft I fh t f e1
      cases h with
      | @tup a ys ds hq hf =>
        cases hf with
        | cons h1 hf => cases hf with
          | cons h2 hf =>
            cases hf
            rename_i kv vv
            cases (show u = Value.ref a from r)
            obtain ⟨its, rv, ho, _⟩ := I.tuple (a := a) (xs := [kv, vv]) (by rw [ft.K]; exact same_tup fh hq.sq)
            obtain ⟨u1, u2, eu, r1, r2⟩ := vals2 rv
            subst eu
            refine ⟨(k, kv, vv) :: es, (u1, u2) :: ps, .cons h1 h2 i1, .cons ⟨r1, r2⟩ i2, by rw [List.length_cons, List.length_cons, i3], fun j p hj => ?_⟩
            cases j with
            | zero => cases hj; exact ⟨a, rfl, ho⟩
            | succ j =>
              obtain ⟨T, q1, q2⟩ := i4 j p (by simpa using hj)
              exact ⟨T, by simpa using q1, q2⟩
    · cases e
theorem ep_flat : ∀ {es : List Ent} {ps : List (Value × Value)}, EP2 es ps → KV (es.map fun e => (keyOf e.1, e.2.2)) ((es.zip ps).map fun x => (keyOf x.1.1, x.2.2))
  | _, _, .nil => .nil
  | _, _, .cons q t => .cons ⟨rfl, q.2⟩ (ep_flat t)
theorem ep_get : ∀ {es : List Ent} {ps : List (Value × Value)} {j : Nat} {p : Value × Value}, EP2 es ps → ps[j]? = some p → ∃ e ∈ es, (es.zip ps)[j]? = some (e, p) ∧ RelV e.2.1 p.1
  | _, _, _, _, .nil, h => by simp at h
  | _, _, 0, p, .cons (a := e) q t, h => by
    cases h; exact ⟨e, List.mem_cons_self, rfl, q.1⟩
  | _, _, j + 1, p, .cons q t, h => by
    obtain ⟨e, h1, h2, h3⟩ := ep_get (j := j) t (by simpa using h)
    exact ⟨e, List.mem_cons_of_mem _ h1, by simpa using h2, h3⟩
theorem EP2.length {es : List Ent} {ps : List (Value × Value)} (h : EP2 es ps) : es.length = ps.length := Paired.length h
def adr : V → Addr
  | .ref a => a
  | _ => 0
theorem ep_ex : ∀ {es : List Ent} {ps : List (Value × Value)}, EP2 es ps → (∀ e ∈ es, ∃ b, e.2.1 = .ref b) → EX es ((es.zip ps).map fun x => (x.1.1, adr x.1.2.1, x.2.2))
  | _, _, .nil, _ => .nil
  | _, _, .cons (a := e) q t, h => by
    obtain ⟨b, hb⟩ := h e List.mem_cons_self
    refine .cons ⟨rfl, ?_, q.2⟩ (ep_ex t fun x hx => h x (List.mem_cons_of_mem _ hx))
    show e.2.1 = V.ref (adr e.2.1)
    rw [hb]; rfl
theorem fz_ref {F : Hp} {v : V} {d : D} (h : Fz c.P c.w c.K F v d) (t : tupK d = true) : ∃ b, v = .ref b := by
  cases h <;> simp [tupK] at t
  exact ⟨_, rfl⟩
/-- dict(rows), whatever holds the rows -/
theorem dict_rows (ft : Fit c X) (I : Inv X pins σ' H s) (R : Rel c g Ks ρ ts σ H) {T : String} {a : Addr} {fp wr : List Addr} {n : Nat} {OK : Heap → Prop} {ps : List (Value × Value)} {es : List Ent} {kvs zs : List (D × D)} {Q : VK}
    (P : PairArg X.prog X.w T a fp wr n (PairRel ps) OK) (ok : OK s.heap) (hn : ps.length = n) (hz : n ≤ sizeLine) (fe : FzE c.P c.w c.K g.F es kvs) (hp : EP2 es ps) (hs : dsetAll [] kvs = some zs) (hw : wr = [])
    (q : Pst c Ks ρ ts σ .own (.dict zs) Q) : wpAny (model X.prog X.w) X.A (call (.type "dict") [.ref a]) (EP X pins σ' Q) X.xe s := by
  subst hw
  have hm : (s.heap.objs.size == sysModules) = false := beq_eq_false_iff_ne.mpr (Nat.ne_of_gt I.big)
  have hlen : (mergeE [] es).length ≤ sizeLine := by
    have := mergeE_len es []
    rw [hp.length, hn] at this
    simp only [List.length_nil] at this; omega
  have fz := FzE.merge fe .nil hs
  have np : H s.heap.objs.size = none := I.hok.fresh (Nat.le_refl _)
  have hl2 : (es.zip ps).length = n := by rw [List.length_zip, hp.length, hn, Nat.min_self]
  rcases dsetAll_sort hs (.inl rfl) with ⟨_, h⟩ | ⟨_, h⟩
  · have fl := fe.flat h
    obtain ⟨m1, m2⟩ := flat_merge fl (ea := []) (by simp) List.nodup_nil
    refine call_dict_pairs (knd := mixKind X.prog X.w) (kvs := (es.zip ps).map fun x => (keyOf x.1.1, x.2.2)) P (I.ok.hd ft.calm) ok ⟨by rw [List.length_map, hl2], fun i key v hr => ?_⟩ hz fun h' tk hd' k => ?_
    · obtain ⟨e, he, h1, h2⟩ := ep_get hp hr
      refine ⟨keyOf e.1, by rw [List.getElem?_map, h1]; rfl, ?_⟩
      have hk := fe.flatKey e he (fl e he)
      rw [hk] at h2
      exact kV_is h2
    · have rel := KV.merge (ep_flat hp) (kvs := []) (vs := []) .nil
      rw [show ([] : List (Key × V)) = ([] : List Ent).map (fun e => (keyOf e.1, e.2.2)) from rfl, m1] at rel
      have hO : DcO c.P c.w s.heap.objs.size (upd H s.heap.objs.size (.dK ((mergeE [] es).map fun e => (keyOf e.1, e.2.2))) s.heap.objs.size) (mergeE [] es) := .inl ⟨upd_same, m2⟩
      exact ⟨.ref s.heap.objs.size, _, I.laid (t' := tk) (fun b o e => k b o (by simp) e) (Nat.le_refl _) (show ObjOk X.prog X.w _ _ _ (.dK ((mergeE [] es).map fun e => (keyOf e.1, e.2.2))) from ⟨by rw [List.length_map]; exact hlen, hm, _, rel, hd'⟩), rfl,
        q _ _ _ (R.newO np (.inr ⟨zs, mergeE [] es, rfl, hO, fz⟩))⟩
  · have tk := fe.tup h
    have hr : ∀ e ∈ es, ∃ b, e.2.1 = .ref b := fun e he => fz_ref (fe.key e he) (tk e he)
    have ex := ep_ex hp hr
    obtain ⟨m1, m2, m3⟩ := tup_merge ex (ea := []) (xs := []) .nil tk (by simp) List.nodup_nil
    have hu : (deepKind X.prog X.w).room X.A.in1.in1 := deep_room (A := X.A.in1) (by show X.A.units + 1 + 32 < cLine; have := ft.units; omega)
    have kst : ∀ (h' : Heap), (∀ b o, s.heap.get? b = some o → h'.get? b = some o) → ∀ x ∈ (es.zip ps).map (fun x => (x.1.1, adr x.1.2.1, x.2.2)), (deepKind X.prog X.w).is h' x.1 x.2.1 := fun h' hk x hx => by
      obtain ⟨y, hy, rfl⟩ := List.mem_map.mp hx
      have he := (List.of_mem_zip hy).1
      obtain ⟨b, hb⟩ := hr _ he
      have I' : Inv X pins σ' H { s with heap := h' } := I.kept (t' := s.toks) hk
      have dp : Dp X.K H (.ref b) y.1.1 := by rw [ft.K, ← hb]; exact (fe.key _ he).dp R.fh (lay_of_deepK 8 _ (tupK_deep (tk _ he))).1
      show (deepKind X.prog X.w).is h' y.1.1 (adr y.1.2.1)
      rw [hb]
      exact reads_of I' dp (tk _ he)
    refine call_dict_pairsH (knd := deepKind X.prog X.w) (ps := (es.zip ps).map fun x => (x.1.1, adr x.1.2.1, x.2.2)) P (I.ok.hd ft.calm) hu ok ⟨by rw [List.length_map, hl2], fun i key v hr' => ?_⟩ (fun h' hk => kst h' fun b o e => hk b o (Nat.ne_of_lt (Heap.lt_size e)) (by simp) e) hz fun h' tk' hd' k => ?_
    · obtain ⟨e, he, h1, h2⟩ := ep_get hp hr'
      obtain ⟨b, hb⟩ := hr e he
      refine ⟨e.1, adr e.2.1, by rw [List.getElem?_map, h1]; rfl, ?_⟩
      rw [hb] at h2 ⊢
      exact h2
    · obtain ⟨ob, rows, ep, hq, h2, h3, h4, _, h5⟩ := hd'
      have hO : DcO c.P c.w s.heap.objs.size (upd H s.heap.objs.size (.ext (tupPhi X.prog X.w s.heap.objs.size (mergeE [] es))) s.heap.objs.size) (mergeE [] es) := .inr ⟨by rw [upd_same, ft.P, ft.w], m2⟩
      refine ⟨.ref s.heap.objs.size, _, I.laid (t' := tk') (o := .ext (tupPhi X.prog X.w s.heap.objs.size (mergeE [] es))) (fun b o e => k b o (by simp) e) (Nat.le_refl _) ⟨⟨hlen, hm, _, m1, ob, rows, ep, hq, h2, h3, h4, h5⟩, ⟨ob, hq⟩, fun h1 h2' hh hk' => ?_⟩, rfl,
        q _ _ _ (R.newO np (.inr ⟨zs, mergeE [] es, rfl, hO, fz⟩))⟩
      obtain ⟨l1, l2, ys, l3, o', rows', ep', l4, l5⟩ := hh
      exact ⟨l1, l2, ys, l3, o', rows', ep', hk' _ l4, l5⟩
def refAt (us : List Value) (j : Nat) : Addr := match us[j]? with
  | some (.ref a) => a
  | _ => 0
theorem dict_ok (ft : Fit c X) : CallR X (.type "dict") (bF c Ev.dictB) := by
  intro pins s σ' H xs us Q I rx h
  obtain ⟨g, Ks, ρ, ts, σ, ds, d, R, vw, e, q⟩ := h
  have items : ∀ {its : List Value} {ps : List (Value × Value)}, ps.length = its.length → (∀ (j : Nat) (p : Value × Value), ps[j]? = some p → ∃ T, its[j]? = some (.ref T) ∧ s.heap.IsTuple T #[p.1, p.2]) → PairItems s.heap its.toArray (refAt its) ps := fun {its ps} hl h =>
    ⟨by rw [List.size_toArray, hl], fun j k v hj => by
      obtain ⟨T, h1, h2⟩ := h j (k, v) hj
      have e : refAt its j = T := by unfold refAt; rw [h1]
      rw [e]
      exact ⟨by rw [List.getElem?_toArray]; exact h1, .inl h2⟩⟩
  unfold Ev.dictB at e
  split at e
  · rename_i ds
    obtain ⟨kvs, e1, e⟩ := Option.bind_eq_some_iff.mp e
    obtain ⟨zs, e2, e3⟩ := Option.map_eq_some_iff.mp e
    subst e3
    obtain ⟨x, rfl, v1⟩ := vw.one'
    obtain ⟨a, vs, rfl, h1, f⟩ := v1.list R
    obtain ⟨u, rfl, ru⟩ := rx.one
    cases (show u = Value.ref a from ru)
    obtain ⟨its, rv, ⟨o, n, ho, hc, hd, hdat⟩, hz⟩ := I.list (.inl (.inl h1))
    obtain ⟨es, ps, fe, hp, hl, hr⟩ := pair_rows ft I R.fh rv f e1
    have hz2 : ps.length ≤ sizeLine := by rw [hl, ← rv.length]; exact hz
    exact dict_rows ft I R (PairArg.list a its.toArray (refAt its) ps) ⟨⟨o, n, ho, hc, hd, by simpa using hdat⟩, items hl hr⟩ rfl hz2 fe hp e2 rfl q
  · rename_i ds
    obtain ⟨kvs, e1, e⟩ := Option.bind_eq_some_iff.mp e
    obtain ⟨zs, e2, e3⟩ := Option.map_eq_some_iff.mp e
    subst e3
    obtain ⟨x, rfl, v1⟩ := vw.one'
    obtain ⟨a, vs, rfl, h0, h1, f⟩ := v1.tuple R
    obtain ⟨u, rfl, ru⟩ := rx.one
    cases (show u = Value.ref a from ru)
    obtain ⟨its, rv, pl, hz⟩ := h0.plain ft I R.fh
    obtain ⟨es, ps, fe, hp, hl, hr⟩ := pair_rows ft I R.fh rv f e1
    have hz2 : ps.length ≤ sizeLine := by rw [hl, ← rv.length]; exact hz
    exact dict_rows ft I R (PairArg.tuple a its.toArray (refAt its) ps) ⟨pl, items hl hr⟩ rfl hz2 fe hp e2 rfl q
  · cases e
end
end EvS
set_option linter.all false
set_option Elab.async false
set_option maxRecDepth 100000
set_option maxHeartbeats 4000000
/-! EvM: isinstance, methods. -/
namespace EvS
open PySem PySem.Spec PyProof.Rows L2 EvK
open Ev (D Ste Src getS wipe restore flatK tupK dget dset dsetAll okK lim isInts isBls itemsD pairsD)
section
variable {c : Ct} {X : Cx} {g : Gh} {Ks : List Kd} {ρ : Ste} {ts : List Tm} {σ : L2.St} {H : Hp} {pins : List (Addr × Obj)} {σ' : L2.St} {s : Shared}

/-! ### isinstance -/
def tyN : D → String
  | .none => "NoneType"
  | .bool _ => "bool"
  | .int _ => "int"
  | .str _ => "str"
  | .list _ => "list"
  | .tuple _ => "tuple"
  | .dict _ => "dict"
theorem View.ty (ft : Fit c X) (R : Rel c g Ks ρ ts σ H) {d : D} {x : V} (v : View c g H d x) (n : ∀ kvs, d ≠ .dict kvs) : TyX X.K H x (.type (tyN d)) := by
  cases d with
  | none => cases v.non; exact .base .non
  | bool b => cases v.bl; exact .base (.bl _)
  | int i => cases v.int; exact .base (.int _)
  | str z => cases v.str; exact .base (.str _)
  | list ds => obtain ⟨a, vs, rfl, h, _⟩ := v.list R; exact .base (.lst h)
  | tuple ds =>
    obtain ⟨a, vs, rfl, h0, h1, _⟩ := v.tuple R
    rcases h0 with ⟨o, h, _⟩ | ⟨o, its, k, h, hc, _⟩
    · exact .fTuple (R.fh _ _ h)
    · exact .kTuple (by rw [ft.K]; exact h) hc
  | dict kvs => exact absurd rfl (n kvs)
def isiF (c : Ct) (T : String) (f : List D → Option D) : List V → Hp → VK → Prop := fun xs H Q => ∃ x, xs = [x, .ty T] ∧ bF c f [x] H Q
theorem isi_any (ft : Fit c X) {T : String} {p : D → Bool} (hp : ∀ d, (∀ kvs, d ≠ .dict kvs) → PySem.W.kitOne X.K (.type (tyN d)) (.type T) = some (p d)) : CallR X (.builtin "isinstance") (isiF c T (Ev.isB p)) := by
  intro pins s σ' H xs us Q I rx h
  obtain ⟨x, rfl, g, Ks, ρ, ts, σ, ds, d, R, vw, e, q⟩ := h
  unfold Ev.isB at e
  split at e
  · cases e
  · rename_i d1 n
    cases e
    obtain ⟨x', e1, v1⟩ := vw.one'
    cases e1
    have n' : ∀ kvs, d1 ≠ .dict kvs := fun kvs z => n kvs (by rw [z])
    exact call_isi pins s σ' H _ us Q I rx ⟨x, .ty T, .type (tyN d1), .type T, p d1, rfl, .ty T, v1.ty ft R n', hp d1 n', q.bl R⟩
  · cases e
theorem isi_six (ft : Fit c X) {T : String} {p : D → Bool} {r0 r1 r2 r3 r4 r5 : Bool} (k0 : kitB "NoneType" T = some r0) (k1 : kitB "bool" T = some r1) (k2 : kitB "int" T = some r2) (k3 : kitB "str" T = some r3) (k4 : kitB "list" T = some r4) (k5 : kitB "tuple" T = some r5)
    (p0 : p .none = r0) (p1 : ∀ b, p (.bool b) = r1) (p2 : ∀ b, p (.int b) = r2) (p3 : ∀ b, p (.str b) = r3) (p4 : ∀ b, p (.list b) = r4) (p5 : ∀ b, p (.tuple b) = r5) : CallR X (.builtin "isinstance") (isiF c T (Ev.isB p)) := isi_any ft fun d n => by
  cases d with
  | none => rw [p0]; exact kit_ty k0
  | bool b => rw [p1]; exact kit_ty k1
  | int b => rw [p2]; exact kit_ty k2
  | str b => rw [p3]; exact kit_ty k3
  | list b => rw [p4]; exact kit_ty k4
  | tuple b => rw [p5]; exact kit_ty k5
  | dict kvs => exact (n kvs rfl).elim
theorem isi_int (ft : Fit c X) : CallR X (.builtin "isinstance") (isiF c "int" Ev.isIntB) := isi_six (r0 := false) (r1 := true) (r2 := true) (r3 := false) (r4 := false) (r5 := false) ft (by decide +kernel) (by decide +kernel) (by decide +kernel) (by decide +kernel) (by decide +kernel) (by decide +kernel) rfl (fun _ => rfl) (fun _ => rfl) (fun _ => rfl) (fun _ => rfl) (fun _ => rfl)
theorem isi_bool (ft : Fit c X) : CallR X (.builtin "isinstance") (isiF c "bool" Ev.isBoolB) := isi_six (r0 := false) (r1 := true) (r2 := false) (r3 := false) (r4 := false) (r5 := false) ft (by decide +kernel) (by decide +kernel) (by decide +kernel) (by decide +kernel) (by decide +kernel) (by decide +kernel) rfl (fun _ => rfl) (fun _ => rfl) (fun _ => rfl) (fun _ => rfl) (fun _ => rfl)
theorem isi_tuple (ft : Fit c X) : CallR X (.builtin "isinstance") (isiF c "tuple" Ev.isTupleB) := isi_six (r0 := false) (r1 := false) (r2 := false) (r3 := false) (r4 := false) (r5 := true) ft (by decide +kernel) (by decide +kernel) (by decide +kernel) (by decide +kernel) (by decide +kernel) (by decide +kernel) rfl (fun _ => rfl) (fun _ => rfl) (fun _ => rfl) (fun _ => rfl) (fun _ => rfl)
theorem isi_str (ft : Fit c X) : CallR X (.builtin "isinstance") (isiF c "str" Ev.isStrB) := isi_six (r0 := false) (r1 := false) (r2 := false) (r3 := true) (r4 := false) (r5 := false) ft (by decide +kernel) (by decide +kernel) (by decide +kernel) (by decide +kernel) (by decide +kernel) (by decide +kernel) rfl (fun _ => rfl) (fun _ => rfl) (fun _ => rfl) (fun _ => rfl) (fun _ => rfl)
theorem isi_list (ft : Fit c X) : CallR X (.builtin "isinstance") (isiF c "list" Ev.isListB) := isi_six (r0 := false) (r1 := false) (r2 := false) (r3 := false) (r4 := true) (r5 := false) ft (by decide +kernel) (by decide +kernel) (by decide +kernel) (by decide +kernel) (by decide +kernel) (by decide +kernel) rfl (fun _ => rfl) (fun _ => rfl) (fun _ => rfl) (fun _ => rfl) (fun _ => rfl)

/-! ### methods that read -/
def mF (c : Ct) (kd : Kd) (f : List D → Option D) : V → List V → Hp → VK → Prop := fun x xs H Q => ∃ g Ks ρ ts σ ds d, Rel c g Ks ρ ts σ H ∧ Views c g H ds (x :: xs) ∧ f ds = some d ∧ Pst c Ks ρ ts σ kd d Q
theorem indexD_at {x : D} : ∀ {ds : List D} {n : Nat} {r : D}, Ev.indexD ds x n = some r → ∃ j z, ds[j]? = some z ∧ PyData.eqv z x = true ∧ (∀ m z', m < j → ds[m]? = some z' → PyData.eqv z' x = false) ∧ r = .int ((n + j : Nat) : Int)
  | [], _, _, e => by cases e
  | z :: ds, n, r, e => by
    unfold Ev.indexD at e
    split at e
    · rename_i h
      cases e
      exact ⟨0, z, rfl, h, fun m z' hm => by omega, rfl⟩
    · rename_i h
      obtain ⟨j, z1, h1, h2, h3, h4⟩ := indexD_at e
      refine ⟨j + 1, z1, by simpa using h1, h2, fun m z' hm hz => ?_, by rw [h4]; congr 2; omega⟩
      cases m with
      | zero =>
        cases hz
        exact Bool.eq_false_iff.mpr h
      | succ m => exact h3 m z' (by omega) (by simpa using hz)
theorem index_ok (ft : Fit c X) : MtR X "list.index" (mF c .own Ev.indexB) := by
  intro pins s σ' H x xs v us Q I rx rxs h
  obtain ⟨g, Ks, ρ, ts, σ, ds, d, R, vw, e, q⟩ := h
  unfold Ev.indexB at e
  split at e
  · rename_i ds y
    split at e
    · rename_i hs
      rw [Bool.and_eq_true] at hs
      obtain ⟨x1, x2, e1, v1, v2⟩ := vw.two'
      cases e1
      obtain ⟨j, z, h1, h2, h3, rfl⟩ := indexD_at e
      have p1 := v1.dp R (SeqAt.canLay_of_shaped hs.1)
      have p2 := v2.dp R (SeqAt.canLay_of_shaped hs.2)
      obtain ⟨a, vs, rfl, _⟩ := v1.list R
      rw [Nat.zero_add] at q
      exact mt_indexD (by have := ft.units; omega) pins s σ' H _ _ v us Q I rx rxs ⟨a, x2, y, ds, j, z, rfl, rfl, by rw [ft.K]; exact p1, by rw [ft.K]; exact p2, hs.1, hs.2, h1, h2, h3, q.int R⟩
    · cases e
  · cases e
theorem get1_ok (ft : Fit c X) : MtR X "dict.get" (mF c .fz Ev.get1B) := by
  intro pins s σ' H x xs v us Q I rx rxs h
  obtain ⟨g, Ks, ρ, ts, σ, ds, d, R, vw, e, q⟩ := h
  unfold Ev.get1B at e
  split at e
  · rename_i kvs k
    split at e
    · rename_i hk
      cases e
      obtain ⟨x1, x2, e1, v1, v2⟩ := vw.two'
      cases e1
      obtain ⟨a, es, rfl, h1, f⟩ := v1.dict R
      have kf := v2.key R f hk
      rw [← ft.K] at kf
      cases (show v = Value.ref a from rx)
      obtain ⟨u, rfl, ru⟩ := rxs.one
      have fz : Fz c.P c.w c.K g.F ((eget es k).getD .non) ((dget kvs k).getD .none) := by
        rcases f.get k with ⟨e1, e2⟩ | ⟨d, z, e1, e2, h⟩ <;> rw [e1, e2]
        · exact .non
        · exact h
      exact g_get1 (by have := ft.units; omega) I (by rw [ft.P, ft.w]; exact h1) kf ru fun w' s' I' r' => ⟨_, H, I', r', q.fz R fz⟩
    · cases e
  · cases e
/-- as mF, the last operand frozen -/
def mF2 (c : Ct) (f : List D → Option D) : V → List V → Hp → VK → Prop := fun x xs H Q => ∃ g Ks ρ ts σ d1 d2 d3 x2 x3 d, xs = [x2, x3] ∧ Rel c g Ks ρ ts σ H ∧ View c g H d1 x ∧ View c g H d2 x2 ∧ Fz c.P c.w c.K g.F x3 d3 ∧ f [d1, d2, d3] = some d ∧ Pst c Ks ρ ts σ .fz d Q
theorem get2_ok (ft : Fit c X) : MtR X "dict.get" (mF2 c Ev.get2B) := by
  intro pins s σ' H x xs v us Q I rx rxs h
  obtain ⟨g, Ks, ρ, ts, σ, d1, d2, d3, x2, x3, d, rfl, R, v1, v2, v3, e, q⟩ := h
  unfold Ev.get2B at e
  split at e
  · rename_i kvs k dv he
    cases he
    split at e
    · rename_i hk
      cases e
      obtain ⟨a, es, rfl, h1, f⟩ := v1.dict R
      have kf := v2.key R f hk
      rw [← ft.K] at kf
      cases (show v = Value.ref a from rx)
      obtain ⟨u, w3, rfl, ru, rw3⟩ := rxs.two
      have fz : Fz c.P c.w c.K g.F ((eget es d2).getD x3) ((dget kvs d2).getD d3) := by
        rcases f.get d2 with ⟨e1, e2⟩ | ⟨d, z, e1, e2, h⟩ <;> rw [e1, e2]
        · exact v3
        · exact h
      exact g_get2 (by have := ft.units; omega) I (by rw [ft.P, ft.w]; exact h1) kf ru rw3 fun w' s' I' r' => ⟨_, H, I', r', q.fz R fz⟩
    · cases e
  · cases e

/-! ### the call of a method: what the object is, ahead of the arguments -/
def TyB (X : Cx) (T : String) (x : V) (H : Hp) : Prop := ∀ (pins : List (Addr × Obj)) (s : Shared) (σ : L2.St) (v : Value), Inv X pins σ H s → RelV x v → s.TypeIs v T ∧ ∀ a, v = .ref a → ∃ ob, s.heap.get? a = some ob ∧ ob.dict = none
theorem View.tyList (R : Rel c g Ks ρ ts σ H) {ds : List D} {x : V} (v : View c g H (.list ds) x) : TyB X "list" x H := fun pins s σ' u I r => by
  obtain ⟨a, vs, rfl, h, _⟩ := v.list R
  exact tyV_is I r (.inl ⟨rfl, vs, .inl (.inl h)⟩)
theorem View.tyDict (ft : Fit c X) (R : Rel c g Ks ρ ts σ H) {kvs : List (D × D)} {x : V} (v : View c g H (.dict kvs) x) : TyB X "dict" x H := fun pins s σ' u I r => by
  obtain ⟨a, es, rfl, h, _⟩ := v.dict R
  cases (show u = Value.ref a from r)
  obtain ⟨h1, h2, _⟩ := dc_typeIs (es := es) I (by rw [ft.P, ft.w]; exact h)
  exact ⟨h1, fun b e => by cases e; exact h2⟩
def tM0 (X : Cx) (T : String) (r : V → List V → Hp → VK → Prop) (to : TE) : TE := fun σ H Q => to σ H fun x H1 => TyB X T x H1 ∧ r x [] H1 Q
def tM (X : Cx) (T : String) (r : V → List V → Hp → VK → Prop) (to : TE) (t : TA) : TE := fun σ H Q => to σ H fun x H1 => TyB X T x H1 ∧ t σ H1 fun xs H2 => r x xs H2 Q
/-- no star -/
def nos : Expr → Bool
  | .Starred .. => false
  | _ => true
theorem star_nos {e : Expr} {es : List Expr} {env : Env} (h : nos e = true) : starEach (e :: es) env = (false, eval e env) :: starEach es env := by
  cases e <;> first | rfl | cases h
theorem star_all {es : List Expr} {env : Env} (h : es.all nos = true) : starEach es env = es.map fun e => (false, eval e env) := by
  induction es with
  | nil => rfl
  | cons e es ih =>
    simp only [List.all_cons, Bool.and_eq_true] at h
    rw [star_nos h.1, ih h.2]; rfl
theorem back_all {es : List Expr} {env : Env} {pos : Pos} (h : es.all nos = true) : backTo pos (starEach es env) = es.map fun e => (false, eval e env) := by
  rw [star_all h]
  unfold backTo
  rw [List.map_map]
  rfl
theorem plain_any {es : List Expr} {env : Env} {pos : Pos} (h : es.all nos = true) : (backTo pos (starEach es env)).any (·.1) = false := by
  rw [back_all h]; simp
theorem few_all {es : List Expr} {env : Env} {pos : Pos} (h : es.all nos = true) (hl : es.length < 30) : ((backTo pos (starEach es env)).all (fun x => !x.1) && (backToKw pos (keywordEach [] env)).all (fun x => x.1.isSome)
      && decide (es.length + ([] : List Keyword).length + (if ([] : List Keyword).isEmpty then 0 else 1) < 30)) = true := by
  rw [back_all h]
  have e1 : (es.map fun e => (false, eval e env)).all (fun x => !x.1) = true := by simp
  have e2 : (backToKw pos (keywordEach [] env)).all (fun x => x.1.isSome) = true := rfl
  rw [e1, e2]
  simpa using hl
section
variable {o e : Expr} {es : List Expr} {to : TE} {t : TA} {name : Str} {apos cpos : Pos} {T id : String} {r : V → List V → Hp → VK → Prop}
/-- not super() -/
def noSup : Expr → Bool
  | .Call _ [] _ _ => false
  | _ => true
theorem base_noSup {o : Expr} {name : Str} {env : Env} (h : noSup o = true) : attributeBase o name env (eval o env) = eval o env := by
  unfold attributeBase
  split
  · simp [noSup] at h
  · rfl
theorem pe_m0 (pa : PlainAttrs T) (slot : Slot T name id) (hty : typeOf (.builtin id) = pure (.type "method_descriptor")) (hm : MtR X id r) (ho : PE X o to) (hn : noSup o = true) (hline : (apos.endLine == cpos.line) = true) :
    PE X (.Call (.Attribute o name apos) [] [] cpos) (tM0 X T r to) := by
  refine ⟨fun pins s σ H Q I h => ?_⟩
  refine wpAny_Call_method0_late (base_noSup hn) hline (thn (ho.run pins s σ H _ I h) fun v s1 ⟨x, H1, I1, r1, ty, q1⟩ => ?_)
  obtain ⟨h1, h2⟩ := ty _ _ _ _ I1 r1
  exact ⟨T, id, pa, slot, hty, h1, h2, Calls.callWith_builtin rfl (PySem.evalArgs_none (hm pins s1 σ H1 x [] v [] Q I1 r1 .nil q1))⟩
theorem pe_m (pa : PlainAttrs T) (slot : Slot T name id) (hty : typeOf (.builtin id) = pure (.type "method_descriptor")) (hm : MtR X id r) (ho : PE X o to) (ha : PA X (e :: es) t) (hn : noSup o = true) (hline : (apos.endLine == cpos.line) = true)
    (hs : (e :: es).all nos = true) (hl : (e :: es).length < 30) : PE X (.Call (.Attribute o name apos) (e :: es) [] cpos) (tM X T r to t) := by
  refine ⟨fun pins s σ H Q I h => ?_⟩
  refine wpAny_Call_method_late (base_noSup hn) (few_all hs hl) hline rfl (thn (ho.run pins s σ H _ I h) fun v s1 ⟨x, H1, I1, r1, ty, q1⟩ => ?_)
  obtain ⟨h1, h2⟩ := ty _ _ _ _ I1 r1
  refine ⟨T, id, pa, slot, hty, h1, h2, ?_⟩
  have hA := ha.run cpos pins s1 σ H1 _ I1 q1
  have hs' := hs
  simp only [List.all_cons, Bool.and_eq_true] at hs'
  rw [star_nos hs'.1] at hA ⊢
  refine Calls.callWith_builtin (by show (false || (backTo cpos (starEach es X.env)).any (·.1)) = false; rw [plain_any (by simpa using hs'.2)] <;> rfl) (Calls.evalArgs_plain ?_)
  exact thn hA fun us s2 ⟨vs, H2, I2, r2, q2⟩ => hm pins s2 σ H2 x vs v us Q I2 r1 r2 q2
end

/-! ### methods that change a slot's own list or dict -/
theorem ixD_seq {n : Nat} {i : Int} {k : Nat} (h : Ev.ixD n i = some k) (hb : n < 2 ^ 62) : -(2 ^ 63) ≤ i ∧ i < 2 ^ 63 ∧ seqIndex? i n = some k ∧ k < n := by
  have e : ixN n i = some k := h
  unfold Ev.ixD at h
  refine ⟨?_, ?_, ?_, ?_⟩
  · split at h
    · omega
    · split at h
      · omega
      · cases h
  · split at h
    · split at h
      · omega
      · cases h
    · omega
  · unfold seqIndex?
    split at h
    · rename_i h0
      split at h
      · rename_i h1
        cases h
        have h2 : ¬ i < 0 := by omega
        simp [h2, h0, h1]
      · cases h
    · rename_i h0
      split at h
      · rename_i h1
        cases h
        simp [h0]
        omega
      · cases h
  · split at h
    · split at h
      · cases h; omega
      · cases h
    · split at h
      · cases h; omega
      · cases h
end
end EvS
set_option linter.all false
set_option Elab.async false
set_option maxRecDepth 100000
set_option maxHeartbeats 4000000
/-! EvX: kinds of slots, readings by functions, operands. -/
namespace EvS
open PySem PySem.Spec PyProof.Rows L2 EvK
open Ev (D E S Tgt Ste Src getS wipe restore flatK tupK dget dset dsetAll okK lim isInts isBls itemsD pairsD evE evV evAnd evOr boolR Calls tyD)

/-! ### kinds behind an expression -/
mutual
def kE : E → List Kd → List Kd
  | .var i, K => K.set i .fz
  | .bin _ es, K => kEs es K
  | .neg a, K => kE a K
  | .cmp _ es, K => kEs es K
  | .chain _ _ es z, K => kE z (kEs es K)
  | .and es, K => kEs es K
  | .or es, K => kEs es K
  | .not a, K => kE a K
  | .ite t a b, K => kE b (kE a (kE t K))
  | .tup es, K => kEs es K
  | .lst es, K => kEs es K
  | .idx es, K => kEs es K
  | .slc _ _ es, K => kEs es K
  | .rev es, K => kEs es K
  | .comp own _ it cond elt, K => kE elt (kEs cond (own.foldl (fun K i => K.set i .fz) (kE it K)))
  | .call _ _ es, K => kEs es K
  | .bi _ es, K => kEs es K
  | .popAt _ e, K => kE e K
  | .setd _ es, K => kEs es K
  | .enum es, K => kEs es K
  | .zip es, K => kEs es K
  | .rng1 a, K => kE a K
  | .rng2 es, K => kEs es K
  | .items es, K => kEs es K
  | _, K => K
def kEs : List E → List Kd → List Kd
  | [], K => K
  | e :: es, K => kEs es (kE e K)
end
/-- what comes out: owned, or frozen -/
def kdE (rk : String → Kd) : E → Kd
  | .var _ | .bv _ | .idx _ | .pop _ | .popAt _ _ | .setd _ _ => .fz
  | .bi .get1 _ | .bi .get2 _ => .fz
  | .ite _ a b => if kdE rk a = .own then kdE rk b else .fz
  | .call f _ _ => rk f
  | _ => .own
def isBv : E → Bool
  | .bv _ => true
  | _ => false

/-! ### readings -/
section
variable (c : Ct)
def tF (K K' : List Kd) (kd : Kd) (f : Ev.R D) : TE := fun σ H Q => ∃ g ρ ts d ρ', Rel c g K ρ ts σ H ∧ f ρ = some (d, ρ') ∧ Pst c K' ρ' ts σ kd d Q
def tBF (K K' : List Kd) (f : Ev.R D) : TT := fun σ H Q => ∃ g ρ ts b ρ', Rel c g K ρ ts σ H ∧ f ρ = some (.bool b, ρ') ∧ ∀ g' H', Rel c g' K' ρ' ts σ H' → Q b H'
inductive OpVs (g : Gh) (H : Hp) : List E → List D → List V → Prop
  | nil : OpVs g H [] [] []
  | cons {e : E} {d : D} {v : V} {es : List E} {ds : List D} {vs : List V} : View c g H d v → (isBv e = false → Fz c.P c.w c.K g.F v d) → OpVs g H es ds vs → OpVs g H (e :: es) (d :: ds) (v :: vs)
def tVF (K K' : List Kd) (es : List E) (f : Ev.R (List D)) : TA := fun σ H Q => ∃ g ρ ts ds ρ', Rel c g K ρ ts σ H ∧ f ρ = some (ds, ρ') ∧ ∀ g' vs H', Rel c g' K' ρ' ts σ H' → OpVs c g' H' es ds vs → Q vs H'
/-- values in hand, of these kinds -/
def tmz : List Kd → List D → List V → List Tm
  | k :: ks, d :: ds, v :: vs => (k, d, v) :: tmz ks ds vs
  | _, _, _ => []
def tLF (K K' : List Kd) (kds : List Kd) (f : Ev.R (List D)) : TA := fun σ H Q => ∃ g ρ ts ds ρ', Rel c g K ρ ts σ H ∧ f ρ = some (ds, ρ') ∧ ∀ g' vs H', Rel c g' K' ρ' (ts ++ tmz kds ds vs) σ H' → ds.length = kds.length → vs.length = kds.length → Q vs H'
/-- the reading of an operand -/
def tO (Γ : Calls) (K : List Kd) : E → TE
  | .bv i => tVar i
  | e => tF c K (kE e K) .fz (evE Γ e)
def tNest (Γ : Calls) : List E → List Kd → TA
  | [], _ => tNil
  | e :: es, K => tCons (tO c Γ K e) (tNest Γ es (kE e K))
end
theorem PE.imp {X : Cx} {e : Expr} {t t' : TE} (h : PE X e t) (i : ∀ σ H Q, t' σ H Q → t σ H Q) : PE X e t' := ⟨fun pins s σ H Q I q => h.run pins s σ H Q I (i σ H Q q)⟩
theorem PT.imp {X : Cx} {e : Expr} {t t' : TT} (h : PT X e t) (i : ∀ σ H Q, t' σ H Q → t σ H Q) : PT X e t' := ⟨fun pins s σ H Q I q => h.run pins s σ H Q I (i σ H Q q)⟩
theorem PW.imp {X : Cx} {e : Expr} {t t' : TT} (h : PW X e t) (i : ∀ σ H Q, t' σ H Q → t σ H Q) : PW X e t' := ⟨fun wh pins s σ H Q I q => h.run wh pins s σ H Q I (i σ H Q q)⟩
theorem PA.imp {X : Cx} {e : List Expr} {t t' : TA} (h : PA X e t) (i : ∀ σ H Q, t' σ H Q → t σ H Q) : PA X e t' := ⟨fun ps pins s σ H Q I q => h.run ps pins s σ H Q I (i σ H Q q)⟩
theorem PS.imp {X : Cx} {e : Stmt} {t t' : TS} (h : PS X e t) (i : ∀ D σ H, t' D σ H → t D σ H) : PS X e t' := ⟨fun pins s σ H D I q => h.run pins s σ H D I (i D σ H q)⟩
theorem PSs.imp {X : Cx} {e : List Stmt} {t t' : TS} (h : PSs X e t) (i : ∀ D σ H, t' D σ H → t D σ H) : PSs X e t' := ⟨fun pins s σ H D I q => h.run pins s σ H D I (i D σ H q)⟩

section
variable {c : Ct} {X : Cx} {g : Gh} {Ks K K' : List Kd} {ρ ρ' : Ste} {ts : List Tm} {σ : L2.St} {H : Hp} {Γ : Calls}
theorem Rel.last {k : Kd} {d : D} {v : V} (R : Rel c g Ks ρ (ts ++ [(k, d, v)]) σ H) : Vw c g H (.tm ts.length) k d v := R.tm ts.length (k, d, v) (by rw [List.getElem?_append_right (Nat.le_refl _), Nat.sub_self]; rfl)
/-- frozen, whatever it was -/
theorem Rel.toFz {k : Kd} {d : D} {v : V} (hk : k ≠ .src) (R : Rel c g Ks ρ (ts ++ [(k, d, v)]) σ H) : ∃ g', Rel c g' Ks ρ (ts ++ [(.fz, d, v)]) σ H := ⟨_, R.frzTm hk⟩
theorem Pst.toFz {k : Kd} {d : D} {Q : VK} (hk : k ≠ .src) (q : Pst c Ks ρ ts σ .fz d Q) : Pst c Ks ρ ts σ k d Q := fun g v H R => by
  obtain ⟨g', R'⟩ := R.toFz hk
  exact q g' v H R'
theorem Pst.toOwn {d : D} {Q : VK} (hd : isC d = false) (q : Pst c Ks ρ ts σ .own d Q) : Pst c Ks ρ ts σ .fz d Q := fun g v H R => q g v H (R.drop.pushN R.last hd)
theorem tF.toFz {k : Kd} {f : Ev.R D} (hk : k ≠ .src) {Q : VK} (h : tF c K K' .fz f σ H Q) : tF c K K' k f σ H Q := by
  obtain ⟨g, ρ, ts, d, ρ', R, e, q⟩ := h
  exact ⟨g, ρ, ts, d, ρ', R, e, q.toFz hk⟩
theorem Rel.viewSl (R : Rel c g Ks ρ ts σ H) {i : Nat} {d : D} (hd : getS ρ.sl i = some d) (hk : Ks.getD i .fz ≠ .src) : ∃ v, σ[i]? = some (some v) ∧ View c g H d v := by
  obtain ⟨v, h1, h2⟩ := R.sl i d hd
  exact ⟨v, h1, .sl i, _, hk, h2⟩
theorem isBv_iff {e : E} (h : isBv e = true) : ∃ i, e = .bv i := by
  cases e <;> first | exact ⟨_, rfl⟩ | cases h
theorem tO_ne {e : E} (h : isBv e = false) : tO c Γ K e = tF c K (kE e K) .fz (evE Γ e) := by
  cases e <;> first | rfl | cases h
theorem evV_ne {e : E} {es : List E} (h : isBv e = false) : evV Γ (e :: es) = fun ρ => (evE Γ e ρ).bind fun (d, ρ') => (evV Γ es ρ').map fun (ds, ρ'') => (d :: ds, ρ'') := by
  cases e <;> first | rfl | cases h
theorem evV_bv {i : Nat} {es : List E} : evV Γ (.bv i :: es) = fun ρ => (getS ρ.sl i).bind fun d0 => (evV Γ es ρ).bind fun (ds, ρ') => (getS ρ'.sl i).bind fun d => if tyD d0 = tyD d then some (d :: ds, ρ') else none := rfl
theorem kE_bv {i : Nat} : kE (.bv i) K = K := rfl
/-- names that are borrowed are no source -/
def bvOk : List E → List Kd → Bool
  | [], _ => true
  | e :: es, K => (match e with | .bv i => decide ((kEs es (kE e K)).getD i .fz ≠ .src) && decide (K.getD i .fz ≠ .src) | _ => true) && bvOk es (kE e K)
/-- the operands' nested reading -/
theorem nest_imp : ∀ (es : List E) (K : List Kd) (σ : L2.St) (H : Hp) (Q : List V → Hp → Prop), bvOk es K = true → tVF c K (kEs es K) es (evV Γ es) σ H Q → tNest c Γ es K σ H Q
  | [], K, σ, H, Q, _, h => by
    obtain ⟨g, ρ, ts, ds, ρ', R, e, q⟩ := h
    cases e
    exact q g [] H R .nil
  | e :: es, K, σ, H, Q, hb, h => by
    obtain ⟨g, ρ, ts, ds, ρ', R, ev, q⟩ := h
    unfold bvOk at hb
    rw [Bool.and_eq_true] at hb
    by_cases hv : isBv e = true
    · obtain ⟨i, rfl⟩ := isBv_iff hv
      rw [evV_bv] at ev
      obtain ⟨d0, e0, ev⟩ := Option.bind_eq_some_iff.mp ev
      obtain ⟨⟨ds', ρ1⟩, e1, ev⟩ := Option.bind_eq_some_iff.mp ev
      obtain ⟨d, e2, ev⟩ := Option.bind_eq_some_iff.mp ev
      have ev : (if tyD d0 = tyD d then some (d :: ds', ρ1) else none) = some (ds, ρ') := ev
      split at ev
      · cases ev
        obtain ⟨v, h1, h2⟩ := R.sl i d0 e0
        refine ⟨v, h1, nest_imp es K σ H _ hb.2 ⟨g, ρ, ts, ds', ρ', R, e1, fun g' vs H' R' ov => ?_⟩⟩
        have hk : (kEs es K).getD i .fz ≠ .src := by
          have := hb.1
          simp only [kE_bv, Bool.and_eq_true] at this
          exact of_decide_eq_true this.1
        obtain ⟨v', h3, h4⟩ := R'.viewSl e2 hk
        rw [h1] at h3; cases h3
        exact q g' (v :: vs) H' R' (.cons h4 (fun z => by cases z) ov)
      · cases ev
    · have hv : isBv e = false := by simpa using hv
      rw [evV_ne hv] at ev
      obtain ⟨⟨d, ρ1⟩, e1, ev⟩ := Option.bind_eq_some_iff.mp ev
      obtain ⟨⟨ds', ρ2⟩, e2, e3⟩ := Option.map_eq_some_iff.mp ev
      cases e3
      show tCons (tO c Γ K e) (tNest c Γ es (kE e K)) σ H Q
      unfold tCons
      rw [tO_ne hv]
      refine ⟨g, ρ, ts, d, ρ1, R, e1, fun g1 v H1 R1 => ?_⟩
      refine nest_imp es (kE e K) σ H1 _ hb.2 ⟨g1, ρ1, _, ds', ρ', R1, e2, fun g' vs H' R' ov => ?_⟩
      have f := R'.last
      exact q g' (v :: vs) H' R'.drop (.cons (Fz.view f) (fun _ => f) ov)
/-- the nested reading with a word on each operand as it comes -/
def tNestP (c : Ct) (Γ : Calls) : List E → List (V → Hp → Prop) → List Kd → TA
  | e :: es, p :: ps, K => fun σ H Q => tO c Γ K e σ H fun x H1 => p x H1 ∧ tNestP c Γ es ps (kE e K) σ H1 fun xs H2 => Q (x :: xs) H2
  | _, _, _ => tNil
theorem tO.mono {e : E} {Q Q' : VK} {σ : L2.St} {H : Hp} (h : tO c Γ K e σ H Q) (hq : ∀ x H', Q x H' → Q' x H') : tO c Γ K e σ H Q' := by
  by_cases hv : isBv e = true
  · obtain ⟨i, rfl⟩ := isBv_iff hv
    obtain ⟨v, h1, h2⟩ := h
    exact ⟨v, h1, hq _ _ h2⟩
  · have hv : isBv e = false := by simpa using hv
    rw [tO_ne hv] at h ⊢
    obtain ⟨g, ρ, ts, d, ρ', R, e, q⟩ := h
    exact ⟨g, ρ, ts, d, ρ', R, e, fun g v H R => hq _ _ (q g v H R)⟩
/-- what such a word asks -/
def PrOk (c : Ct) (σ : L2.St) : List D → List (V → Hp → Prop) → Prop
  | d :: ds, p :: ps => (∀ g K ρ ts H v d0, tyD d0 = tyD d → Rel c g K ρ ts σ H → View c g H d0 v → p v H) ∧ PrOk c σ ds ps
  | [], [] => True
  | _, _ => False
theorem nestP_imp : ∀ (es : List E) (ps : List (V → Hp → Prop)) (K : List Kd) (σ : L2.St) (H : Hp) (Q : List V → Hp → Prop), bvOk es K = true →
    (∃ g ρ ts ds ρ', Rel c g K ρ ts σ H ∧ evV Γ es ρ = some (ds, ρ') ∧ PrOk c σ ds ps ∧ ∀ g' vs H', Rel c g' (kEs es K) ρ' ts σ H' → OpVs c g' H' es ds vs → Q vs H') → tNestP c Γ es ps K σ H Q
  | [], ps, K, σ, H, Q, _, h => by
    obtain ⟨g, ρ, ts, ds, ρ', R, e, _, q⟩ := h
    cases e
    cases ps <;> exact q g [] H R .nil
  | e :: es, ps, K, σ, H, Q, hb, h => by
    obtain ⟨g, ρ, ts, ds, ρ', R, ev, pr, q⟩ := h
    unfold bvOk at hb
    rw [Bool.and_eq_true] at hb
    by_cases hv : isBv e = true
    · obtain ⟨i, rfl⟩ := isBv_iff hv
      rw [evV_bv] at ev
      obtain ⟨d0, e0, ev⟩ := Option.bind_eq_some_iff.mp ev
      obtain ⟨⟨ds', ρ1⟩, e1, ev⟩ := Option.bind_eq_some_iff.mp ev
      obtain ⟨d, e2, ev⟩ := Option.bind_eq_some_iff.mp ev
      have ev : (if tyD d0 = tyD d then some (d :: ds', ρ1) else none) = some (ds, ρ') := ev
      split at ev
      · rename_i hty
        cases ev
        cases ps with
        | nil => exact pr.elim
        | cons p ps =>
          have hks := hb.1
          simp only [kE_bv, Bool.and_eq_true] at hks
          obtain ⟨hk, hk0⟩ := hks
          have hk := of_decide_eq_true hk
          have hk0 := of_decide_eq_true hk0
          obtain ⟨v, h1, h2⟩ := R.sl i d0 e0
          refine ⟨v, h1, pr.1 g K ρ ts H v d0 hty R ⟨_, _, hk0, h2⟩, nestP_imp es ps K σ H _ hb.2 ⟨g, ρ, ts, ds', ρ', R, e1, pr.2, fun g' vs H' R' ov => ?_⟩⟩
          obtain ⟨v', h3, h4⟩ := R'.viewSl e2 hk
          rw [h1] at h3; cases h3
          exact q g' (v :: vs) H' R' (.cons h4 (fun z => by cases z) ov)
      · cases ev
    · have hv : isBv e = false := by simpa using hv
      rw [evV_ne hv] at ev
      obtain ⟨⟨d, ρ1⟩, e1, ev⟩ := Option.bind_eq_some_iff.mp ev
      obtain ⟨⟨ds', ρ2⟩, e2, e3⟩ := Option.map_eq_some_iff.mp ev
      cases e3
      cases ps with
      | nil => exact pr.elim
      | cons p ps =>
        show tO c Γ K e σ H _
        rw [tO_ne hv]
        refine ⟨g, ρ, ts, d, ρ1, R, e1, fun g1 v H1 R1 => ⟨pr.1 g1 _ _ _ H1 v d rfl R1 (Fz.view R1.last), ?_⟩⟩
        refine nestP_imp es ps (kE e K) σ H1 _ hb.2 ⟨g1, ρ1, _, ds', ρ', R1, e2, pr.2, fun g' vs H' R' ov => ?_⟩
        have f := R'.last
        exact q g' (v :: vs) H' R'.drop (.cons (Fz.view f) (fun _ => f) ov)
theorem OpVs.views {es : List E} {ds : List D} {vs : List V} (h : OpVs c g H es ds vs) : Views c g H ds vs := by
  induction h with
  | nil => exact .nil
  | cons a _ _ ih => exact .cons a ih
theorem OpVs.fza {es : List E} {ds : List D} {vs : List V} (h : OpVs c g H es ds vs) (hn : es.all (fun e => !isBv e) = true) : FzA c.P c.w c.K g.F vs ds := by
  induction h with
  | nil => exact .nil
  | cons a b _ ih =>
    simp only [List.all_cons, Bool.and_eq_true, Bool.not_eq_true'] at hn
    exact .cons (b hn.1) (ih hn.2)
theorem OpVs.two {es : List E} {d1 d2 : D} {vs : List V} (h : OpVs c g H es [d1, d2] vs) : ∃ x y, vs = [x, y] ∧ View c g H d1 x ∧ View c g H d2 y := h.views.two'
theorem OpVs.one {es : List E} {d1 : D} {vs : List V} (h : OpVs c g H es [d1] vs) : ∃ x, vs = [x] ∧ View c g H d1 x := h.views.one'

/-! ### values that stay in hand -/
/-- kinds of values: frozen, or as they come -/
def kds (rk : String → Kd) (fr : Bool) (es : List E) : List Kd := es.map fun e => if fr then .fz else kdE rk e
def tNestL (c : Ct) (Γ : Calls) (rk : String → Kd) (fr : Bool) : List E → List Kd → TA
  | [], _ => tNil
  | e :: es, K => tCons (tF c K (kE e K) (if fr then .fz else kdE rk e) (evE Γ e)) (tNestL c Γ rk fr es (kE e K))
theorem nestL_imp {rk : String → Kd} {fr : Bool} : ∀ (es : List E) (K : List Kd) (σ : L2.St) (H : Hp) (Q : List V → Hp → Prop), es.all (fun e => !isBv e) = true → tLF c K (kEs es K) (kds rk fr es) (evV Γ es) σ H Q → tNestL c Γ rk fr es K σ H Q
  | [], K, σ, H, Q, _, h => by
    obtain ⟨g, ρ, ts, ds, ρ', R, e, q⟩ := h
    cases e
    exact q g [] H (by rw [show tmz (kds rk fr []) [] [] = [] from rfl, List.append_nil]; exact R) rfl rfl
  | e :: es, K, σ, H, Q, hb, h => by
    obtain ⟨g, ρ, ts, ds, ρ', R, ev, q⟩ := h
    simp only [List.all_cons, Bool.and_eq_true, Bool.not_eq_true'] at hb
    rw [evV_ne hb.1] at ev
    obtain ⟨⟨d, ρ1⟩, e1, ev⟩ := Option.bind_eq_some_iff.mp ev
    obtain ⟨⟨ds', ρ2⟩, e2, e3⟩ := Option.map_eq_some_iff.mp ev
    cases e3
    refine ⟨g, ρ, ts, d, ρ1, R, e1, fun g1 v H1 R1 => ?_⟩
    refine nestL_imp es (kE e K) σ H1 _ hb.2 ⟨g1, ρ1, _, ds', ρ', R1, e2, fun g' vs H' R' h1 h2 => ?_⟩
    refine q g' (v :: vs) H' ?_ (by show (ds'.length + 1) = (kds rk fr (e :: es)).length; rw [h1]; rfl) (by show (vs.length + 1) = (kds rk fr (e :: es)).length; rw [h2]; rfl)
    rw [List.append_assoc] at R'
    exact R'
end
end EvS
set_option linter.all false
set_option Elab.async false
set_option maxRecDepth 100000
set_option maxHeartbeats 4000000
/-! EvR: x[::-1] of lists and tuples. -/
namespace EvS
open PySem PySem.Spec PyProof.Rows L2 EvK
section
variable {prog : Program} {w : World} {A : Around} {E : Value → Shared → Prop} {s : Shared}
theorem sliceApplied_rev {sl : Addr} {vl vu vs : Value} {n : Nat} {Q : Int × Int × Nat → Shared → Prop} (hs : s.heap.IsSliceOf sl vl vu vs) (pl : IsPart vl none) (pu : IsPart vu none) (ps : IsPart vs (some (-1)))
    (h : Q ((n : Int) - 1, -1, n) s) : wpAny (model prog w) A (Builtin.Slice.sliceApplied (.ref sl) (pure (n : Int))) Q E s := by
  obtain ⟨os, hos, hcs, hds⟩ := id hs
  unfold Builtin.Slice.sliceApplied Builtin.Slice.sliceFields
  refine wpAny_bind (wpAny_bind (wpAny_field hos hds (x := vl) rfl (wpAny_bind (wpAny_field hos hds (x := vu) rfl (wpAny_bind (wpAny_field hos hds (x := vs) rfl (wpAny_pure ?_)))))))
  refine wpAny_bind (HT.slicePart_ ps ?_)
  show wpAny _ _ (if ((-1 : Int) == 0) = true then _ else _) _ _ s
  rw [if_neg (by decide)]
  refine wpAny_bind (HT.slicePart_ pl (wpAny_bind (HT.slicePart_ pu (wpAny_bind (wpAny_pure ?_)))))
  show wpAny _ _ (match Builtin.Slice.sliceAdjust none none (-1) (n : Int) with | (lo, hi) => pure (lo, (-1 : Int), Builtin.Slice.slicePlaces lo hi (-1))) _ _ s
  have e1 : Builtin.Slice.sliceAdjust none none (-1) (n : Int) = ((n : Int) - 1, -1) := rfl
  rw [e1]
  have e2 : Builtin.Slice.slicePlaces ((n : Int) - 1) (-1) (-1) = n := by
    unfold Builtin.Slice.slicePlaces
    have h1 : ¬ ((-1 : Int) > 0) := by decide
    rw [if_neg h1]
    split
    · rw [show (-(-1 : Int)) = 1 by decide, Int.ediv_one]; omega
    · omega
  show wpAny _ _ (pure ((n : Int) - 1, (-1 : Int), Builtin.Slice.slicePlaces ((n : Int) - 1) (-1) (-1))) _ _ s
  rw [e2]
  exact wpAny_pure h
theorem pick_rev (its : List Value) : ((List.range its.length).filterMap fun (k : Nat) => its.toArray[(((its.length : Nat) : Int) - 1 + (k : Int) * (-1)).toNat]?).toArray = its.reverse.toArray := by
  congr 1
  have e : ∀ k ∈ List.range its.length, its.toArray[(((its.length : Nat) : Int) - 1 + (k : Int) * (-1)).toNat]? = its.reverse[k]? := fun k hk => by
    have hk := List.mem_range.mp hk
    rw [List.getElem?_toArray, List.getElem?_reverse hk]
    congr 1
    omega
  have cong : ∀ (l : List Nat) (f g : Nat → Option Value), (∀ k ∈ l, f k = g k) → l.filterMap f = l.filterMap g := fun l f g h => by
    induction l with
    | nil => rfl
    | cons x l ih => rw [List.filterMap_cons, List.filterMap_cons, h x List.mem_cons_self, ih fun k hk => h k (List.mem_cons_of_mem _ hk)]
  rw [cong _ _ _ e]
  have := PySem.W.krv_all its.reverse.toArray
  rw [List.size_toArray, List.length_reverse] at this
  simpa using this
theorem getItem_tuple_rev {t sl : Addr} {its : List Value} {vl vu vs : Value} {Q : Value → Shared → Prop} (ht : IsTup s.heap t its.toArray) (hs : s.heap.IsSliceOf sl vl vu vs) (pl : IsPart vl none) (pu : IsPart vu none) (ps : IsPart vs (some (-1)))
    (h : Q (.ref s.heap.objs.size) { s with heap := s.heap.push (tupO its.reverse) }) (hsz : its.length ≤ sizeLine) : wpAny (model prog w) A (getItem (.ref t) (.ref sl)) Q E s := by
  have htake : sizeOk (.seq its.reverse.toArray) := by
    show its.reverse.toArray.size ≤ sizeLine
    rw [List.size_toArray, List.length_reverse]; exact hsz
  obtain ⟨os, hos, hcs, hds⟩ := id hs
  have hTs : s.TypeIs (.ref sl) "slice" := ⟨os, hos, hcs⟩
  unfold getItem
  try with_reducible refine wpAny_holding ?_
  first | refine wpAny_bind (wpAny_pure ?_) | skip
  refine wpAny_bind (wpAny_sequenceKey ht.typeIs (by decide) ?_)
  refine wpAny_bind (wpAny_callSpecial?_slot (name := Str.ofString "__getitem__") ht.typeIs PyProof.Rows.slot_tuple_getitem
    (wpAny_call_entry PyProof.Rows.slot_tuple_getitem ht.typeIs entry_tuple_getitem ?_ (args_tuple_getitem _ _)))
  show wpAny _ _ (Builtin.Tuple.tupleItemsOf (.ref t) >>= _) _ _ s
  refine wpAny_bind (tupleItemsOf_ ht ?_)
  refine wpAny_bind (wpAny_typeOf hTs ?_)
  rw [if_pos (by decide)]
  refine wpAny_bind (sliceApplied_rev (n := its.toArray.size) hs pl pu ps ?_)
  have hno : ¬ ((((its.toArray.size : Nat) : Int) - 1 == 0 && (-1 : Int) == 1 && its.toArray.size == its.toArray.size) = true) := by simp
  show wpAny _ _ (if (((its.toArray.size : Nat) : Int) - 1 == 0 && (-1 : Int) == 1 && its.toArray.size == its.toArray.size) = true then _ else _) _ _ s
  rw [if_neg hno, List.size_toArray, pick_rev]
  first
    | exact wpAny_bind (m := Builtin.Tuple.tupleExact _) (wpAny_newObj_type (wpAny_pure ⟨_, rfl, wpAny_pure h⟩) htake)
    | exact wpAny_bind (m := Builtin.Tuple.tupleExact _) (wpAny_newObj_type (wpAny_bind (wpAny_pure (wpAny_pure ⟨_, rfl, wpAny_pure h⟩))) htake)
    | exact wpAny_bind (wpAny_bind (m := Builtin.Tuple.tupleExact _) (wpAny_newObj_type (wpAny_pure (wpAny_pure ⟨_, rfl, wpAny_pure h⟩)) htake))
    | exact wpAny_bind (wpAny_bind (m := Builtin.Tuple.tupleExact _) (wpAny_newObj_type (wpAny_pure ⟨_, rfl, wpAny_pure h⟩) htake))
end
section
variable {X : Cx}
def rRev (K : PySem.W.Frag) : V → Hp → VK → Prop := fun x H Q => (∃ a xs, x = .ref a ∧ SqL K H a xs ∧ ∀ p, H p = none → Q (.ref p) (upd H p (.lst xs.reverse))) ∨ ∃ a xs, x = .ref a ∧ SqT K H a xs ∧ NewT H xs.reverse Q
theorem pe_rev {e : Expr} {te : TE} {k : Nat} {p1 p2 p3 pos : Pos} (he : PE X e te) : PE X (.Subscript e (.Slice none none (some (.UnaryOp .USub (.Constant (.int 1) k p1) p2)) p3) pos) (tUn (rRev X.K) te) := by
  refine ⟨fun pins s σ H Q I h => ?_⟩
  refine Subscript_ (thn (he.run pins s σ H _ I h) fun v s1 ⟨x, H1, I1, r1, q1⟩ => ?_)
  obtain ⟨a, rfl⟩ : ∃ a, x = .ref a := by rcases q1 with ⟨a, _, e, _⟩ | ⟨a, _, e, _⟩ <;> exact ⟨a, e⟩
  cases r1
  have hst : PO X (some (.UnaryOp .USub (.Constant (.int 1) k p1) p2)) (tPart (tUn (rU fun i => .int (-i)) (tC (.int 1)))) := po_some (pe_un un_neg pe_int)
  refine wpAny_Slice (thn (po_none.run pins s1 σ H1 (fun o H2 => o = none ∧ H2 = H1) I1 ⟨rfl, rfl⟩) fun vl s2 ⟨l, H2, I2, pl, el, e2⟩ => ?_)
  subst el e2
  refine thn (po_none.run pins s2 σ H2 (fun o H3 => o = none ∧ H3 = H2) I2 ⟨rfl, rfl⟩) fun vu s3 ⟨u, H3, I3, pu, eu, e3⟩ => ?_
  subst eu e3
  refine thn (hst.run pins s3 σ H3 (fun o H4 => o = some (-1) ∧ H4 = H3) I3 ⟨1, rfl, -1, rfl, rfl, rfl⟩) fun vs s4 ⟨o, H4, I4, ps, eo, e4⟩ => ?_
  subst eo e4
  have I5 : Inv X pins σ H4 { s4 with heap := s4.heap.push { cls := .type "slice", data := .fields #[vl, vu, vs] } } := I4.kept (t' := s4.toks) fun b ob q => Heap.get?_push_of_some _ q
  show wpAny (model X.prog X.w) X.A (subscriptTail e (.Slice none none (some (.UnaryOp .USub (.Constant (.int 1) k p1) p2)) p3) (.ref a) (.ref s4.heap.objs.size)) (EP X pins σ Q) X.xe { s4 with heap := s4.heap.push { cls := .type "slice", data := .fields #[vl, vu, vs] } }
  rcases q1 with ⟨a', xs, ea, hx, q⟩ | ⟨a', xs, ea, hx, q⟩
  · cases ea
    obtain ⟨its, r, ht, hz⟩ := I5.list hx
    have hlen := r.length
    refine tail_any (ops := [.ref a, .ref s4.heap.objs.size]) ht.isList.typeIs (PySem.slot_list_getitem.lookup) ?_ (by with_unfolding_all rfl)
    refine wpAny_getItem_list_slice ht.isList (Heap.IsSliceOf.new _ vl vu vs) pl pu ps (by decide) ?_ (by rw [List.size_toArray]; omega)
    rw [PySem.W.krv_pick]
    refine ⟨.ref _, _, I5.laid (t' := s4.toks) (o := .lst xs.reverse) (fun b ob q => Heap.get?_push_of_some _ q) (Nat.le_refl _) ?_, rfl, q _ (I5.hok.fresh (Nat.le_refl _))⟩
    exact ⟨by rw [List.length_reverse]; exact hz, _, 0, r.reverse, Heap.get?_push_size _ rfl⟩
  · cases ea
    obtain ⟨its, r, ht, hz⟩ := I5.tuple hx
    have hlen := r.length
    refine tail_any (ops := [.ref a, .ref s4.heap.objs.size]) ht.typeIs (PyProof.Rows.slot_tuple_getitem.lookup) ?_ (by with_unfolding_all rfl)
    exact getItem_tuple_rev ht (Heap.IsSliceOf.new _ vl vu vs) pl pu ps (Inv.outT I5 r.reverse (by rw [List.length_reverse]; exact hz) q) (by omega)
end
end EvS
set_option linter.all false
set_option Elab.async false
set_option maxRecDepth 100000
set_option maxHeartbeats 4000000
/-! EvI: what a loop walks: a list or a tuple, enumerate of either. -/
namespace PySem
open Sem (wp)
open AutoSeq1 (wpAny_loadPart')
theorem meets_enum_tup (l : Addr) (items : Array Value) (n : Nat) (dct : Option Addr) (sl : Array (Option Value)) :
    Meets (Builtin.«enumerate.__new__» ⟨[.type "enumerate", .ref l], []⟩) (fun _ R s => s.heap.get? l = some { cls := .type "tuple", dict := dct, data := .seq items n, slots := sl } ∧
      R (.ok (.ret (.ref (s.heap.push { cls := .type "tuple_iterator", data := .fields #[.ref l, .int 0 0] }).objs.size)))
        { s with heap := (s.heap.push { cls := .type "tuple_iterator", data := .fields #[.ref l, .int 0 0] }).push { cls := .type "enumerate", data := .fields #[.none, .bool false, .ref s.heap.objs.size, rawInt 0, .none, .none] } }) :=
  .of_wp fun prog w A R s h => by
    obtain ⟨hp, g, d, tk, os⟩ := s; obtain ⟨hl, h⟩ := h
    have hsub := sub_enumerate
    have hL : Heap.IsTuple (Shared.heap ⟨hp, g, d, tk, os⟩) l items := ⟨_, hl, rfl, n, rfl⟩
    wp_walk using wpAny_loadPart' hl
    refine wpAny_stack_any fun st => wpAny_pure ?_
    split
    · rename_i c _ _ _ _ _
      cases (c == Value.type "enumerate")
      · wp_walk using wpAny_loadPart' hl, wpAny_pyIter_tuple hL
        exact ⟨_, rfl, h⟩
      · wp_walk using wpAny_loadPart' hl, wpAny_pyIter_tuple hL
        exact ⟨_, rfl, h⟩
    · wp_walk using wpAny_loadPart' hl, wpAny_pyIter_tuple hL
      exact ⟨_, rfl, h⟩
section
variable {prog : Program} {w : World} {A : Around} {E : Value → Shared → Prop} {s : Shared}
theorem call_enum_tup {l : Addr} {items : Array Value} {Q : Value → Shared → Prop} (hL : s.heap.IsTuple l items)
    (h : ∀ h', IsEnum h' (s.heap.objs.size + 1) s.heap.objs.size 0 .none → h'.IsTupleIter s.heap.objs.size l 0 →
      (∀ b o, s.heap.get? b = some o → h'.get? b = some o) → Q (.ref (s.heap.objs.size + 1)) { s with heap := h' }) :
    wpAny (model prog w) A (call (.type "enumerate") [.ref l]) Q E s := by
  obtain ⟨⟨c, dct, dt, sl⟩, hl, hc, n, hd⟩ := hL
  replace hc : c = .type "tuple" := hc
  replace hd : dt = .seq items n := hd
  subst hc hd
  refine callType_new F.called_enumerate (by decide) (F.typeCall_enumerate_1 _) (F.newCall_enumerate_1 _) (fun obj => F.args_object_init_2 obj _) F.entry_enumerate_new
    (meets_enum_tup l items n dct sl) ⟨hl, ?_⟩
  have hz : (s.heap.push { cls := .type "tuple_iterator", data := .fields #[.ref l, .int 0 0] }).objs.size = s.heap.objs.size + 1 := Heap.size_push ..
  show _ ∧ _
  rw [hz]
  have he : IsEnum ((s.heap.push { cls := .type "tuple_iterator", data := .fields #[.ref l, .int 0 0] }).push
      { cls := .type "enumerate", data := .fields #[.none, .bool false, .ref s.heap.objs.size, rawInt 0, .none, .none] }) (s.heap.objs.size + 1) s.heap.objs.size 0 .none := by
    have := Heap.get?_push_size (s.heap.push { cls := .type "tuple_iterator", data := .fields #[.ref l, .int 0 0] })
      (o := { cls := .type "enumerate", data := .fields #[.none, .bool false, .ref s.heap.objs.size, rawInt 0, .none, .none] }) rfl
    rw [hz] at this; exact this
  exact ⟨⟨_, he, rfl⟩, h _ he ⟨_, Heap.get?_push_of_some _ (Heap.get?_push_size _ rfl), rfl, rfl⟩ fun b o x => Heap.get?_push_of_some _ (Heap.get?_push_of_some _ x)⟩
end
end PySem
namespace EvS
open PySem PySem.Spec PyProof.Rows L2 EvK
/-- the tuple at a, each item in a new pair -/
def IteT (K : PySem.W.Frag) (a : Addr) : It :=
  ⟨fun i H => ∃ (xs : List V) (x : V), SqT K H a xs ∧ xs[i]? = some x, fun i H v H' => ∃ T x, v = .ref T ∧ H T = none ∧ H' = upd H T (.tup [.int (i : Nat), x]) ∧ ∀ xs, SqT K H a xs → xs[i]? = some x, fun i H => ∃ xs : List V, SqT K H a xs ∧ xs.length = i⟩
theorem turn_enumT {P : Program} {w : World} {K : PySem.W.Frag} {elts : List Expr} {kk : Nat} {tpos : Pos} (a e it : Addr) :
    Turn P w K (.Tuple elts kk tpos) (IteT K a) [e, it] e (fun i h => (∃ old, IsEnum h e it ((i : Nat) : Int) old) ∧ h.IsTupleIter it a i ∧ e ≠ it) where
  mem := by simp
  obj := fun i h st b hb => by
    obtain ⟨⟨old, he⟩, ⟨o, ho, hc, hd⟩, _⟩ := st
    have e' : b = e ∨ b = it := by simpa using hb
    rcases e' with z | z
    · rw [z]; exact ⟨_, he, fun v q => nomatch q⟩
    · rw [z]; exact ⟨o, ho, fun v q => by rw [hd] at q; cases q⟩
  keep := fun i h h' st k => let ⟨⟨old, he⟩, hi, hne⟩ := st; ⟨⟨old, k e (by simp) _ he⟩, hi.at fun o q => k it (by simp) o q, hne⟩
  item := by
    intro X hP hw hK hc i pins s σ H E I hf st hg
    subst hP hw hK
    obtain ⟨⟨old, he⟩, hit, hne⟩ := st
    obtain ⟨xs, x, hq, hx⟩ := hg
    obtain ⟨its, rv, p, hz⟩ := I.tuple hq
    obtain ⟨u, hu, ru⟩ := rv.get hx
    have hel : e < s.heap.objs.size := Heap.lt_size he
    have hil : it < s.heap.objs.size := by obtain ⟨_, q, _⟩ := hit; exact Heap.lt_size q
    have hap : a ≠ it := fun z => by
      obtain ⟨o1, q1, c1, _⟩ := hit
      obtain ⟨o2, q2, c2, _⟩ := id p
      rw [z, q1] at q2; cases q2
      rw [c1] at c2; exact absurd (Value.type.inj c2) (by decide)
    have hae : a ≠ e := fun z => by
      obtain ⟨o2, q2, c2, _⟩ := id p
      rw [z] at q2
      have := he.symm.trans q2
      cases this
      exact absurd (Value.type.inj c2) (by decide)
    have hu2 : its.toArray[i]? = some u := by simpa using hu
    have hlt : i < its.toArray.size := (Array.getElem?_eq_some_iff.mp hu2).1
    refine wpAny_pyNext_enum_itemD (Draws.tuple (A := X.A.in1) (by exact I.ok.hd hc) it a hap its.toArray) he ⟨hit, p⟩ hlt hne (by simp only [List.mem_cons, List.not_mem_nil, or_false, not_or]; exact ⟨hne, fun z => hae z.symm⟩) fun x' h' tk hPx ho hst' hT hsz hk => ?_
    have ex : x' = u := by rw [hu2] at hPx; exact (Option.some.inj hPx).symm
    subst ex
    refine ⟨_, rfl, wpAny_letOwnedTupleGo_enum (s := { s with heap := h', toks := tk + 1 }) ho fun h'' he' sb => ?_⟩
    have hT2 : h''.get? s.heap.objs.size = some { cls := .type "tuple", data := .seq #[.int i tk, x'] } := (sb.2 _ (Nat.ne_of_gt hel)).trans hT
    have new : ObjOk X.prog X.w (upd H s.heap.objs.size (.tup [.int (i : Nat), x])) h'' s.heap.objs.size (.tup [.int (i : Nat), x]) :=
      ⟨by show 2 ≤ sizeLine; decide, [.int i tk, x'], .cons ⟨_, rfl⟩ (.cons ru .nil), ⟨_, hT2, rfl, _, rfl⟩⟩
    have I1 : Inv X pins σ (upd H s.heap.objs.size (.tup [.int (i : Nat), x])) { s with heap := h'', toks := tk + 1 } :=
      I.turnedNew (ch := [e, it]) (fun b ob hb q => (sb.2 b (fun z => hb (by simp [z]))).trans (hk b ob (fun z => hb (by simp [z])) (fun z => hb (by simp [z])) q)) hf (Nat.le_refl _) new
    refine ⟨.ref s.heap.objs.size, _, I1, rfl, ⟨_, x, rfl, I.hok.fresh (Nat.le_refl _), rfl, fun ys hy => by rw [I.tuple_inj hy hq]; exact hx⟩, ⟨⟨x', ?_⟩, hst'.1.at fun o q => (sb.2 it (Ne.symm hne)).trans q, hne⟩, fun b hb => ?_⟩
    · have e1 : ((i + 1 : Nat) : Int) = (i : Int) + 1 := by omega
      rw [e1]; exact he'
    · have hb' : b < s.heap.objs.size := by
        have e' : b = e ∨ b = it := by simpa using hb
        rcases e' with z | z
        · rw [z]; exact hel
        · rw [z]; exact hil
      rw [upd_ne (Nat.ne_of_lt hb')]
      exact (hf b hb).1
  done := by
    intro X hP hw hK hc i pins s σ H E I hf st hg
    subst hP hw hK
    obtain ⟨⟨old, he⟩, hit, hne⟩ := st
    obtain ⟨xs, hq, hx⟩ := hg
    obtain ⟨its, rv, p, hz⟩ := I.tuple hq
    obtain ⟨f0, f1, f2, f3, f4, f5⟩ := hf it (by simp)
    have hap : a ≠ it := fun z => by
      obtain ⟨o1, q1, c1, _⟩ := hit
      obtain ⟨o2, q2, c2, _⟩ := id p
      rw [z, q1] at q2; cases q2
      rw [c1] at c2; exact absurd (Value.type.inj c2) (by decide)
    have hl := rv.length
    have ei : i = its.toArray.size := by rw [List.size_toArray]; omega
    subst ei
    exact wpAny_pyNext_enum_endD (Draws.tuple (A := X.A.in1) (by exact I.ok.hd hc) it a hap its.toArray) he ⟨hit, p⟩ fun h' eb => ⟨rfl, I.turned (t' := s.toks) (fun b o hb q => eb b o hb q) f0 f1 f3 f4 f5⟩
  self := fun A i s Q E st h => let ⟨⟨_, he⟩, _⟩ := st; wpAny_pyIter_enum he h
section
variable {X : Cx} {tg : Expr}
/-- a list or a tuple -/
def iSeq (K : PySem.W.Frag) (tl : TE) : TI := fun σ H R => tl σ H fun x H1 => ∃ a xs, x = .ref a ∧ ((SqL K H1 a xs ∧ R (Itl K a) H1) ∨ (SqT K H1 a xs ∧ R (Itt K a) H1))
theorem pi_seq {l : Expr} {tl : TE} (hl : PE X l tl) : PI X tg l (iSeq X.K tl) := by
  refine ⟨fun pins s σ H R I h => ?_⟩
  refine thn (hl.run pins s σ H _ I h) fun v s1 ⟨x, H1, I1, r1, a, xs, ex, q1⟩ => ?_
  subst ex
  cases r1
  have fp : ∀ b ∈ [s1.heap.objs.size], FpOk X pins H1 b := fun b hb => by
    have e : b = s1.heap.objs.size := by simpa using hb
    subst e
    exact I1.fpOk (Nat.le_refl _) (I1.hok.fresh (Nat.le_refl _))
  rcases q1 with ⟨hq, q⟩ | ⟨hq, q⟩
  · obtain ⟨its, rv, p, hz⟩ := I1.list hq
    exact wpAny_pyIter_list p.isList ⟨s1.heap.objs.size, [s1.heap.objs.size], _, _, H1, rfl, I1.kept (t' := s1.toks) fun b o e => Heap.get?_push_of_some _ e, turn_list a _, ⟨_, Heap.get?_push_size _ rfl, rfl, rfl⟩, fp, q⟩
  · obtain ⟨its, rv, p, hz⟩ := I1.tuple hq
    exact wpAny_pyIter_tuple (show s1.heap.IsTuple a its.toArray from p) ⟨s1.heap.objs.size, [s1.heap.objs.size], _, _, H1, rfl, I1.kept (t' := s1.toks) fun b o e => Heap.get?_push_of_some _ e, turn_tuple a _, ⟨_, Heap.get?_push_size _ rfl, rfl, rfl⟩, fp, q⟩
def iEnumA (K : PySem.W.Frag) (ta : TA) : TI := fun σ H R => ta σ H fun vs H1 => ∃ a xs, vs = [.ref a] ∧ ((SqL K H1 a xs ∧ R (Ite K a) H1) ∨ (SqT K H1 a xs ∧ R (IteT K a) H1))
theorem pi_enumA {e : Expr} {ta : TA} {p pos tpos : Pos} {elts : List Expr} {kk : Nat} (hg : Gl X "enumerate") (hm : X.mg "enumerate" = none) (ha : PA X [e] ta) (hs : starEach [e] X.env = [(false, eval e X.env)]) :
    PI X (.Tuple elts kk tpos) (.Call (.Name "enumerate" p) [e] [] pos) (iEnumA X.K ta) := by
  refine ⟨fun pins s σ H R I h => ?_⟩
  refine Call_ (ld_blt I hg hm boot_enumerate (PyProof.Rows.callWith_type1 (thn (ha.run pos pins s σ H _ I h) fun us s1 ⟨vs, H1, I1, r1, q1⟩ => ?_) hs rfl))
  obtain ⟨a, xs, ex, q1⟩ := q1
  subst ex
  obtain ⟨u, rfl, r⟩ := r1.one
  cases r
  have fp : ∀ b ∈ [s1.heap.objs.size + 1, s1.heap.objs.size], FpOk X pins H1 b := fun b hb => by
    have e' : b = s1.heap.objs.size + 1 ∨ b = s1.heap.objs.size := by simpa using hb
    have hle : s1.heap.objs.size ≤ b := by
      rcases e' with z | z
      · rw [z]; exact Nat.le_add_right _ _
      · rw [z]; exact Nat.le_refl _
    exact I1.fpOk hle (I1.hok.fresh hle)
  rcases q1 with ⟨hq, q⟩ | ⟨hq, q⟩
  · obtain ⟨its, rv, p', hz⟩ := I1.list hq
    refine call_enumerate_list p'.isList fun h' he hit hsz hk => wpAny_pyIter_enum he ?_
    have I2 : Inv X pins σ H1 { s1 with heap := h' } := I1.kept (t' := s1.toks) hk
    exact ⟨s1.heap.objs.size + 1, [s1.heap.objs.size + 1, s1.heap.objs.size], _, _, H1, rfl, I2, turn_enum a (s1.heap.objs.size + 1) s1.heap.objs.size, ⟨⟨.none, he⟩, hit, Nat.succ_ne_self _⟩, fp, q⟩
  · obtain ⟨its, rv, p', hz⟩ := I1.tuple hq
    refine call_enum_tup (show s1.heap.IsTuple a its.toArray from p') fun h' he hit hk => wpAny_pyIter_enum he ?_
    have I2 : Inv X pins σ H1 { s1 with heap := h' } := I1.kept (t' := s1.toks) hk
    exact ⟨s1.heap.objs.size + 1, [s1.heap.objs.size + 1, s1.heap.objs.size], _, _, H1, rfl, I2, turn_enumT a (s1.heap.objs.size + 1) s1.heap.objs.size, ⟨⟨.none, he⟩, hit, Nat.succ_ne_self _⟩, fp, q⟩
end
end EvS
set_option linter.all false
set_option maxRecDepth 100000
/-! EvP: expressions that change no slot. -/
namespace Ev
open PySem
mutual
def tnm : Tgt → List Nat
  | .nm i => [i]
  | .tup ts => tnms ts
def tnms : List Tgt → List Nat
  | [] => []
  | t :: ts => tnm t ++ tnms ts
end
mutual
def pureE : E → Bool
  | .pop _ | .popAt _ _ | .setd _ _ => false
  | .bin _ es => pureEs es
  | .neg a => pureE a
  | .cmp _ es => pureEs es
  | .chain _ _ es z => pureEs es && pureE z
  | .and es => pureEs es
  | .or es => pureEs es
  | .not a => pureE a
  | .ite t a b => pureE t && pureE a && pureE b
  | .tup es => pureEs es
  | .lst es => pureEs es
  | .idx es => pureEs es
  | .slc _ _ es => pureEs es
  | .rev es => pureEs es
  | .comp own t it cond elt => pureE it && pureEs cond && pureE elt && (tnm t).all own.contains
  | .call _ _ es => pureEs es
  | .bi _ es => pureEs es
  | .enum es => pureEs es
  | .zip es => pureEs es
  | .rng1 a => pureE a
  | .rng2 es => pureEs es
  | .items es => pureEs es
  | _ => true
def pureEs : List E → Bool
  | [] => true
  | e :: es => pureE e && pureEs es
end
theorem wipe_len (sl : Slots) : ∀ vs : List Nat, (wipe sl vs).length = sl.length
  | [] => rfl
  | v :: vs => by unfold wipe; rw [List.length_set, wipe_len sl vs]
theorem wipe_at (sl : Slots) (i : Nat) : ∀ vs : List Nat, (wipe sl vs)[i]? = if i ∈ vs ∧ i < sl.length then some none else sl[i]?
  | [] => by simp [wipe]
  | v :: vs => by
    unfold wipe
    rw [List.getElem?_set, wipe_len]
    by_cases h : v = i
    · subst h
      by_cases hl : v < sl.length
      · simp [hl]
      · simp [hl]
    · rw [if_neg h, wipe_at sl i vs]
      simp [Ne.symm h]
mutual
theorem asgT_at {i : Nat} : ∀ (t : Tgt) (d : D) (sl sl' : Slots), asgT t d sl = some sl' → i ∉ tnm t → sl'[i]? = sl[i]?
  | .nm j, d, sl, sl', e, h => by
    cases e
    rw [List.getElem?_set_ne]
    intro z; exact h (by simp [tnm, z])
  | .tup ts, d, sl, sl', e, h => by
    cases d <;> simp only [asgT] at e <;> try cases e
    exact asgTs_at ts _ sl sl' e (by simpa [tnm] using h)
theorem asgTs_at {i : Nat} : ∀ (ts : List Tgt) (ds : List D) (sl sl' : Slots), asgTs ts ds sl = some sl' → i ∉ tnms ts → sl'[i]? = sl[i]?
  | [], [], sl, sl', e, _ => by cases e; rfl
  | [], _ :: _, _, _, e, _ => by cases e
  | _ :: _, [], _, _, e, _ => by cases e
  | t :: ts, d :: ds, sl, sl', e, h => by
    simp only [asgTs] at e
    obtain ⟨sl1, e1, e2⟩ := Option.bind_eq_some_iff.mp e
    simp only [tnms, List.mem_append, not_or] at h
    rw [asgTs_at ts ds sl1 sl' e2 h.2, asgT_at t d sl sl1 e1 h.1]
end
mutual
theorem asgT_len : ∀ (t : Tgt) (d : D) (sl sl' : Slots), asgT t d sl = some sl' → sl'.length = sl.length
  | .nm j, d, sl, sl', e => by cases e; simp
  | .tup ts, d, sl, sl', e => by
    cases d <;> simp only [asgT] at e <;> try cases e
    exact asgTs_len ts _ sl sl' e
theorem asgTs_len : ∀ (ts : List Tgt) (ds : List D) (sl sl' : Slots), asgTs ts ds sl = some sl' → sl'.length = sl.length
  | [], [], sl, sl', e => by cases e; rfl
  | [], _ :: _, _, _, e => by cases e
  | _ :: _, [], _, _, e => by cases e
  | t :: ts, d :: ds, sl, sl', e => by
    simp only [asgTs] at e
    obtain ⟨sl1, e1, e2⟩ := Option.bind_eq_some_iff.mp e
    rw [asgTs_len ts ds sl1 sl' e2, asgT_len t d sl sl1 e1]
end
theorem wipe_eq {sl sl' : Slots} {own : List Nat} (hl : sl'.length = sl.length) (h : ∀ i, i ∉ own → sl'[i]? = sl[i]?) : wipe sl' own = wipe sl own := by
  apply List.ext_getElem?
  intro i
  rw [wipe_at, wipe_at, hl]
  by_cases hi : i ∈ own
  · by_cases hl' : i < sl.length
    · rw [if_pos ⟨hi, hl'⟩, if_pos ⟨hi, hl'⟩]
    · rw [if_neg fun z => hl' z.2, if_neg fun z => hl' z.2, List.getElem?_eq_none (by omega), List.getElem?_eq_none (by omega)]
  · rw [if_neg fun z => hi z.1, if_neg fun z => hi z.1, h i hi]
theorem wipe_wipe (sl : Slots) (own : List Nat) : wipe (wipe sl own) own = wipe sl own := wipe_eq (wipe_len sl own) fun i hi => by rw [wipe_at, if_neg fun z => hi z.1]
theorem wipe_asg {t : Tgt} {d : D} {sl sl' : Slots} {own : List Nat} (e : asgT t d sl = some sl') (h : (tnm t).all own.contains = true) : wipe sl' own = wipe sl own :=
  wipe_eq (asgT_len t d sl sl' e) fun i hi => asgT_at t d sl sl' e fun z => hi (by simpa using List.all_eq_true.mp h i z)
theorem restore_len (orig cur : Slots) : ∀ vs : List Nat, (restore orig cur vs).length = cur.length
  | [] => rfl
  | v :: vs => by unfold restore; rw [List.length_set, restore_len orig cur vs]
theorem restore_at (orig cur : Slots) (hl : cur.length = orig.length) (i : Nat) : ∀ vs : List Nat, (restore orig cur vs)[i]? = if i ∈ vs then orig[i]? else cur[i]?
  | [] => by simp [restore]
  | v :: vs => by
    unfold restore
    rw [List.getElem?_set, restore_len]
    by_cases h : v = i
    · subst h
      by_cases hl' : v < cur.length
      · have hlo : v < orig.length := by omega
        simp only [hl', if_true, List.mem_cons, true_or, getS]
        rw [List.getElem?_eq_getElem hlo]
        rfl
      · simp only [hl', if_false, List.mem_cons, true_or, if_true]
        rw [List.getElem?_eq_none (by omega)]
    · rw [if_neg h, restore_at orig cur hl i vs]
      simp [Ne.symm h]
theorem restore_wipe (sl : Slots) (own : List Nat) : restore sl (wipe sl own) own = sl := by
  apply List.ext_getElem?
  intro i
  rw [restore_at _ _ (wipe_len sl own), wipe_at]
  by_cases hi : i ∈ own
  · rw [if_pos hi]
  · rw [if_neg hi, if_neg fun z => hi z.1]
theorem boolR_some {r : Option (D × Ste)} {b : Bool} {ρ : Ste} (h : boolR r = some (b, ρ)) : r = some (.bool b, ρ) := by
  unfold boolR at h
  split at h
  · cases h; rfl
  · cases h
theorem compL_sl {own : List Nat} {t : Tgt} {c f : R D} (ht : (tnm t).all own.contains = true) (hc : ∀ ρ d ρ', c ρ = some (d, ρ') → ρ'.sl = ρ.sl) (hf : ∀ ρ d ρ', f ρ = some (d, ρ') → ρ'.sl = ρ.sl) :
    ∀ (xs : List D) (ρ : Ste) (ds : List D) (ρ' : Ste), wipe ρ.sl own = ρ.sl → compL own t c f xs ρ = some (ds, ρ') → ρ'.sl = ρ.sl
  | [], ρ, ds, ρ', _, e => by cases e; rfl
  | x :: xs, ρ, ds, ρ', hw, e => by
    unfold compL at e
    split at e
    · cases e
    · rename_i sl h1
      have w1 : wipe sl own = ρ.sl := (wipe_asg h1 ht).trans hw
      split at e
      · cases e
      · rename_i ρ1 h2
        have s1 : ρ1.sl = sl := hc _ _ _ (boolR_some h2)
        have ih := compL_sl ht hc hf xs _ _ _ (by show wipe (wipe ρ1.sl own) own = wipe ρ1.sl own; exact wipe_wipe _ _) e
        rw [ih]; show wipe ρ1.sl own = ρ.sl; rw [s1]; exact w1
      · rename_i ρ1 h2
        have s1 : ρ1.sl = sl := hc _ _ _ (boolR_some h2)
        split at e
        · cases e
        · rename_i d ρ2 h3
          have s2 : ρ2.sl = ρ1.sl := hf _ _ _ h3
          split at e
          · cases e
          · rename_i ds' ρ3 h4
            split at e
            · cases e
              have ih := compL_sl ht hc hf xs _ _ _ (by show wipe (wipe ρ2.sl own) own = wipe ρ2.sl own; exact wipe_wipe _ _) h4
              rw [ih]; show wipe ρ2.sl own = ρ.sl; rw [s2, s1]; exact w1
            · cases e
theorem mapR {α β : Type} {o : Option α} {ρ ρ1 ρ' : Ste} {f : α → β} {b : β} (h : (o.map fun x => (f x, ρ1)) = some (b, ρ')) : ρ' = ρ1 := by
  cases o with
  | none => cases h
  | some x => cases h; rfl
mutual
theorem pure_sl (Γ : Calls) : ∀ (e : E) (ρ : Ste) (d : D) (ρ' : Ste), pureE e = true → evE Γ e ρ = some (d, ρ') → ρ'.sl = ρ.sl
  | .var i, ρ, d, ρ', _, h => by
    obtain ⟨x, _, e⟩ := Option.map_eq_some_iff.mp h; cases e; rfl
  | .bv i, ρ, d, ρ', _, h => by
    obtain ⟨x, _, e⟩ := Option.map_eq_some_iff.mp h; cases e; rfl
  | .int i, ρ, d, ρ', _, h => by cases h; rfl
  | .bl i, ρ, d, ρ', _, h => by cases h; rfl
  | .non, ρ, d, ρ', _, h => by cases h; rfl
  | .str i, ρ, d, ρ', _, h => by cases h; rfl
  | .dic, ρ, d, ρ', _, h => by cases h; rfl
  | .bin o es, ρ, d, ρ', p, h => by
    obtain ⟨⟨ds, ρ1⟩, h1, h2⟩ := Option.bind_eq_some_iff.mp h
    have := pure_slV Γ es ρ ds ρ1 (by simpa only [pureE] using p) h1
    dsimp only at h2
    split at h2
    · obtain ⟨x, _, e⟩ := Option.map_eq_some_iff.mp h2; cases e; exact this
    · cases h2
  | .neg a, ρ, d, ρ', p, h => by
    obtain ⟨⟨d1, ρ1⟩, h1, h2⟩ := Option.bind_eq_some_iff.mp h
    have := pure_sl Γ a ρ d1 ρ1 (by simpa only [pureE] using p) h1
    dsimp only at h2
    split at h2
    · cases h2; exact this
    · cases h2
  | .cmp o es, ρ, d, ρ', p, h => by
    obtain ⟨⟨ds, ρ1⟩, h1, h2⟩ := Option.bind_eq_some_iff.mp h
    have := pure_slV Γ es ρ ds ρ1 (by simpa only [pureE] using p) h1
    dsimp only at h2
    split at h2
    · obtain ⟨x, _, e⟩ := Option.map_eq_some_iff.mp h2; cases e; exact this
    · cases h2
  | .chain o o' es z, ρ, d, ρ', p, h => by
    simp only [pureE, Bool.and_eq_true] at p
    obtain ⟨⟨ds, ρ1⟩, h1, h2⟩ := Option.bind_eq_some_iff.mp h
    have i1 := pure_slV Γ es ρ ds ρ1 p.1 h1
    dsimp only at h2
    split at h2
    · split at h2
      · obtain ⟨⟨w, ρ2⟩, h3, h4⟩ := Option.bind_eq_some_iff.mp h2
        have i2 := pure_sl Γ z ρ1 w ρ2 p.2 h3
        obtain ⟨x, _, e⟩ := Option.map_eq_some_iff.mp h4; cases e; exact i2.trans i1
      · cases h2; exact i1
      · cases h2
    · cases h2
  | .and es, ρ, d, ρ', p, h => pure_slA Γ es ρ d ρ' (by simpa only [pureE] using p) h
  | .or es, ρ, d, ρ', p, h => pure_slO Γ es ρ d ρ' (by simpa only [pureE] using p) h
  | .not a, ρ, d, ρ', p, h => by
    obtain ⟨⟨b, ρ1⟩, h1, h2⟩ := Option.map_eq_some_iff.mp h
    cases h2
    exact pure_sl Γ a ρ _ _ (by simpa only [pureE] using p) (boolR_some h1)
  | .ite t a b, ρ, d, ρ', p, h => by
    simp only [pureE, Bool.and_eq_true] at p
    obtain ⟨⟨c, ρ1⟩, h1, h2⟩ := Option.bind_eq_some_iff.mp h
    have i1 := pure_sl Γ t ρ _ ρ1 p.1.1 (boolR_some h1)
    dsimp only at h2
    split at h2
    · exact (pure_sl Γ a ρ1 d ρ' p.1.2 h2).trans i1
    · exact (pure_sl Γ b ρ1 d ρ' p.2 h2).trans i1
  | .tup es, ρ, d, ρ', p, h => by
    obtain ⟨⟨ds, ρ1⟩, h1, h2⟩ := Option.bind_eq_some_iff.mp h
    cases h2
    exact pure_slV Γ es ρ ds _ (by simpa only [pureE] using p) h1
  | .lst es, ρ, d, ρ', p, h => by
    obtain ⟨⟨ds, ρ1⟩, h1, h2⟩ := Option.bind_eq_some_iff.mp h
    cases h2
    exact pure_slV Γ es ρ ds _ (by simpa only [pureE] using p) h1
  | .idx es, ρ, d, ρ', p, h => by
    obtain ⟨⟨ds, ρ1⟩, h1, h2⟩ := Option.bind_eq_some_iff.mp h
    have := pure_slV Γ es ρ ds ρ1 (by simpa only [pureE] using p) h1
    dsimp only at h2
    split at h2
    · obtain ⟨x, _, e⟩ := Option.map_eq_some_iff.mp h2; cases e; exact this
    · cases h2
  | .slc lo hi es, ρ, d, ρ', p, h => by
    obtain ⟨⟨ds, ρ1⟩, h1, h2⟩ := Option.bind_eq_some_iff.mp h
    have := pure_slV Γ es ρ ds ρ1 (by simpa only [pureE] using p) h1
    obtain ⟨x, _, e⟩ := Option.map_eq_some_iff.mp h2; cases e; exact this
  | .rev es, ρ, d, ρ', p, h => by
    obtain ⟨⟨ds, ρ1⟩, h1, h2⟩ := Option.bind_eq_some_iff.mp h
    have := pure_slV Γ es ρ ds ρ1 (by simpa only [pureE] using p) h1
    dsimp only at h2
    split at h2
    · obtain ⟨x, _, e⟩ := Option.map_eq_some_iff.mp h2; cases e; exact this
    · cases h2
  | .comp own t it cond elt, ρ, d, ρ', p, h => by
    simp only [pureE, Bool.and_eq_true] at p
    obtain ⟨⟨d1, ρ1⟩, h1, h2⟩ := Option.bind_eq_some_iff.mp h
    have i1 := pure_sl Γ it ρ d1 ρ1 p.1.1.1 h1
    obtain ⟨xs, h3, h4⟩ := Option.bind_eq_some_iff.mp h2
    obtain ⟨⟨ds, ρ2⟩, h5, h6⟩ := Option.map_eq_some_iff.mp h4
    cases h6
    have i2 := compL_sl p.2 (fun ρ d ρ' => pure_slA Γ cond ρ d ρ' p.1.1.2) (fun ρ d ρ' => pure_sl Γ elt ρ d ρ' p.1.2) xs _ _ _ (by show wipe (wipe ρ1.sl own) own = _; exact wipe_wipe _ _) h5
    have i2 : ρ2.sl = wipe ρ1.sl own := i2
    show restore ρ1.sl ρ2.sl own = ρ.sl
    rw [i2, restore_wipe]; exact i1
  | .call f none es, ρ, d, ρ', p, h => by
    obtain ⟨⟨ds, ρ1⟩, h1, h2⟩ := Option.bind_eq_some_iff.mp h
    have := pure_slV Γ es ρ ds ρ1 (by simpa only [pureE] using p) h1
    obtain ⟨⟨x, s⟩, _, e⟩ := Option.map_eq_some_iff.mp h2; cases e; exact this
  | .call f (some i) es, ρ, d, ρ', p, h => by
    obtain ⟨d0, _, h⟩ := Option.bind_eq_some_iff.mp h
    obtain ⟨⟨ds, ρ1⟩, h1, h2⟩ := Option.bind_eq_some_iff.mp h
    have := pure_slV Γ es ρ ds ρ1 (by simpa only [pureE] using p) h1
    obtain ⟨⟨x, s⟩, _, e⟩ := Option.map_eq_some_iff.mp h2; cases e; exact this
  | .bi f es, ρ, d, ρ', p, h => by
    obtain ⟨⟨ds, ρ1⟩, h1, h2⟩ := Option.bind_eq_some_iff.mp h
    have := pure_slV Γ es ρ ds ρ1 (by simpa only [pureE] using p) h1
    obtain ⟨x, _, e⟩ := Option.map_eq_some_iff.mp h2; cases e; exact this
  | .pop i, ρ, d, ρ', p, h => by cases p
  | .popAt i e, ρ, d, ρ', p, h => by cases p
  | .setd i es, ρ, d, ρ', p, h => by cases p
  | .enum es, ρ, d, ρ', p, h => by
    obtain ⟨⟨ds, ρ1⟩, h1, h2⟩ := Option.bind_eq_some_iff.mp h
    have := pure_slV Γ es ρ ds ρ1 (by simpa only [pureE] using p) h1
    dsimp only at h2
    split at h2
    · cases h2; exact this
    · cases h2; exact this
    · cases h2
  | .zip es, ρ, d, ρ', p, h => by
    obtain ⟨⟨ds, ρ1⟩, h1, h2⟩ := Option.bind_eq_some_iff.mp h
    have := pure_slV Γ es ρ ds ρ1 (by simpa only [pureE] using p) h1
    dsimp only at h2
    split at h2
    · obtain ⟨xs, _, h3⟩ := Option.bind_eq_some_iff.mp h2
      obtain ⟨ys, _, h4⟩ := Option.bind_eq_some_iff.mp h3
      split at h4
      · cases h4; exact this
      · cases h4
    · cases h2
  | .rng1 a, ρ, d, ρ', p, h => by
    obtain ⟨⟨d1, ρ1⟩, h1, h2⟩ := Option.bind_eq_some_iff.mp h
    have := pure_sl Γ a ρ d1 ρ1 (by simpa only [pureE] using p) h1
    dsimp only at h2
    split at h2
    · split at h2
      · cases h2; exact this
      · cases h2
    · cases h2
  | .rng2 es, ρ, d, ρ', p, h => by
    obtain ⟨⟨ds, ρ1⟩, h1, h2⟩ := Option.bind_eq_some_iff.mp h
    have := pure_slV Γ es ρ ds ρ1 (by simpa only [pureE] using p) h1
    dsimp only at h2
    split at h2
    · split at h2
      · cases h2; exact this
      · cases h2
    · cases h2
  | .items es, ρ, d, ρ', p, h => by
    obtain ⟨⟨ds, ρ1⟩, h1, h2⟩ := Option.bind_eq_some_iff.mp h
    have := pure_slV Γ es ρ ds ρ1 (by simpa only [pureE] using p) h1
    dsimp only at h2
    split at h2
    · cases h2; exact this
    · cases h2
theorem pure_slV (Γ : Calls) : ∀ (es : List E) (ρ : Ste) (ds : List D) (ρ' : Ste), pureEs es = true → evV Γ es ρ = some (ds, ρ') → ρ'.sl = ρ.sl
  | [], ρ, ds, ρ', _, h => by cases h; rfl
  | e :: es, ρ, ds, ρ', p, h => by
    simp only [pureEs, Bool.and_eq_true] at p
    by_cases hb : ∃ i, e = .bv i
    · obtain ⟨i, rfl⟩ := hb
      have h : ((getS ρ.sl i).bind fun d0 => (evV Γ es ρ).bind fun (ds, ρ') => (getS ρ'.sl i).bind fun d => if tyD d0 = tyD d then some (d :: ds, ρ') else none) = some (ds, ρ') := h
      obtain ⟨d0, _, h⟩ := Option.bind_eq_some_iff.mp h
      obtain ⟨⟨ds', ρ1⟩, h1, h⟩ := Option.bind_eq_some_iff.mp h
      obtain ⟨d, _, h⟩ := Option.bind_eq_some_iff.mp h
      split at h
      · cases h; exact pure_slV Γ es ρ _ _ p.2 h1
      · cases h
    · have h : ((evE Γ e ρ).bind fun (d, ρ') => (evV Γ es ρ').map fun (ds, ρ'') => (d :: ds, ρ'')) = some (ds, ρ') := by
        cases e <;> first | exact h | exact absurd ⟨_, rfl⟩ hb
      obtain ⟨⟨d, ρ1⟩, h1, h2⟩ := Option.bind_eq_some_iff.mp h
      obtain ⟨⟨ds', ρ2⟩, h3, h4⟩ := Option.map_eq_some_iff.mp h2
      cases h4
      exact (pure_slV Γ es ρ1 _ _ p.2 h3).trans (pure_sl Γ e ρ d ρ1 p.1 h1)
theorem pure_slA (Γ : Calls) : ∀ (es : List E) (ρ : Ste) (d : D) (ρ' : Ste), pureEs es = true → evAnd Γ es ρ = some (d, ρ') → ρ'.sl = ρ.sl
  | [], ρ, d, ρ', _, h => by cases h; rfl
  | e :: es, ρ, d, ρ', p, h => by
    simp only [pureEs, Bool.and_eq_true] at p
    obtain ⟨⟨b, ρ1⟩, h1, h2⟩ := Option.bind_eq_some_iff.mp h
    have i1 := pure_sl Γ e ρ _ ρ1 p.1 (boolR_some h1)
    dsimp only at h2
    split at h2
    · exact (pure_slA Γ es ρ1 d ρ' p.2 h2).trans i1
    · cases h2; exact i1
theorem pure_slO (Γ : Calls) : ∀ (es : List E) (ρ : Ste) (d : D) (ρ' : Ste), pureEs es = true → evOr Γ es ρ = some (d, ρ') → ρ'.sl = ρ.sl
  | [], ρ, d, ρ', _, h => by cases h; rfl
  | e :: es, ρ, d, ρ', p, h => by
    simp only [pureEs, Bool.and_eq_true] at p
    obtain ⟨⟨b, ρ1⟩, h1, h2⟩ := Option.bind_eq_some_iff.mp h
    have i1 := pure_sl Γ e ρ _ ρ1 p.1 (boolR_some h1)
    dsimp only at h2
    split at h2
    · cases h2; exact i1
    · exact (pure_slO Γ es ρ1 d ρ' p.2 h2).trans i1
end
end Ev
set_option linter.all false
set_option Elab.async false
set_option maxRecDepth 100000
set_option maxHeartbeats 4000000
/-! EvW: targets, walks, comprehensions. -/
namespace EvS
open PySem PySem.Spec PyProof.Rows L2 EvK
open Ev (D E S Tgt Ste Src getS restore flatK tupK dget dset dsetAll okK lim isInts isBls seqD pairsD evE evV evAnd evOr boolR Calls tyD asgT asgTs tnm tnms compL pureE pureEs)
section
variable {c : Ct} {X : Cx} {g : Gh} {Ks K K' : List Kd} {ρ ρ' : Ste} {ts : List Tm} {σ : L2.St} {H : Hp} {Γ : Calls}

theorem Rel.pushes {nw : List Tm} : ∀ {ts : List Tm}, Rel c g Ks ρ ts σ H → (∀ t ∈ nw, t.1 = .fz ∧ Fz c.P c.w c.K g.F t.2.2 t.2.1) → Rel c g Ks ρ (ts ++ nw) σ H := by
  induction nw with
  | nil => intro ts R _; simpa using R
  | cons t nw ih =>
    intro ts R h
    obtain ⟨k, d, v⟩ := t
    obtain ⟨h1, h2⟩ := h _ List.mem_cons_self
    cases h1
    have := ih (R.push h2) fun t ht => h t (List.mem_cons_of_mem _ ht)
    rwa [List.append_assoc] at this
theorem getS_wipe {sl : Ev.Slots} {own : List Nat} {i : Nat} {d : D} (h : getS (Ev.wipe sl own) i = some d) : i ∉ own ∧ getS sl i = some d := by
  unfold getS at h ⊢
  rw [Ev.wipe_at] at h
  by_cases z : i ∈ own ∧ i < sl.length
  · rw [if_pos z] at h; cases h
  · rw [if_neg z] at h
    refine ⟨fun hm => ?_, h⟩
    have hl : ¬ i < sl.length := fun hl => z ⟨hm, hl⟩
    rw [List.getElem?_eq_none (by omega)] at h; cases h
theorem Rel.wipeS (R : Rel c g Ks ρ ts σ H) (own : List Nat) : Rel c g Ks ⟨Ev.wipe ρ.sl own, ρ.src⟩ ts (L2.wipe σ own) H :=
  ⟨R.fh, R.bh, R.ff, R.fb, by show (Ev.wipe ρ.sl own).length = _; rw [Ev.wipe_len, L2.wipe_length]; exact R.len, fun i d e => by
    obtain ⟨h1, h2⟩ := getS_wipe e
    obtain ⟨v, h3, h4⟩ := R.sl i d h2
    exact ⟨v, by rw [L2.wipe_out h1]; exact h3, h4⟩, R.tm, R.ow, R.src⟩
/-- the block's own names as they were -/
theorem Rel.unwipe {sl : Ev.Slots} {own : List Nat} {s : Src} (R : Rel c g Ks ⟨Ev.wipe sl own, s⟩ ts (L2.wipe σ own) H) (hk : ∀ i ∈ own, Ks.getD i .fz = .fz) (hv : ∀ i ∈ own, ∀ d, getS sl i = some d → ∃ v, σ[i]? = some (some v) ∧ Fz c.P c.w c.K g.F v d) :
    Rel c g Ks ⟨sl, s⟩ ts σ H :=
  ⟨R.fh, R.bh, R.ff, R.fb, by have := R.len; rw [L2.wipe_length] at this; exact (Ev.wipe_len sl own).symm.trans this, fun i d e => by
    by_cases hi : i ∈ own
    · obtain ⟨v, h1, h2⟩ := hv i hi d e
      exact ⟨v, h1, by rw [hk i hi]; exact h2⟩
    · have e' : getS (Ev.wipe sl own) i = some d := by
        unfold getS at e ⊢
        rw [Ev.wipe_at, if_neg fun z => hi z.1]; exact e
      obtain ⟨v, h1, h2⟩ := R.sl i d e'
      exact ⟨v, (L2.wipe_some h1).1, h2⟩, R.tm, R.ow, R.src⟩
theorem Rel.at (R : Rel c g Ks ρ ts σ H) {ts' : List Tm} {t : Tm} {ts'' : List Tm} (e : ts = ts' ++ t :: ts'') : Vw c g H (.tm ts'.length) t.1 t.2.1 t.2.2 := by
  subst e
  exact R.tm ts'.length t (by rw [List.getElem?_append_right (Nat.le_refl _), Nat.sub_self]; rfl)
/-- the new list grows by the last value in hand -/
theorem Rel.grow {acc : List D} {y : D} {a : Addr} {v : V} (R : Rel c g Ks ρ (ts ++ [(.own, .list acc, .ref a)] ++ [(.fz, y, v)]) σ H) :
    ∃ vs, H a = some (.lst vs) ∧ vs.length = acc.length ∧ Rel c g Ks ρ (ts ++ [(.own, .list (acc ++ [y]), .ref a)]) σ (upd H a (.lst (vs ++ [v]))) := by
  have hy : Fz c.P c.w c.K g.F v y := R.last
  have R' := R.drop
  have ha := R'.last
  obtain ⟨a', e1, ho, hT⟩ := Vw.own ha rfl
  cases e1
  obtain ⟨vs, hH, hf⟩ := hT.list
  obtain ⟨nf, nb, nh⟩ := R'.ow a _ ho
  refine ⟨vs, hH, hf.length, ?_⟩
  have oth : ∀ {o' : Ow}, o' ≠ .tm ts.length → ∀ b, g.ow b = some o' → g.ow b = some o' ∧ upd H a (.lst (vs ++ [v])) b = H b := fun {o'} ne b e => ⟨e, upd_ne fun z => ne (by rw [z, ho] at e; exact (Option.some.inj e).symm)⟩
  refine ⟨fun b x e => ?_, fun b x e => ?_, R'.ff, R'.fb, R'.len, fun j e he => ?_, fun j t e => ?_, fun b o' e => ?_, fun hs => ?_⟩
  · rw [upd_ne fun z => by rw [z, nf] at e; cases e]; exact R'.fh _ _ e
  · rw [upd_ne fun z => by rw [z, nb] at e; cases e]; exact R'.bh _ _ e
  · obtain ⟨u, h1, h2⟩ := R'.sl j e he
    exact ⟨u, h1, h2.mono (g := g) (Same.refl g.F) (oth fun q => by cases q)⟩
  · rcases getElem?_snoc e with ⟨e, hj⟩ | ⟨rfl, rfl⟩
    · exact (R'.drop.tm j t e).mono (g := g) (Same.refl g.F) (oth fun q => by cases q; omega)
    · exact .inr ⟨a, rfl, ho, .inl ⟨_, _, rfl, upd_same, hf.append (.cons hy .nil)⟩⟩
  · obtain ⟨h1, h2, h3⟩ := R'.ow b o' e
    refine ⟨h1, h2, ?_⟩
    by_cases z : b = a
    · rw [z, upd_same]; simp
    · rw [upd_ne z]; exact h3
  · obtain ⟨h0, h1, h2, h3, h4, h5, h6, h7⟩ := R'.src hs
    have z1 : c.aS ≠ a := fun z => by rw [z, ho] at h6; cases h6
    have z2 : c.aC ≠ a := fun z => by rw [z, ho] at h7; cases h7
    exact ⟨h0.mono (upd_ne z1) (upd_ne z2), h1, h2, h3, h4, h5, h6, h7⟩
/-- values in the middle are let go -/
theorem Rel.mid {mid : List Tm} {k : Kd} {d : D} {v : V} (R : Rel c g Ks ρ (ts ++ mid ++ [(k, d, v)]) σ H) : ∃ g', Same g.F g'.F ∧ Same g'.F g.F ∧ Rel c g' Ks ρ (ts ++ [(k, d, v)]) σ H := by
  by_cases hm : mid = []
  · subst hm; exact ⟨g, Same.refl _, Same.refl _, by simpa using R⟩
  have hml : 0 < mid.length := List.length_pos_iff.mpr hm
  have ht := R.last
  rw [List.length_append] at ht
  have oth : ∀ {o : Ow}, o ≠ .tm (ts.length + mid.length) → ∀ a, g.ow a = some o → (g.pass (.tm (ts.length + mid.length)) (.tm ts.length)).ow a = some o ∧ H a = H a := fun {o} ne a e => ⟨by
    show (if g.ow a = some (.tm (ts.length + mid.length)) then _ else g.ow a) = some o
    rw [if_neg fun z => ne (Option.some.inj (e.symm.trans z))]; exact e, rfl⟩
  have owq : ∀ a o, (g.pass (.tm (ts.length + mid.length)) (.tm ts.length)).ow a = some o → ∃ o', g.ow a = some o' := fun a o e => by
    have e' : (if g.ow a = some (.tm (ts.length + mid.length)) then some (Ow.tm ts.length) else g.ow a) = some o := e
    by_cases z : g.ow a = some (.tm (ts.length + mid.length))
    · exact ⟨_, z⟩
    · rw [if_neg z] at e'; exact ⟨_, e'⟩
  refine ⟨g.pass (.tm (ts.length + mid.length)) (.tm ts.length), Same.refl _, Same.refl _, R.fh, R.bh, R.ff, R.fb, R.len, fun j e he => ?_, fun j t e => ?_, fun a o e => ?_, fun h => ?_⟩
  · obtain ⟨u, h1, h2⟩ := R.sl j e he
    exact ⟨u, h1, h2.mono (g := g) (Same.refl g.F) (oth fun q => by cases q)⟩
  · rcases getElem?_snoc e with ⟨e, hj⟩ | ⟨rfl, rfl⟩
    · exact (R.drop.drop.tm j t e).mono (g := g) (Same.refl g.F) (oth fun q => by cases q; omega)
    · cases k with
      | fz => exact ht
      | src => exact ht
      | own =>
        rcases ht with ht | ⟨a, rfl, h2, h3⟩
        · exact .inl ht
        · exact .inr ⟨a, rfl, by show (if g.ow a = some (.tm (ts.length + mid.length)) then _ else g.ow a) = _; rw [if_pos h2], h3⟩
  · obtain ⟨o', e'⟩ := owq a o e
    exact R.ow a o' e'
  · obtain ⟨h0, h1, h2, h3, h4, h5, h6, h7⟩ := R.src h
    refine ⟨h0, h1, h2, h3, h4, h5, ?_, ?_⟩
    · cases q : (g.pass (.tm (ts.length + mid.length)) (.tm ts.length)).ow c.aS with
      | none => rfl
      | some o => obtain ⟨o', e'⟩ := owq _ _ q; rw [h6] at e'; cases e'
    · cases q : (g.pass (.tm (ts.length + mid.length)) (.tm ts.length)).ow c.aC with
      | none => rfl
      | some o => obtain ⟨o', e'⟩ := owq _ _ q; rw [h7] at e'; cases e'

/-! ### targets -/
mutual
def gT (K : PySem.W.Frag) : Tgt → TG
  | .nm i => gName i
  | .tup ts => gTup K ts.length (gTs K ts)
def gTs (K : PySem.W.Frag) : List Tgt → TGs
  | [] => gNil
  | t :: ts => gCons (gT K t) (gTs K ts)
end
/-- kinds behind the stores -/
def kT (t : Tgt) (K : List Kd) : List Kd := (tnm t).foldl (fun K i => K.set i .fz) K
def kTs (ts : List Tgt) (K : List Kd) : List Kd := (tnms ts).foldl (fun K i => K.set i .fz) K
/-- what a loop hands out: a frozen thing, or a pair just made -/
def ItV (c : Ct) (g : Gh) (H : Hp) (x : V) (d : D) : Prop := Fz c.P c.w c.K g.F x d ∨ ∃ T v1 v2 d1 d2, x = .ref T ∧ H T = some (.tup [v1, v2]) ∧ d = .tuple [d1, d2] ∧ Fz c.P c.w c.K g.F v1 d1 ∧ Fz c.P c.w c.K g.F v2 d2
/-- slots but these are as they were -/
def But (ns : List Nat) (σ σ' : L2.St) : Prop := σ'.length = σ.length ∧ ∀ i, i ∉ ns → σ'[i]? = σ[i]?
theorem But.trans {ns ms : List Nat} {σ σ1 σ2 : L2.St} (h1 : But ns σ σ1) (h2 : But ms σ1 σ2) : But (ns ++ ms) σ σ2 :=
  ⟨h2.1.trans h1.1, fun i hi => by simp only [List.mem_append, not_or] at hi; rw [h2.2 i hi.2, h1.2 i hi.1]⟩
theorem wipe_but {ns own : List Nat} {σ σ' : L2.St} (h : But ns σ σ') (hn : ∀ i ∈ ns, i ∈ own) : L2.wipe σ' own = L2.wipe σ own := by
  apply List.ext_getElem?
  intro i
  have wat : ∀ (σ : L2.St) (vs : List Nat), (L2.wipe σ vs)[i]? = if i ∈ vs ∧ i < σ.length then some none else σ[i]? := fun σ vs => by
    induction vs with
    | nil => simp [L2.wipe]
    | cons v vs ih =>
      unfold L2.wipe
      rw [List.getElem?_set, L2.wipe_length]
      by_cases h : v = i
      · subst h
        by_cases hl : v < σ.length
        · simp [hl]
        · simp [hl]
      · rw [if_neg h, ih]
        simp [Ne.symm h]
  rw [wat, wat, h.1]
  by_cases hi : i ∈ own
  · by_cases hl : i < σ.length
    · rw [if_pos ⟨hi, hl⟩, if_pos ⟨hi, hl⟩]
    · rw [if_neg fun z => hl z.2, if_neg fun z => hl z.2, List.getElem?_eq_none (by rw [h.1]; omega), List.getElem?_eq_none (by omega)]
  · rw [if_neg fun z => hi z.1, if_neg fun z => hi z.1, h.2 i fun z => hi (hn i z)]
theorem asgTs_lens : ∀ {l : List Tgt} {ds : List D} {sl sl' : Ev.Slots}, asgTs l ds sl = some sl' → ds.length = l.length
  | [], [], _, _, _ => rfl
  | [], _ :: _, _, _, e => by cases e
  | _ :: _, [], _, _, e => by cases e
  | t :: l, d :: ds, sl, sl', e => by
    simp only [asgTs] at e
    obtain ⟨sl1, e1, e2⟩ := Option.bind_eq_some_iff.mp e
    rw [List.length_cons, List.length_cons, asgTs_lens e2]
mutual
theorem gT_fz : ∀ (t : Tgt) (K : List Kd) (ρ : Ste) (ts : List Tm) (σ : L2.St) (H : Hp) (v : V) (d : D) (sl' : Ev.Slots) (Q : L2.St → Hp → Prop), Rel c g K ρ ts σ H → Fz c.P c.w c.K g.F v d → asgT t d ρ.sl = some sl' →
    (∀ σ', But (tnm t) σ σ' → Rel c g (kT t K) ⟨sl', ρ.src⟩ ts σ' H → Q σ' H) → gT c.K t v σ H Q
  | .nm i, K, ρ, ts, σ, H, v, d, sl', Q, R, hf, e, q => by
    cases e
    exact q _ ⟨by simp, fun j hj => by rw [List.getElem?_set_ne]; intro z; exact hj (by simp [tnm, z])⟩ ((R.push hf).setFz i)
  | .tup l, K, ρ, ts, σ, H, v, d, sl', Q, R, hf, e, q => by
    cases d <;> simp only [asgT] at e <;> try cases e
    rename_i ds
    cases hf with
    | tup hq hfa =>
      rename_i a xs
      have hl : xs.length = l.length := by rw [hfa.length, asgTs_lens e]
      exact ⟨a, xs, rfl, same_tup R.fh hq.sq, hl, gTs_fz l K ρ ts σ H xs ds sl' Q R hfa e fun σ' b R' => q σ' b R'⟩
theorem gTs_fz : ∀ (l : List Tgt) (K : List Kd) (ρ : Ste) (ts : List Tm) (σ : L2.St) (H : Hp) (xs : List V) (ds : List D) (sl' : Ev.Slots) (Q : L2.St → Hp → Prop), Rel c g K ρ ts σ H → FzA c.P c.w c.K g.F xs ds → asgTs l ds ρ.sl = some sl' →
    (∀ σ', But (tnms l) σ σ' → Rel c g (kTs l K) ⟨sl', ρ.src⟩ ts σ' H → Q σ' H) → gTs c.K l xs σ H Q
  | [], K, ρ, ts, σ, H, xs, ds, sl', Q, R, hf, e, q => by
    cases ds with
    | nil =>
      cases e; cases hf
      exact ⟨rfl, q σ ⟨rfl, fun _ _ => rfl⟩ R⟩
    | cons d ds => cases e
  | t :: l, K, ρ, ts, σ, H, xs, ds, sl', Q, R, hf, e, q => by
    cases ds with
    | nil => cases e
    | cons d ds =>
      simp only [asgTs] at e
      obtain ⟨sl1, e1, e2⟩ := Option.bind_eq_some_iff.mp e
      cases hf with
      | cons h1 h2 =>
        refine ⟨_, _, rfl, gT_fz t K ρ ts σ H _ d sl1 _ R h1 e1 fun σ1 b1 R1 => ?_⟩
        refine gTs_fz l (kT t K) ⟨sl1, ρ.src⟩ ts σ1 H _ ds sl' Q R1 h2 e2 fun σ2 b2 R2 => ?_
        refine q σ2 (b1.trans b2) ?_
        have : kTs (t :: l) K = kTs l (kT t K) := by unfold kTs kT; rw [tnms, List.foldl_append]
        rw [this]; exact R2
end
/-- a loop's target; a pair that was just made is unpacked at once -/
def tupT : Tgt → Bool
  | .tup _ => true
  | _ => false
theorem gT_it {t : Tgt} {K : List Kd} {ρ : Ste} {ts : List Tm} {σ : L2.St} {H : Hp} {v : V} {d : D} {sl' : Ev.Slots} {Q : L2.St → Hp → Prop} (R : Rel c g K ρ ts σ H) (hv : ItV c g H v d) (ht : tupT t = true ∨ Fz c.P c.w c.K g.F v d) (e : asgT t d ρ.sl = some sl')
    (q : ∀ σ', But (tnm t) σ σ' → Rel c g (kT t K) ⟨sl', ρ.src⟩ ts σ' H → Q σ' H) : gT c.K t v σ H Q := by
  rcases ht with ht | ht
  · rcases hv with hv | ⟨T, v1, v2, d1, d2, rfl, hT, rfl, f1, f2⟩
    · exact gT_fz t K ρ ts σ H v d sl' Q R hv e q
    · cases t with
      | nm i => cases ht
      | tup l =>
        simp only [asgT] at e
        have hl := asgTs_lens e
        exact ⟨T, [v1, v2], rfl, .inl (.inl hT), by rw [← hl]; rfl, gTs_fz l K ρ ts σ H [v1, v2] [d1, d2] sl' Q R (.cons f1 (.cons f2 .nil)) e fun σ' b R' => q σ' b R'⟩
  · exact gT_fz t K ρ ts σ H v d sl' Q R ht e q
end
end EvS
set_option linter.all false
set_option Elab.async false
set_option maxRecDepth 100000
set_option maxHeartbeats 4000000
/-! EvL: what is walked, comprehensions. -/
namespace EvS
open PySem PySem.Spec PyProof.Rows L2 EvK
open Ev (D E S Tgt Ste Src getS restore flatK tupK dget dset dsetAll okK lim isInts isBls seqD pairsD evE evV evAnd evOr boolR Calls tyD asgT asgTs tnm tnms compL pureE pureEs)
/-- how the walked thing gives its members, while G stands -/
structure WalkG (c : Ct) (J : It) (xs : List D) (tp : Bool) (G : Gh → Hp → Prop) : Prop where
  goes : ∀ i g H, i < xs.length → G g H → J.go i H
  stops : ∀ g H, G g H → J.stop xs.length H
  yields : ∀ (i : Nat) d g H x H', xs[i]? = some d → G g H → J.yld i H x H' → (H' = H ∧ Fz c.P c.w c.K g.F x d) ∨
    (tp = true ∧ ∃ T v1 v2 d1 d2, x = .ref T ∧ H T = none ∧ H' = upd H T (.tup [v1, v2]) ∧ d = .tuple [d1, d2] ∧ Fz c.P c.w c.K g.F v1 d1 ∧ Fz c.P c.w c.K g.F v2 d2)
def GV (c : Ct) (d : D) (v : V) (g : Gh) (H : Hp) : Prop := ∃ Ks ρ ts σ, Rel c g Ks ρ ts σ H ∧ View c g H d v
section
variable {c : Ct}
theorem walkG_list {a : Addr} {ds : List D} : WalkG c (Itl c.K a) ds false (GV c (.list ds) (.ref a)) where
  goes := fun i g H hi ⟨Ks, ρ, ts, σ, R, v⟩ => by
    obtain ⟨a', vs, e, h, f⟩ := v.list R
    cases e
    have hl := f.length
    exact ⟨vs, vs[i]'(by omega), .inl (.inl h), by simp⟩
  stops := fun g H ⟨Ks, ρ, ts, σ, R, v⟩ => by
    obtain ⟨a', vs, e, h, f⟩ := v.list R
    cases e
    exact ⟨vs, .inl (.inl h), by rw [f.length]; exact Nat.le_refl _⟩
  yields := fun i d g H x H' hd ⟨Ks, ρ, ts, σ, R, v⟩ y => by
    obtain ⟨a', vs, e, h, f⟩ := v.list R
    cases e
    obtain ⟨rfl, y⟩ := y
    obtain ⟨d', h1, h2⟩ := f.getV (y vs (.inl (.inl h)))
    rw [hd] at h1; cases h1
    exact .inl ⟨rfl, h2⟩
theorem walkG_tup {a : Addr} {ds : List D} : WalkG c (Itt c.K a) ds false (GV c (.tuple ds) (.ref a)) where
  goes := fun i g H hi ⟨Ks, ρ, ts, σ, R, v⟩ => by
    obtain ⟨a', vs, e, _, h, f⟩ := v.tuple R
    cases e
    have hl := f.length
    exact ⟨vs, vs[i]'(by omega), h, by simp⟩
  stops := fun g H ⟨Ks, ρ, ts, σ, R, v⟩ => by
    obtain ⟨a', vs, e, _, h, f⟩ := v.tuple R
    cases e
    exact ⟨vs, h, by rw [f.length]; exact Nat.le_refl _⟩
  yields := fun i d g H x H' hd ⟨Ks, ρ, ts, σ, R, v⟩ y => by
    obtain ⟨a', vs, e, _, h, f⟩ := v.tuple R
    cases e
    obtain ⟨rfl, y⟩ := y
    obtain ⟨d', h1, h2⟩ := f.getV (y vs h)
    rw [hd] at h1; cases h1
    exact .inl ⟨rfl, h2⟩
theorem enumD_len : ∀ (ds : List D) (n : Nat), (Ev.enumD n ds).length = ds.length
  | [], _ => rfl
  | d :: ds, n => by unfold Ev.enumD; rw [List.length_cons, List.length_cons, enumD_len ds]
theorem enumD_at : ∀ (ds : List D) (n i : Nat), (Ev.enumD n ds)[i]? = ds[i]?.map fun d => .tuple [.int ((n + i : Nat) : Int), d]
  | [], _, _ => rfl
  | d :: ds, n, 0 => rfl
  | d :: ds, n, i + 1 => by
    unfold Ev.enumD
    rw [List.getElem?_cons_succ, List.getElem?_cons_succ, enumD_at ds]
    congr 1
    funext d
    congr 4
    omega
theorem walkG_enum {a : Addr} {ds : List D} : WalkG c (Ite c.K a) (Ev.enumD 0 ds) true (GV c (.list ds) (.ref a)) where
  goes := fun i g H hi ⟨Ks, ρ, ts, σ, R, v⟩ => by
    obtain ⟨a', vs, e, h, f⟩ := v.list R
    cases e
    have hl := f.length
    rw [enumD_len] at hi
    exact ⟨vs, vs[i]'(by omega), .inl (.inl h), by simp⟩
  stops := fun g H ⟨Ks, ρ, ts, σ, R, v⟩ => by
    obtain ⟨a', vs, e, h, f⟩ := v.list R
    cases e
    exact ⟨vs, .inl (.inl h), by rw [f.length, enumD_len]; exact Nat.le_refl _⟩
  yields := fun i d g H x H' hd ⟨Ks, ρ, ts, σ, R, v⟩ y => by
    obtain ⟨a', vs, e, h, f⟩ := v.list R
    cases e
    obtain ⟨T, x1, rfl, hT, rfl, y⟩ := y
    obtain ⟨d', h1, h2⟩ := f.getV (y vs (.inl (.inl h)))
    rw [enumD_at, h1] at hd
    cases hd
    refine .inr ⟨rfl, T, _, _, _, _, rfl, hT, rfl, rfl, ?_, h2⟩
    rw [Nat.zero_add]; exact .int _
theorem walkG_enumT {a : Addr} {ds : List D} : WalkG c (IteT c.K a) (Ev.enumD 0 ds) true (GV c (.tuple ds) (.ref a)) where
  goes := fun i g H hi ⟨Ks, ρ, ts, σ, R, v⟩ => by
    obtain ⟨a', vs, e, _, h, f⟩ := v.tuple R
    cases e
    have hl := f.length
    rw [enumD_len] at hi
    exact ⟨vs, vs[i]'(by omega), h, by simp⟩
  stops := fun g H ⟨Ks, ρ, ts, σ, R, v⟩ => by
    obtain ⟨a', vs, e, _, h, f⟩ := v.tuple R
    cases e
    exact ⟨vs, h, by rw [f.length, enumD_len]⟩
  yields := fun i d g H x H' hd ⟨Ks, ρ, ts, σ, R, v⟩ y => by
    obtain ⟨a', vs, e, _, h, f⟩ := v.tuple R
    cases e
    obtain ⟨T, x1, rfl, hT, rfl, y⟩ := y
    obtain ⟨d', h1, h2⟩ := f.getV (y vs h)
    rw [enumD_at, h1] at hd
    cases hd
    refine .inr ⟨rfl, T, _, _, _, _, rfl, hT, rfl, rfl, ?_, h2⟩
    rw [Nat.zero_add]; exact .int _
theorem rngD_len : ∀ (n : Nat) (lo : Int), (Ev.rngD lo n).length = n
  | 0, _ => rfl
  | n + 1, lo => by unfold Ev.rngD; rw [List.length_cons, rngD_len n]
theorem rngD_at : ∀ (n : Nat) (lo : Int) (i : Nat), i < n → (Ev.rngD lo n)[i]? = some (.int (lo + i))
  | 0, _, _, h => by omega
  | n + 1, lo, 0, _ => by simp [Ev.rngD]
  | n + 1, lo, i + 1, h => by
    unfold Ev.rngD
    rw [List.getElem?_cons_succ, rngD_at n (lo + 1) i (by omega)]
    congr 2
    omega
theorem walkG_rng {lo : Int} {n : Nat} {G : Gh → Hp → Prop} : WalkG c (Itr lo n) (Ev.rngD lo n) false G where
  goes := fun i g H hi _ => by rw [rngD_len] at hi; exact hi
  stops := fun g H _ => by rw [rngD_len]; exact Nat.le_refl n
  yields := fun i d g H x H' hd _ y => by
    obtain ⟨rfl, rfl⟩ := y
    have hi : i < n := by have := (List.getElem?_eq_some_iff.mp hd).1; rwa [rngD_len] at this
    rw [rngD_at n lo i hi] at hd
    cases hd
    exact .inl ⟨rfl, .int _⟩

/-! ### the reading of what is walked -/
/-- the borrowed name that is walked -/
def itv : E → Option Nat
  | .bv i => some i
  | .enum [.bv i] => some i
  | _ => none
def itp : E → Bool
  | .enum _ => true
  | _ => false
def Keep (c : Ct) (ts tw : List Tm) (it : E) (ρ1 : Ste) (σ : L2.St) (d : D) (v : V) : Prop := ∀ g Ks ρ' ts' σ' H, Rel c g Ks ρ' (ts ++ tw ++ ts') σ' H →
  (∀ i, itv it = some i → getS ρ'.sl i = getS ρ1.sl i ∧ σ'[i]? = σ[i]? ∧ Ks.getD i .fz ≠ .src) → View c g H d v
def tIF (c : Ct) (K K' : List Kd) (it : E) (f : Ev.R D) : TI := fun σ H R => ∃ g ρ ts d ρ1 xs, Rel c g K ρ ts σ H ∧ f ρ = some (d, ρ1) ∧ seqD d = some xs ∧
  ∀ J g1 tw H1 dd v, Rel c g1 K' ρ1 (ts ++ tw) σ H1 → Keep c ts tw it ρ1 σ dd v → WalkG c J xs (itp it) (GV c dd v) → R J H1
theorem PI.imp {X : Cx} {tg e : Expr} {t t' : TI} (h : PI X tg e t) (i : ∀ σ H R, t' σ H R → t σ H R) : PI X tg e t' := ⟨fun pins s σ H R I q => h.run pins s σ H R I (i σ H R q)⟩
theorem keep_tm {ts : List Tm} {it : E} {ρ1 : Ste} {σ : L2.St} {d : D} {v : V} : Keep c ts [(.fz, d, v)] it ρ1 σ d v := fun g Ks ρ' ts' σ' H R _ => by
  have := Rel.at (ts' := ts) (t := (.fz, d, v)) (ts'' := ts') R (by simp)
  exact Fz.view this
theorem keep_bv {ts : List Tm} {it : E} {i : Nat} {ρ1 : Ste} {σ : L2.St} {d : D} {v : V} (hi : itv it = some i) (hd : getS ρ1.sl i = some d) (hv : σ[i]? = some (some v)) : Keep c ts [] it ρ1 σ d v := fun g Ks ρ' ts' σ' H R h => by
  obtain ⟨h1, h2, h3⟩ := h i hi
  obtain ⟨v', h4, h5⟩ := R.viewSl (h1.trans hd) h3
  rw [h2, hv] at h4; cases h4
  exact h5
/-- a list or tuple, by its operand's reading -/
theorem seq_of {X : Cx} {Γ : Calls} (ft : Fit c X) {tg ast : Expr} {K : List Kd} {e : E} (h : PE X ast (tO c Γ K e)) (hi : itv e = none ∨ isBv e = true) (hp : itp e = false) (hb : ∀ i, e = .bv i → K.getD i .fz ≠ .src) : PI X tg ast (tIF c K (kE e K) e (evE Γ e)) := by
  refine PI.imp (pi_seq h) fun σ H R q => ?_
  obtain ⟨g, ρ, ts, d, ρ1, xs, R0, ev, sq, q⟩ := q
  rw [ft.K]
  have fin : ∀ {g1 tw H1 v}, Rel c g1 (kE e K) ρ1 (ts ++ tw) σ H1 → Keep c ts tw e ρ1 σ d v → View c g1 H1 d v → ∃ a xs, v = .ref a ∧ ((SqL c.K H1 a xs ∧ R (Itl c.K a) H1) ∨ (SqT c.K H1 a xs ∧ R (Itt c.K a) H1)) := fun {g1 tw H1 v} R1 kp vw => by
    unfold seqD at sq
    split at sq
    · cases sq
      obtain ⟨a, vs, rfl, h1, f⟩ := vw.list R1
      exact ⟨a, vs, rfl, .inl ⟨.inl (.inl h1), q _ g1 tw H1 _ _ R1 kp (by rw [hp]; exact walkG_list)⟩⟩
    · cases sq
      obtain ⟨a, vs, rfl, h0, h1, f⟩ := vw.tuple R1
      exact ⟨a, vs, rfl, .inr ⟨h1, q _ g1 tw H1 _ _ R1 kp (by rw [hp]; exact walkG_tup)⟩⟩
    · cases sq
  by_cases hv : isBv e = true
  · obtain ⟨i, rfl⟩ := isBv_iff hv
    obtain ⟨x, e1, e2⟩ := Option.map_eq_some_iff.mp ev
    cases e2
    obtain ⟨v, h1, h2⟩ := R0.viewSl e1 (hb i rfl)
    refine ⟨v, h1, fin (tw := []) (by rw [kE_bv, List.append_nil]; exact R0) (keep_bv rfl e1 h1) h2⟩
  · have hv : isBv e = false := by simpa using hv
    show (tO c Γ K e) σ H _
    rw [tO_ne hv]
    refine ⟨g, ρ, ts, d, ρ1, R0, ev, fun g1 v H1 R1 => ?_⟩
    exact fin (tw := [(.fz, d, v)]) R1 keep_tm (Fz.view R1.last)

/-! ### comprehensions -/
theorem compL_len {own : List Nat} {t : Tgt} {cf f : Ev.R D} : ∀ {xs : List D} {ρ : Ste} {ds : List D} {ρ' : Ste}, compL own t cf f xs ρ = some (ds, ρ') → ds.length ≤ lim
  | [], ρ, ds, ρ', e => by cases e; exact Nat.zero_le _
  | x :: xs, ρ, ds, ρ', e => by
    unfold compL at e
    split at e
    · cases e
    · split at e
      · cases e
      · exact compL_len e
      · split at e
        · cases e
        · split at e
          · cases e
          · split at e
            · rename_i h; cases e; rw [List.length_cons]; exact h
            · cases e
/-- the frozen values of these slots -/
def saved (ρ : Ste) (σ : L2.St) (own : List Nat) : List Tm := own.filterMap fun j => match getS ρ.sl j, σ[j]? with
  | some d, some (some v) => some (.fz, d, v)
  | _, _ => none
theorem saved_mem {ρ : Ste} {σ : L2.St} {own : List Nat} {t : Tm} (h : t ∈ saved ρ σ own) : ∃ j ∈ own, t.1 = .fz ∧ getS ρ.sl j = some t.2.1 ∧ σ[j]? = some (some t.2.2) := by
  obtain ⟨j, hj, e⟩ := List.mem_filterMap.mp h
  split at e
  · rename_i d v h1 h2
    cases e
    exact ⟨j, hj, rfl, h1, h2⟩
  · cases e
theorem mem_saved {ρ : Ste} {σ : L2.St} {own : List Nat} {j : Nat} {d : D} {v : V} (hj : j ∈ own) (h1 : getS ρ.sl j = some d) (h2 : σ[j]? = some (some v)) : (Kd.fz, d, v) ∈ saved ρ σ own :=
  List.mem_filterMap.mpr ⟨j, hj, by rw [h1, h2]⟩
theorem wipe_wipe (σ : L2.St) (own : List Nat) : L2.wipe (L2.wipe σ own) own = L2.wipe σ own := wipe_but (ns := own) ⟨L2.wipe_length σ own, fun i hi => L2.wipe_out hi⟩ fun i hi => hi
theorem comp_imp {X : Cx} {Γ : Calls} {own : List Nat} {t : Tgt} {it : E} {cond : List E} {elt : E} {K K1 K2 : List Kd} (hk : leK K2 K1 = true) (hown : ∀ i ∈ own, K2.getD i .fz = .fz) (pc : pureEs cond = true) (pe : pureE elt = true) (ht : (tnm t).all own.contains = true)
    (hp : itp it = true → tupT t = true) (hi : ∀ i, itv it = some i → i ∉ own ∧ K2.getD i .fz ≠ .src) {σ : L2.St} {H : Hp} {Q : VK} (h : tF c K K2 .own (evE Γ (.comp own t it cond elt)) σ H Q) :
    tLc (tIF c K K1 it (evE Γ it)) (gT c.K t) (tBF c K2 K2 (evAnd Γ cond)) (tF c K2 K2 .fz (evE Γ elt)) own σ H Q := by
  obtain ⟨g, ρ, ts, d, ρ', R, e, q⟩ := h
  obtain ⟨⟨d1, ρ1⟩, e1, e⟩ := Option.bind_eq_some_iff.mp e
  obtain ⟨xs, e2, e⟩ := Option.bind_eq_some_iff.mp e
  obtain ⟨⟨ds, ρ2⟩, e3, e⟩ := Option.map_eq_some_iff.mp e
  cases e
  have s2 : ρ2.sl = Ev.wipe ρ1.sl own := Ev.compL_sl ht (fun ρ d ρ' => Ev.pure_slA Γ cond ρ d ρ' pc) (fun ρ d ρ' => Ev.pure_sl Γ elt ρ d ρ' pe) xs _ _ _ (by show Ev.wipe (Ev.wipe ρ1.sl own) own = _; exact Ev.wipe_wipe _ _) e3
  have q : Pst c K2 ⟨restore ρ1.sl ρ2.sl own, ρ2.src⟩ ts σ .own (.list ds) Q := q
  rw [s2, Ev.restore_wipe] at q
  have hlim := compL_len e3
  refine ⟨g, ρ, ts, d1, ρ1, xs, R, e1, e2, fun J g1 tw H1 dd v R1 kp wk Dd hD => ?_⟩
  obtain ⟨g2, R2⟩ := R1.low hk
  have R3 : Rel c g2 K2 ρ1 (ts ++ tw ++ saved ρ1 σ own) σ H1 := R2.pushes fun t ht => by
    obtain ⟨j, hj, h1, h2, h3⟩ := saved_mem ht
    obtain ⟨v, h4, h5⟩ := R2.sl j _ h2
    rw [h3] at h4; cases h4
    rw [hown j hj] at h5
    exact ⟨h1, h5⟩
  have R5 := (R3.newO (o := .lst []) (d := .list []) hD (.inl ⟨[], [], rfl, upd_same, .nil⟩)).wipeS own
  refine ⟨fun i m H => m = xs.length - i ∧ i ≤ xs.length ∧ ∃ g s acc rest, Rel c g K2 ⟨Ev.wipe ρ1.sl own, s⟩ (ts ++ tw ++ saved ρ1 σ own ++ [(.own, .list acc, .ref Dd)]) (L2.wipe σ own) H ∧
      compL own t (evAnd Γ cond) (evE Γ elt) (xs.drop i) ⟨Ev.wipe ρ1.sl own, s⟩ = some (rest, ρ2) ∧ acc ++ rest = ds, ⟨xs.length, by omega, Nat.zero_le _, _, ρ1.src, [], ds, R5, by rw [List.drop_zero]; exact e3, rfl⟩, ?_⟩
  rintro i m H ⟨rfl, hle, g, s, acc, rest, Rw, ec, ea⟩
  have gv : GV c dd v g H := ⟨_, _, _, _, Rw, kp g K2 _ (saved ρ1 σ own ++ [(.own, .list acc, .ref Dd)]) _ H (by rw [List.append_assoc] at Rw; exact Rw) fun j hj => by
    obtain ⟨h1, h2⟩ := hi j hj
    refine ⟨?_, L2.wipe_out h1, h2⟩
    unfold getS
    rw [Ev.wipe_at, if_neg fun z => h1 z.1]⟩
  by_cases hlt : i < xs.length
  · refine .inr ⟨wk.goes i g H hlt gv, fun H' => i + 1 ≤ xs.length ∧ ∃ g s acc rest, Rel c g K2 ⟨Ev.wipe ρ1.sl own, s⟩ (ts ++ tw ++ saved ρ1 σ own ++ [(.own, .list acc, .ref Dd)]) (L2.wipe σ own) H' ∧
      compL own t (evAnd Γ cond) (evE Γ elt) (xs.drop (i + 1)) ⟨Ev.wipe ρ1.sl own, s⟩ = some (rest, ρ2) ∧ acc ++ rest = ds, fun H' h' => ⟨xs.length - (i + 1), by omega, rfl, h'.1, h'.2⟩, fun x H' y => ?_⟩
    have hx : xs[i]? = some xs[i] := List.getElem?_eq_getElem hlt
    rw [List.drop_eq_getElem_cons hlt] at ec
    have RI : Rel c g K2 ⟨Ev.wipe ρ1.sl own, s⟩ (ts ++ tw ++ saved ρ1 σ own ++ [(.own, .list acc, .ref Dd)]) (L2.wipe σ own) H' ∧ ItV c g H' x xs[i] ∧ (tupT t = true ∨ Fz c.P c.w c.K g.F x xs[i]) := by
      rcases wk.yields i _ g H x H' hx gv y with ⟨rfl, hf⟩ | ⟨tp, T, v1, v2, d1', d2', rfl, hT, rfl, hd, f1, f2⟩
      · exact ⟨Rw, .inl hf, .inr hf⟩
      · exact ⟨Rw.newG hT, .inr ⟨T, v1, v2, d1', d2', rfl, upd_same, hd, f1, f2⟩, .inl (hp tp)⟩
    obtain ⟨R', iv, it'⟩ := RI
    unfold compL at ec
    split at ec
    · cases ec
    · rename_i sl1 ha
      refine gT_it R' iv it' ha fun σ2 bt R'' => ?_
      have hmem : ∀ i ∈ tnm t, i ∈ own := fun i hi => by simpa using List.all_eq_true.mp ht i hi
      have hw : L2.wipe σ2 own = L2.wipe σ own := (wipe_but bt hmem).trans (wipe_wipe σ own)
      have Rk : Rel c g K2 ⟨sl1, s⟩ (ts ++ tw ++ saved ρ1 σ own ++ [(.own, .list acc, .ref Dd)]) σ2 H' := R''.sameK fun j => by
        have aux : ∀ (l : List Nat) (K : List Kd), (∀ i ∈ l, K.getD i .fz = .fz) → (l.foldl (fun K i => K.set i .fz) K).getD j .fz = K.getD j .fz := fun l => by
          induction l with
          | nil => intro K _; rfl
          | cons a l ih =>
            intro K h
            have hs : ∀ i, (K.set a Kd.fz).getD i .fz = K.getD i .fz := fun i => by
              rw [getD_set]
              by_cases z : a = i ∧ a < K.length
              · rw [if_pos z, ← z.1, h a List.mem_cons_self]
              · rw [if_neg z]
            rw [List.foldl_cons, ih _ fun i hi => by rw [hs]; exact h i (List.mem_cons_of_mem _ hi), hs]
        exact (aux (tnm t) K2 fun i hi => hown i (hmem i hi)).symm
      have w1 : Ev.wipe sl1 own = Ev.wipe ρ1.sl own := (Ev.wipe_asg ha ht).trans (Ev.wipe_wipe _ _)
      refine ⟨hw, ?_⟩
      split at ec
      · cases ec
      · rename_i ρa hb
        have hb' := Ev.boolR_some hb
        have sa : ρa.sl = sl1 := Ev.pure_slA Γ cond _ _ _ pc hb'
        refine ⟨g, ⟨sl1, s⟩, _, false, ρa, Rk, hb', fun g' H3 R3 => ?_⟩
        refine iteF ?_
        have := R3.wipeS own
        rw [hw, sa, w1] at this
        rw [sa, w1] at ec
        exact ⟨hlt, g', ρa.src, acc, rest, this, ec, ea⟩
      · rename_i ρa hb
        have hb' := Ev.boolR_some hb
        have sa : ρa.sl = sl1 := Ev.pure_slA Γ cond _ _ _ pc hb'
        split at ec
        · cases ec
        · rename_i dy ρb hy
          have sb : ρb.sl = ρa.sl := Ev.pure_sl Γ elt _ _ _ pe hy
          split at ec
          · cases ec
          · rename_i ds' ρc hr
            split at ec
            · cases ec
              refine ⟨g, ⟨sl1, s⟩, _, true, ρa, Rk, hb', fun g' H3 R3 => ?_⟩
              refine iteT ?_
              refine ⟨g', ρa, _, dy, ρb, R3, hy, fun g'' yv H4 R4 => ?_⟩
              obtain ⟨vs, h1, h2, R5⟩ := R4.grow
              have R6 := R5.wipeS own
              rw [hw, sb, sa, w1] at R6
              rw [sb, sa, w1] at hr
              refine ⟨vs, h1, ?_, hlt, g'', ρb.src, acc ++ [dy], ds', R6, hr, by rw [← ea]; simp⟩
              rw [h2]
              rw [← ea, List.length_append, List.length_cons] at hlim
              rw [lim_line] at hlim
              omega
            · cases ec
  · have hie : i = xs.length := by omega
    subst hie
    refine .inl ⟨wk.stops g H gv, ?_⟩
    rw [List.drop_length] at ec
    cases ec
    rw [List.append_nil] at ea
    subst ea
    have hsv : ∀ j ∈ own, ∀ d, getS ρ1.sl j = some d → ∃ v, σ[j]? = some (some v) ∧ Fz c.P c.w c.K g.F v d := fun j hj d hd => by
      obtain ⟨v, h1, h2⟩ := R2.sl j d hd
      refine ⟨v, h1, ?_⟩
      have hm := mem_saved hj hd h1
      obtain ⟨pre, post, hsp⟩ := List.append_of_mem hm
      have := Rel.at (ts' := ts ++ tw ++ pre) (t := (.fz, d, v)) (ts'' := post ++ [(.own, .list acc, .ref Dd)]) Rw (by rw [hsp]; simp)
      exact this
    have Rm : Rel c g K2 ⟨Ev.wipe ρ1.sl own, s⟩ (ts ++ (tw ++ saved ρ1 σ own) ++ [(.own, .list acc, .ref Dd)]) (L2.wipe σ own) H := by rw [← List.append_assoc]; exact Rw
    obtain ⟨g', f1, f2, Rn⟩ := Rm.mid
    have Ru := Rn.unwipe hown fun j hj d hd => by
      obtain ⟨v, h1, h2⟩ := hsv j hj d hd
      exact ⟨v, h1, h2.mono f1⟩
    exact q g' (.ref Dd) H Ru
end
end EvS
set_option linter.all false
set_option Elab.async false
set_option maxRecDepth 100000
set_option maxHeartbeats 4000000
/-! EvN: calls: the promise of a def by its evaluation; the state ahead of and behind a call. -/
namespace EvS
open PySem PySem.Spec PyProof.Rows L2 EvK
open Ev (D E S Tgt Ste Src getS Calls)

/-! ### defs where the guards are known (none runs) -/
structure FnG (P : Program) (w : World) (K : PySem.W.Frag) (mg : Str → Option Value) (base : Heap) (k : Nat) (f : Addr) (fd : FuncData) (ps : List Str) (sp : Sp) : Prop where
  len : ∀ vs H Q E, sp vs H Q E → vs.length = ps.length
  run : ∀ (A : Around) (outer : List Env) (s : Shared) (H : Hp) (args : Args) (us : List Value) (vs : List V) (Q : VK) (E : XK), A.guards = some [] → Room k A → Env0 P w K mg base A outer s H → BindsTo s fd args (ps.zip us) → Vals vs us → sp vs H Q E →
    codeAny (model P w) A (.call (.ref f) args) (CR CX0 outer P w H s Q E) s
theorem FnG.mono {P : Program} {w : World} {K : PySem.W.Frag} {mg : Str → Option Value} {base : Heap} {j k : Nat} {f : Addr} {fd : FuncData} {ps : List Str} {sp : Sp} (F : FnG P w K mg base j f fd ps sp) (h : j ≤ k) : FnG P w K mg base k f fd ps sp :=
  ⟨F.len, fun A outer s H args us vs Q E hg hr => F.run A outer s H args us vs Q E hg (hr.mono h)⟩
theorem FnG.imp {P : Program} {w : World} {K : PySem.W.Frag} {mg : Str → Option Value} {base : Heap} {k : Nat} {f : Addr} {fd : FuncData} {ps : List Str} {sp sp' : Sp} (F : FnG P w K mg base k f fd ps sp) (h : ∀ vs H Q E, sp' vs H Q E → sp vs H Q E) : FnG P w K mg base k f fd ps sp' :=
  ⟨fun vs H Q E q => F.len vs H Q E (h _ _ _ _ q), fun A outer s H args us vs Q E hg hr he hb hv hs => F.run A outer s H args us vs Q E hg hr he hb hv (h _ _ _ _ hs)⟩
/-- a def of the text: its body's rules where no guard runs -/
theorem FnG.of {P : Program} {w : World} {K : PySem.W.Frag} {mg : Str → Option Value} {base : Heap} {x qual : Str} {st : Stmt} {f : Addr} {fd : FuncData} {N ps : List Str} {k : Nat} {sp : Sp} (F : Fun K x qual st f fd) (S : FnScope N ps (defScope st)) (len : ∀ vs H Q E, sp vs H Q E → vs.length = ps.length)
    (hbody : ∀ (cdv : Value) (A : Around) (outer : List Env) (s : Shared) (H : Hp) (vs : List V) (Q : VK) (E : XK), (A.deeper (envOfC qual (defScope st) s.heap.objs.size f cdv)).guards = some [] → Room k (A.deeper (envOfC qual (defScope st) s.heap.objs.size f cdv)) → sp vs H Q E →
      ∃ t, PSs (cxOf CX0 P w K mg base N qual (defScope st) f cdv A outer s H E).nox (defBody st) t ∧ t { nx := fun _ H' => Q .non H', rt := Q } (start N vs) H) : FnG P w K mg base (k + 1) f fd ps sp := by
  obtain ⟨oc, od, kV, doc, pm, an, cdv, ct, osl, rfl, lk, hcd⟩ := F.ex
  refine ⟨len, fun A outer s H args us vs Q E hg hr e0 hb r hsp => ?_⟩
  have hl := len _ _ _ _ hsp
  have KX : K.In s.heap := e0.mod.kin.keeps fun b o e => (e0.bs b o e).1
  have nl : s.heap.NoLimit := e0.mod.nolimit.keeps fun b o e => (e0.bs b o e).1
  have hkind : ∀ y ∈ ps.zip us, (defScope st).names.lookup y.1 = some .local ∨ ((defScope st).names.lookup y.1 = some .cell ∧ ((cellsFrom (s.heap.objs.size + 1) (defScope st).names []).lookup y.1).isSome = true) := fun ⟨n, v⟩ hy => by
    rcases S.par n (List.of_mem_zip hy).1 with q | q
    · exact .inl q
    · exact .inr ⟨q, PySem.W.cellsFrom_some _ _ _ (.inl q)⟩
  refine codeAny_call_function hr.depth (KX _ _ lk) rfl S.co S.gen rfl (PySem.W.codeRec_of KX hcd) (hb _ _ _ _ ?_)
  refine wpAny_newFunctionEnv_cells S.kind hkind fun env he s1 y => ?_
  subst he
  refine ⟨nl.keeps y.toInCall.keep, codeAny_func ?_⟩
  obtain ⟨t, ht, hq⟩ := hbody cdv A outer s H vs Q E hg (hr.deeper _) hsp
  have I : Inv (cxOf CX0 P w K mg base N qual (defScope st) f cdv A outer s H E) [] (start N vs) H s1 := inv_start S hr.hd e0 hl r y
  refine wpAny_mono (ht.nox.run [] s1 (start N vs) H _ I hq) (fun fl s' hs => ?_) fun e s' hs => hs
  have fin : ∀ {σ' : L2.St} {H' : Hp} {v : V} {u : Value}, Inv (cxOf CX0 P w K mg base N qual (defScope st) f cdv A outer s H E) [] σ' H' s' → RelV v u → Q v H' → CE outer P w H s Q u s' :=
    fun {σ' H' v u} J rv q => ⟨v, H', J.os, J.bare, J.base, J.hok, rv, q⟩
  cases fl with
  | ret u =>
    obtain ⟨v, σ', H', J, rv, q⟩ := hs
    exact fin J rv q
  | next =>
    obtain ⟨σ', H', J, q⟩ := hs
    exact fin (v := V.non) (u := Value.none) J rfl q
  | brk =>
    obtain ⟨_, _, _, q⟩ := hs
    exact False.elim q
  | cont =>
    obtain ⟨_, _, _, q⟩ := hs
    exact False.elim q
section
variable {X : Cx} {k : Nat} {f : Addr} {fd : FuncData} {ps : List Str} {sp : Sp} {x : Str} {p pos : Pos} {e : Expr} {es : List Expr} {t : TA}
theorem run_fnG {pins : List (Addr × Obj)} {σ : L2.St} {H : Hp} {s : Shared} {Q : VK} {us : List Value} {vs : List V} (F : FnG X.prog X.w X.K X.mg X.base k f fd ps sp) (hg : X.A.guards = some []) (hr : Room k X.A) (hb : Binds X.K fd ps [])
    (I : Inv X pins σ H s) (r : Vals vs us) (h : sp vs H Q E0) : wpAny (model X.prog X.w) X.A (call (.ref f) us) (EP X pins σ Q) X.xe s := by
  have hl : us.length = ps.length := by rw [← r.length]; exact F.len _ _ _ _ h
  have hb' := hb s us I.kIn (by simpa using hl)
  rw [List.append_nil] at hb'
  refine wpAny_call (codeAny_mono (F.run X.A X.stack s H ⟨us, []⟩ us vs Q E0 hg hr I.env0 hb' r h) fun r s' hq => ?_)
  cases r with
  | error e => exact hq.elim
  | ok fl =>
    cases fl with
    | ret u => exact I.after hq
    | next => exact False.elim hq
    | brk => exact False.elim hq
    | cont => exact False.elim hq
def tCallG (sp : Sp) (t : TA) : TE := fun σ H Q => t σ H fun vs H1 => sp vs H1 Q E0
theorem pe_callG (F : FnG X.prog X.w X.K X.mg X.base k f fd ps sp) (hgd : X.A.guards = some []) (hr : Room k X.A) (hg : Gl X x) (hm : X.mg x = some (.ref f)) (hk : PySem.W.keepIn X.K (.ref f) = true) (hb : Binds X.K fd ps [])
    (ha : PA X (e :: es) t) (hdb : (x == ("__debug__" : Str)) = false) (hs : (e :: es).all nos = true) : PE X (.Call (.Name x p) (e :: es) [] pos) (tCallG sp t) := by
  refine ⟨fun pins s σ H Q I h => ?_⟩
  refine wpAny_Call_Name_kw (ld_glob I hg hm ?_ hdb)
  simp only [List.all_cons, Bool.and_eq_true] at hs
  refine PySem.W.callWith_K (h₀ := X.base) I.ok.mod.kin hk (thn (ha.run pos pins s σ H _ I h) fun us s1 ⟨vs, H1, I1, r, q⟩ => ⟨I1.kIn, ?_⟩) (star_nos hs.1) (plain_any (by simpa using hs.2))
  exact run_fnG F hgd hr hb I1 r q
end

/-! ### the promise of a def -/
def spF (P : Program) (w : World) (K : PySem.W.Frag) (Γ : Calls) (f : String) (hs : Bool) (rk : Kd) (n : Nat) : Sp := fun vs H Q _ => ∃ (c' : Ct) (s : Src) (vs' : List V) (ds : List D) (d : D) (s' : Src), c'.P = P ∧ c'.w = w ∧ c'.K = K ∧ c'.hs = hs ∧
  Rel c' ⟨c'.F0, fun _ => none⟩ [] ⟨[], s⟩ [] [] H ∧ vs = (if hs then [.ref c'.aS] else []) ++ vs' ∧ vs.length = n ∧ FzA P w K c'.F0 vs' ds ∧ Γ f ds (if hs then s else {}) = some (d, s') ∧
  ∀ g Ks ρ σ H' v, Rel c' g Ks ρ [(rk, d, v)] σ H' → ρ.src = (if hs then s' else s) → Q v H'
section
variable {c : Ct} {X : Cx} {g : Gh} {Ks : List Kd} {ρ : Ste} {ts : List Tm} {σ : L2.St} {H : Hp} {Γ : Calls}
/-- the callee's fixed part -/
def Ct.call (c : Ct) (g : Gh) (H : Hp) (hs : Bool) : Ct := ⟨c.P, c.w, c.K, fun a => if hs = true ∧ (a = c.aS ∨ a = c.aC) then none else H a, g.F, hs, c.aS, c.aC⟩
theorem Rel.enter (R : Rel c g Ks ρ ts σ H) {hs : Bool} (h : hs = true → c.hs = true) : Rel (c.call g H hs) ⟨g.F, fun _ => none⟩ [] ⟨[], ρ.src⟩ [] [] H := by
  refine ⟨R.fh, fun a x e => ?_, Same.refl _, fun a _ => rfl, rfl, fun i d e => ?_, fun j t e => ?_, fun a o e => (nomatch e), fun hs' => ?_⟩
  · have e : (if hs = true ∧ (a = c.aS ∨ a = c.aC) then none else H a) = some x := e
    split at e
    · cases e
    · exact e
  · simp [getS] at e
  · simp at e
  · have hs' : hs = true := hs'
    obtain ⟨h0, h1, h2, h3, h4, h5, h6, h7⟩ := R.src (h hs')
    exact ⟨h0, h1, h2, h3, if_pos ⟨hs', .inl rfl⟩, if_pos ⟨hs', .inr rfl⟩, rfl, rfl⟩
theorem Rel.back (R : Rel c g Ks ρ ts σ H) {hs : Bool} (h : hs = true → c.hs = true) {g' : Gh} {K' : List Kd} {ρ' : Ste} {rk : Kd} {d : D} {v : V} {σ' : L2.St} {H' : Hp} (hk : rk ≠ .src) (R' : Rel (c.call g H hs) g' K' ρ' [(rk, d, v)] σ' H') :
    ∃ g2, Rel c g2 Ks ⟨ρ.sl, if hs then ρ'.src else ρ.src⟩ (ts ++ [(rk, d, v)]) σ H' := by
  have hB : ∀ a, (c.call g H hs).B a = if hs = true ∧ (a = c.aS ∨ a = c.aC) then none else H a := fun _ => rfl
  -- what stands and is not the source stays
  have keep : ∀ a x, H a = some x → ¬ (hs = true ∧ (a = c.aS ∨ a = c.aC)) → H' a = some x := fun a x e n => R'.bh a x (by rw [hB, if_neg n]; exact e)
  have notS : ∀ a, c.B a ≠ none → ¬ (hs = true ∧ (a = c.aS ∨ a = c.aC)) := fun a hb ⟨h1, h2⟩ => by
    obtain ⟨_, _, _, _, h4, h5, _, _⟩ := R.src (h h1)
    rcases h2 with rfl | rfl
    · exact hb h4
    · exact hb h5
  have owS : ∀ a o, g.ow a = some o → ¬ (hs = true ∧ (a = c.aS ∨ a = c.aC)) := fun a o ho ⟨h1, h2⟩ => by
    obtain ⟨_, _, _, _, _, _, h6, h7⟩ := R.src (h h1)
    rcases h2 with rfl | rfl
    · rw [h6] at ho; cases ho
    · rw [h7] at ho; cases ho
  -- the new owner's thing is new
  have newA : ∀ a, g'.ow a = some (.tm 0) → g.ow a = none ∧ c.B a = none ∧ g'.F a = none ∧ H' a ≠ none := fun a ha => by
    obtain ⟨h1, h2, h3⟩ := R'.ow a _ ha
    rw [hB] at h2
    refine ⟨?_, ?_, h1, h3⟩
    · cases e : g.ow a with
      | none => rfl
      | some o =>
        rw [if_neg (owS a o e)] at h2
        exact absurd h2 (R.ow a o e).2.2
    · cases e : c.B a with
      | none => rfl
      | some x =>
        have n := notS a (by rw [e]; simp)
        rw [if_neg n, R.bh a x e] at h2
        cases h2
  let ow2 : Addr → Option Ow := fun a => if g'.ow a = some (.tm 0) then some (.tm ts.length) else g.ow a
  have old : ∀ {o : Ow}, ∀ a, g.ow a = some o → ow2 a = some o ∧ H' a = H a := fun {o} a e => by
    have n : ¬ g'.ow a = some (.tm 0) := fun z => by rw [(newA a z).1] at e; cases e
    refine ⟨by show (if _ then _ else _) = _; rw [if_neg n]; exact e, ?_⟩
    cases q : H a with
    | none => exact absurd q (R.ow a o e).2.2
    | some x => exact keep a x q (owS a o e)
  refine ⟨⟨g'.F, ow2⟩, R'.fh, fun a x e => ?_, R.ff.trans R'.ff, fun a hb => ?_, R.len, fun i d e => ?_, fun j t e => ?_, fun a o e => ?_, fun hs' => ?_⟩
  · exact keep a x (R.bh a x e) (notS a (by rw [e]; simp))
  · have n := notS a hb
    have hH : H a ≠ none := fun z => hb (R.bh.free z)
    show g'.F a = c.F0 a
    rw [R'.fb a (by rw [hB, if_neg n]; exact hH)]
    exact R.fb a hb
  · obtain ⟨u, h1, h2⟩ := R.sl i d e
    exact ⟨u, h1, h2.mono R'.ff old⟩
  · rcases getElem?_snoc e with ⟨e, hj⟩ | ⟨rfl, rfl⟩
    · exact (R.tm j t e).mono R'.ff old
    · have ht := R'.tm 0 (rk, d, v) rfl
      cases rk with
      | fz => exact ht
      | own =>
        rcases ht with ⟨h1, h2⟩ | ⟨a, h1, h2, h3⟩
        · exact .inl ⟨h1, h2⟩
        · exact .inr ⟨a, h1, if_pos h2, h3⟩
      | src => exact absurd rfl hk
  · have e : (if g'.ow a = some (.tm 0) then some (Ow.tm ts.length) else g.ow a) = some o := e
    by_cases z : g'.ow a = some (.tm 0)
    · obtain ⟨_, h2, h3, h4⟩ := newA a z
      exact ⟨h3, h2, h4⟩
    · rw [if_neg z] at e
      obtain ⟨h1, h2, h3⟩ := R.ow a o e
      refine ⟨?_, h2, by rw [(old a e).2]; exact h3⟩
      show g'.F a = none
      rw [R'.fb a (by rw [hB, if_neg (owS a o e)]; exact h3)]
      exact h1
  · obtain ⟨h0, h1, h2, h3, h4, h5, h6, h7⟩ := R.src hs'
    have o2 : ∀ a, g.ow a = none → (H a ≠ none) → (hs = true ∧ (a = c.aS ∨ a = c.aC) → g'.ow a = none) → ow2 a = none := fun a e hn hq => by
      show (if g'.ow a = some (.tm 0) then _ else g.ow a) = none
      by_cases z : g'.ow a = some (.tm 0)
      · exfalso
        obtain ⟨_, b2, _⟩ := R'.ow a _ z
        rw [hB] at b2
        by_cases n : hs = true ∧ (a = c.aS ∨ a = c.aC)
        · rw [hq n] at z; cases z
        · rw [if_neg n] at b2; exact hn b2
      · rw [if_neg z]; exact e
    cases hs with
    | true =>
      obtain ⟨k0, k1, k2, k3, k4, k5, k6, k7⟩ := R'.src rfl
      exact ⟨k0, h1, k2, k3, h4, h5, o2 _ h6 (by rw [h0.1]; simp) fun _ => k6, o2 _ h7 (by rw [h0.2]; simp) fun _ => k7⟩
    | false =>
      have nf : ∀ a, ¬ (false = true ∧ (a = c.aS ∨ a = c.aC)) := fun a z => Bool.false_ne_true z.1
      have fF : ∀ a, H a ≠ none → g'.F a = g.F a := fun a hn => R'.fb a (by rw [hB, if_neg (nf a)]; exact hn)
      exact ⟨⟨keep _ _ h0.1 (nf _), keep _ _ h0.2 (nf _)⟩, h1, by rw [show (Gh.mk g'.F ow2).F c.aS = g'.F c.aS from rfl, fF _ (by rw [h0.1]; simp)]; exact h2, by rw [show (Gh.mk g'.F ow2).F c.aC = g'.F c.aC from rfl, fF _ (by rw [h0.2]; simp)]; exact h3, h4, h5,
        o2 _ h6 (by rw [h0.1]; simp) fun z => absurd z (nf _), o2 _ h7 (by rw [h0.2]; simp) fun z => absurd z (nf _)⟩
end
end EvS
set_option linter.all false
set_option Elab.async false
set_option maxRecDepth 100000
set_option maxHeartbeats 8000000
/-! EvY: expressions matched with their text; the match is sound. -/
namespace EvS
open PySem PySem.Spec PyProof.Rows L2 EvK
open Ev (D E S Tgt Ste Src getS restore flatK tupK dget dset dsetAll okK lim isInts isBls seqD pairsD evE evV evAnd evOr boolR Calls tyD asgT asgTs tnm tnms compL pureE pureEs Bi biD)

/-! ### what is fixed of a def's text -/
structure SS where
  N : List Str
  /-- defs that are called: name, whether the source goes ahead, how many values go with it -/
  fs : List (String × Bool × Nat)
  rk : String → Kd
  /-- names of builtins that no module's name hides -/
  bl : List Str
structure Cn where
  sc : Scope
  fn : Str → Bool
def visB (sc : Scope) (x : Str) : Bool := match sc.names.lookup x with
  | some .local => true
  | some .cell => true
  | some .free => true
  | _ => false
theorem visB_vis {sc : Scope} {x : Str} (h : visB sc x = true) : Vis sc x := by
  unfold visB at h
  split at h
  · exact .inl ‹_›
  · exact .inr (.inl ‹_›)
  · exact .inr (.inr ‹_›)
  · cases h
def nameB (S : SS) (n : Cn) (i : Nat) (x : Str) : Bool := decide (S.N[i]? = some x) && visB n.sc x && !(x == ("__debug__" : Str)) && !(x == ("__classdict__" : Str))
def glB (n : Cn) (x : Str) : Bool := decide (n.sc.names.lookup x = some .globalImplicit) && !(x == ("__debug__" : Str)) && !(x == ("__name__" : Str))
/-- a name to store in -/
def locB (S : SS) (n : Cn) (i : Nat) (x : Str) : Bool := decide (S.N[i]? = some x) && (decide (n.sc.names.lookup x = some .local) || (decide (n.sc.names.lookup x = some .cell) && n.fn x))
structure CallF (c : Ct) (X : Cx) (Γ : Calls) (f : String) (hs : Bool) (rk : Kd) (n : Nat) : Prop where
  ex : ∃ (fa : Addr) (fd : FuncData) (ps : List Str) (k : Nat), X.mg f = some (.ref fa) ∧ FnG X.prog X.w X.K X.mg X.base k fa fd ps (spF c.P c.w c.K Γ f hs rk (n + if hs then 1 else 0)) ∧ Room k X.A ∧ PySem.W.keepIn X.K (.ref fa) = true ∧ Binds X.K fd ps []
structure Sd (c : Ct) (X : Cx) (S : SS) (Γ : Calls) : Prop where
  ft : Fit c X
  N : X.N = S.N
  nd : X.N.Nodup
  bl : ∀ x ∈ S.bl, X.mg x = none
  fn : ∀ f hs n, (f, hs, n) ∈ S.fs → CallF c X Γ f hs (S.rk f) n
  rk : ∀ f, S.rk f ≠ .src
structure Here (X : Cx) (n : Cn) : Prop where
  sc : X.env.scope = n.sc
  fn : X.fn = n.fn
section
variable {c : Ct} {X : Cx} {S : SS} {Γ : Calls} {n : Cn}
theorem Sd.blk (h : Sd c X S Γ) (s : Shared) (H : Hp) (scope : Scope) (cenv : Env) (fp : List Addr) : Sd c (X.blk s H scope cenv fp) S Γ :=
  ⟨⟨h.ft.gd, h.ft.P, h.ft.w, h.ft.K, h.ft.units, h.ft.calm⟩, h.N, h.nd, h.bl, fun f hs n hm => ⟨(h.fn f hs n hm).ex⟩, h.rk⟩
theorem pe_nameB (sd : Sd c X S Γ) (hh : Here X n) {i : Nat} {x : Str} {pos : Pos} (h : nameB S n i x = true) : PE X (.Name x pos) (tVar i) := by
  unfold nameB at h
  simp only [Bool.and_eq_true, decide_eq_true_eq, Bool.not_eq_true'] at h
  exact pe_var (by rw [sd.N]; exact h.1.1.1) (by rw [hh.sc]; exact visB_vis h.1.1.2) h.1.2 h.2
theorem glB_gl (hh : Here X n) {x : Str} (h : glB n x = true) : Gl X x ∧ (x == ("__debug__" : Str)) = false ∧ x ≠ "__name__" := by
  unfold glB at h
  simp only [Bool.and_eq_true, decide_eq_true_eq, Bool.not_eq_true'] at h
  refine ⟨?_, h.1.2, fun z => ?_⟩
  · show X.env.scope.names.lookup x = _
    rw [hh.sc]; exact h.1.1
  · subst z; simp at h
end

/-! ### builtins by name -/
def biB : Bi → Option String
  | .len => some "len"
  | .abs => some "abs"
  | .max2 => some "max"
  | .min2 => some "min"
  | .sum => some "sum"
  | .all => some "all"
  | .any => some "any"
  | .sorted => some "sorted"
  | .repr => some "repr"
  | _ => none
def biT : Bi → Option String
  | .int => some "int"
  | .list => some "list"
  | .tuple => some "tuple"
  | .dict => some "dict"
  | _ => none
def biI : Bi → Option String
  | .isInt => some "int"
  | .isBool => some "bool"
  | .isTuple => some "tuple"
  | .isStr => some "str"
  | .isList => some "list"
  | _ => none
theorem biB_ok {c : Ct} {X : Cx} (ft : Fit c X) : ∀ {b : Bi} {nm : String}, biB b = some nm → CallR X (.builtin nm) (bF c (biD b)) ∧ bootBuiltins nm = some (.builtin nm)
  | .len, _, e => by cases e; exact ⟨len_ok ft, by decide +kernel⟩
  | .abs, _, e => by cases e; exact ⟨abs_ok, by decide +kernel⟩
  | .max2, _, e => by cases e; exact ⟨max2_ok ft, by decide +kernel⟩
  | .min2, _, e => by cases e; exact ⟨min2_ok ft, by decide +kernel⟩
  | .sum, _, e => by cases e; exact ⟨sum_ok ft, by decide +kernel⟩
  | .all, _, e => by cases e; exact ⟨all_ok ft, by decide +kernel⟩
  | .any, _, e => by cases e; exact ⟨any_ok ft, by decide +kernel⟩
  | .sorted, _, e => by cases e; exact ⟨sorted_ok ft, by decide +kernel⟩
  | .repr, _, e => by cases e; exact ⟨repr_ok ft, by decide +kernel⟩
  | .maxL, _, e | .minL, _, e | .tuple, _, e | .list, _, e | .dict, _, e | .int, _, e | .str, _, e | .gcd, _, e | .isInt, _, e | .isBool, _, e | .isTuple, _, e | .isStr, _, e | .isList, _, e | .index, _, e | .count, _, e | .get1, _, e | .get2, _, e => by cases e
theorem biT_ok {c : Ct} {X : Cx} (ft : Fit c X) : ∀ {b : Bi} {nm : String}, biT b = some nm → CallR X (.type nm) (bF c (biD b)) ∧ bootBuiltins nm = some (.type nm)
  | .int, _, e => by cases e; exact ⟨int_ok, by decide +kernel⟩
  | .list, _, e => by cases e; exact ⟨list_ok ft, by decide +kernel⟩
  | .tuple, _, e => by cases e; exact ⟨tuple_ok ft, by decide +kernel⟩
  | .dict, _, e => by cases e; exact ⟨dict_ok ft, by decide +kernel⟩
  | .len, _, e | .abs, _, e | .max2, _, e | .min2, _, e | .sum, _, e | .all, _, e | .any, _, e | .sorted, _, e | .repr, _, e | .maxL, _, e | .minL, _, e | .str, _, e | .gcd, _, e | .isInt, _, e | .isBool, _, e | .isTuple, _, e | .isStr, _, e | .isList, _, e | .index, _, e | .count, _, e | .get1, _, e | .get2, _, e => by cases e
theorem biI_ok {c : Ct} {X : Cx} (ft : Fit c X) : ∀ {b : Bi} {nm : String}, biI b = some nm → CallR X (.builtin "isinstance") (isiF c nm (biD b)) ∧ bootBuiltins nm = some (.type nm)
  | .isInt, _, e => by cases e; exact ⟨isi_int ft, by decide +kernel⟩
  | .isBool, _, e => by cases e; exact ⟨isi_bool ft, by decide +kernel⟩
  | .isTuple, _, e => by cases e; exact ⟨isi_tuple ft, by decide +kernel⟩
  | .isStr, _, e => by cases e; exact ⟨isi_str ft, by decide +kernel⟩
  | .isList, _, e => by cases e; exact ⟨isi_list ft, by decide +kernel⟩
  | .len, _, e | .abs, _, e | .max2, _, e | .min2, _, e | .sum, _, e | .all, _, e | .any, _, e | .sorted, _, e | .repr, _, e | .maxL, _, e | .minL, _, e | .tuple, _, e | .list, _, e | .dict, _, e | .int, _, e | .str, _, e | .gcd, _, e | .index, _, e | .count, _, e | .get1, _, e | .get2, _, e => by cases e

/-! ### plain subscripts -/
def plainIx : Expr → Bool
  | .Name .. | .BinOp .. | .UnaryOp .. | .Call .. | .Constant .. | .Subscript .. | .IfExp .. => true
  | _ => false
theorem plainIx_ok {b : Expr} (h : plainIx b = true) : PlainIx b := by
  cases b <;> first | (intro _ _; rfl) | cases h
/-- forms whose truth is their value's -/
def isTst : E → Bool
  | .ite .. => false
  | _ => true
def noSet : Expr → Bool
  | .Set .. => false
  | _ => true
theorem noSet_ok {iter : Expr} (h : noSet iter = true) (env : Env) : ∀ x, foldedSetIterable iter env x = pure x := by
  cases iter <;> first | (intro _; rfl) | cases h
def isOpt (es : List E) : Bool := es.length ≤ 1

/-- the third of three is not borrowed -/
def no3 : List E → Bool
  | [_, _, e] => !isBv e
  | _ => false

/-! ### the match -/
mutual
def mT (S : SS) (n : Cn) : Tgt → Expr → Bool
  | .nm i, .Name x _ => locB S n i x
  | .tup ts, .Tuple es _ _ => mTs S n ts es
  | _, _ => false
def mTs (S : SS) (n : Cn) : List Tgt → List Expr → Bool
  | [], [] => true
  | t :: ts, e :: es => mT S n t e && mTs S n ts es
  | _, _ => false
end
def ownN (S : SS) (own : List Nat) : List (Str × Nat) := own.map fun i => (S.N.getD i (Str.ofString ""), i)
def blkN (n : Cn) (scope : Scope) : Cn := ⟨relS scope n.sc, fun x => scope.names.lookup x == some .cell⟩
mutual
def mE (S : SS) : E → Cn → List Kd → Expr → Bool
  | .var i, n, K, ast => (match ast with
    | .Name x _ => nameB S n i x && decide (K.getD i .fz ≠ .src)
    | _ => false)
  | .int i, n, K, ast => (match ast with
    | .Constant (.int j) _ _ => decide (i = j)
    | _ => false)
  | .bl b, n, K, ast => (match ast with
    | .Constant (.bool d) _ _ => decide (b = d)
    | _ => false)
  | .non, n, K, ast => (match ast with
    | .Constant .none _ _ => true
    | _ => false)
  | .str s, n, K, ast => (match ast with
    | .Constant (.str x) _ _ => decide (Str.ofString s = x)
    | _ => false)
  | .bin o es, n, K, ast => (match ast with
    | .BinOp x op y _ => decide (op = opOf o) && bvOk es K && mV S es n K [x, y]
    | _ => false)
  | .neg a, n, K, ast => (match ast with
    | .UnaryOp .USub x _ => !isBv a && mE S a n K x
    | _ => false)
  | .cmp o es, n, K, ast => (match ast with
    | .Compare x [op] [y] _ => decide (op = copOf o) && !behindInMarks op y && bvOk es K && mV S es n K [x, y]
    | _ => false)
  | .chain o o' es z, n, K, ast => (match ast with
    | .Compare x [op, op'] [y, w] _ => decide (op = copOf o) && decide (op' = copOf o') && !lastMarks [op, op'] [y, w] && es.all (fun e => !isBv e) && mV S es n K [x, y] && !isBv z && mE S z n (kEs es K) w && leK (kE z (kEs es K)) (kEs es K)
    | _ => false)
  | .and es, n, K, ast => (match ast with
    | .BoolOp .And vs _ => !es.isEmpty && mA S es n K vs
    | _ => false)
  | .or es, n, K, ast => (match ast with
    | .BoolOp .Or vs _ => !es.isEmpty && mA S es n K vs
    | _ => false)
  | .not a, n, K, ast => (match ast with
    | .UnaryOp .Not x _ => isTst a && !isBv a && mE S a n K x
    | _ => false)
  | .ite t a b, n, K, ast => (match ast with
    | .IfExp x y z _ => isTst t && !isBv t && !isBv a && !isBv b && mE S t n K x && mE S a n (kE t K) y && mE S b n (kE t K) z && leK (kE b (kE a (kE t K))) (kE a (kE t K)) && leK (kE b (kE a (kE t K))) (kE b (kE t K))
    | _ => false)
  | .tup es, n, K, ast => (match ast with
    | .Tuple xs _ _ => es.all (fun e => !isBv e) && decide (es.length ≤ 1000) && bvOk es K && mV S es n K xs
    | _ => false)
  | .lst es, n, K, ast => (match ast with
    | .List xs _ => es.all (fun e => !isBv e) && decide (es.length ≤ 1000) && bvOk es K && mV S es n K xs
    | _ => false)
  | .dic, n, K, ast => (match ast with
    | .Dict [] [] _ => true
    | _ => false)
  | .idx es, n, K, ast => (match ast with
    | .Subscript x y _ => plainIx y && bvOk es K && mV S es n K [x, y]
    | _ => false)
  | .slc lo hi es, n, K, ast => (match lo, hi, ast with
    | false, false, .Subscript x (.Slice none none none _) _ => bvOk es K && mV S es n K [x]
    | true, false, .Subscript x (.Slice (some l) none none _) _ => bvOk es K && mV S es n K [x, l]
    | false, true, .Subscript x (.Slice none (some h) none _) _ => bvOk es K && mV S es n K [x, h]
    | true, true, .Subscript x (.Slice (some l) (some h) none _) _ => bvOk es K && mV S es n K [x, l, h]
    | _, _, _ => false)
  | .rev es, n, K, ast => (match ast with
    | .Subscript x (.Slice none none (some (.UnaryOp .USub (.Constant (.int i) _ _) _)) _) _ => decide (i = 1) && bvOk es K && mV S es n K [x]
    | _ => false)
  | .comp own t it cond elt, n, K, ast => (match ast with
    | .ListComp x [⟨tg, iter, ifs, 0⟩] scope _ =>
      let K2 := kE (.comp own t it cond elt) K
      noSet iter && (match it with
        | .enum es => (match tg, iter with | .Tuple _ _ _, .Call (.Name x _) [y] [] _ => decide (x = Str.ofString "enumerate") && glB n x && S.bl.contains x && nos y && bvOk es K && mV S es n K [y] | _, _ => false)
        | .rng1 a => (match iter with | .Call (.Name x _) [y] [] _ => decide (x = Str.ofString "range") && glB n x && S.bl.contains x && nos y && !isBv a && mE S a n K y | _ => false)
        | .rng2 es => (match iter with | .Call (.Name x _) [y, z] [] _ => decide (x = Str.ofString "range") && glB n x && S.bl.contains x && nos y && nos z && bvOk es K && mV S es n K [y, z] | _ => false)
        | .bv i => (match iter with | .Name x _ => nameB S n i x && decide (K.getD i .fz ≠ .src) | _ => false)
        | it => !isBv it && !itp it && decide (itv it = none) && mE S it n K iter) && blkC S.N n.sc scope (ownN S own) && mT S (blkN n scope) t tg && mA S cond (blkN n scope) K2 ifs && decide (cond.length ≤ 1) && !isBv elt && mE S elt (blkN n scope) K2 x &&
      leK K2 (kE it K) && decide (kEs cond K2 = K2) && decide (kE elt K2 = K2) && (own.all fun i => decide (K2.getD i .fz = .fz)) && pureEs cond && pureE elt && (tnm t).all own.contains && (!itp it || tupT t) &&
      (match itv it with | some i => !own.contains i && decide (K2.getD i .fz ≠ .src) | none => true)
    | _ => false)
  | .call f src es, n, K, ast => (match src, ast with
    | none, .Call (.Name x _) args [] _ => decide (x = Str.ofString f) && glB n x && S.fs.contains (f, false, es.length) && es.all (fun e => !isBv e) && bvOk es K && !args.isEmpty && mV S es n K args
    | (some i), .Call (.Name x _) (.Name y _ :: args) [] _ => decide (x = Str.ofString f) && glB n x && S.fs.contains (f, true, es.length) && es.all (fun e => !isBv e) && bvOk es K && nameB S n i y && decide (K.getD i .fz = .src) && mV S es n K args
    | _, _ => false)
  | .bi b es, n, K, ast => (match ast with
    | .Call (.Name x _) args [] _ => bvOk es K && glB n x && S.bl.contains x &&
      ((match biB b with | some nm => decide (x = Str.ofString nm) && !args.isEmpty && mV S es n K args | none => false) ||
       (match biT b with | some nm => decide (x = Str.ofString nm) && !args.isEmpty && mV S es n K args | none => false) ||
       (match biI b, args with | some nm, [a, .Name y _] => decide (x = Str.ofString "isinstance") && nos a && decide (y = Str.ofString nm) && glB n y && S.bl.contains y && mV S es n K [a] | _, _ => false))
    | .Call (.Attribute o nm apos) args [] cpos => bvOk es K && nos o && !args.isEmpty && decide (args.length < 30) && noSup o && (apos.endLine == cpos.line) && mV S es n K (o :: args) &&
      ((decide (b = .index) && decide (nm = Str.ofString "index")) || (decide (b = .get1) && decide (nm = Str.ofString "get")) || (decide (b = .get2) && decide (nm = Str.ofString "get") && no3 es))
    | _ => false)
  | .pop i, n, K, ast => (match ast with
    | .Call (.Attribute (.Name x _) nm apos) [] [] cpos => nameB S n i x && decide (nm = Str.ofString "pop") && (apos.endLine == cpos.line) && decide (K.getD i .fz = .own)
    | _ => false)
  | .popAt i e, n, K, ast => (match ast with
    | .Call (.Attribute (.Name x _) nm apos) [y] [] cpos => nameB S n i x && decide (nm = Str.ofString "pop") && (apos.endLine == cpos.line) && decide (K.getD i .fz ≠ .src) && !isBv e && nos y && mE S e n K y && decide ((kE e K).getD i .fz = .own)
    | _ => false)
  | .setd i es, n, K, ast => (match ast with
    | .Call (.Attribute (.Name x _) nm apos) [y, z] [] cpos => nameB S n i x && decide (nm = Str.ofString "setdefault") && (apos.endLine == cpos.line) && es.all (fun e => !isBv e) && bvOk es K && decide (K.getD i .fz ≠ .src) && mV S es n K [y, z] && decide ((kEs es K).getD i .fz = .own)
    | _ => false)
  | .bv _, _, _, _ | .enum _, _, _, _ | .zip _, _, _, _ | .rng1 _, _, _, _ | .rng2 _, _, _, _ | .items _, _, _, _ => false
def mV (S : SS) : List E → Cn → List Kd → List Expr → Bool
  | [], _, _, [] => true
  | .bv i :: es, n, K, .Name x _ :: bs => nameB S n i x && mV S es n K bs
  | e :: es, n, K, b :: bs => !isBv e && nos b && mE S e n K b && mV S es n (kE e K) bs
  | _, _, _, _ => false
/-- tests in a row -/
def mA (S : SS) : List E → Cn → List Kd → List Expr → Bool
  | [], _, _, [] => true
  | e :: es, n, K, b :: bs => isTst e && !isBv e && mE S e n K b && mA S es n (kE e K) bs && leK (kEs es (kE e K)) (kE e K)
  | _, _, _, _ => false
end

/-! ### the match form by form -/
section
variable {S : SS} {n : Cn} {K : List Kd} {ast : Expr}
theorem mE_var {i : Nat} : mE S (.var i) n K ast = (match ast with
    | .Name x _ => nameB S n i x && decide (K.getD i .fz ≠ .src)
    | _ => false) := rfl
theorem mE_int {i : Int} : mE S (.int i) n K ast = (match ast with
    | .Constant (.int j) _ _ => decide (i = j)
    | _ => false) := rfl
theorem mE_bl {b : Bool} : mE S (.bl b) n K ast = (match ast with
    | .Constant (.bool d) _ _ => decide (b = d)
    | _ => false) := rfl
theorem mE_non  : mE S (.non) n K ast = (match ast with
    | .Constant .none _ _ => true
    | _ => false) := rfl
theorem mE_str {s : String} : mE S (.str s) n K ast = (match ast with
    | .Constant (.str x) _ _ => decide (Str.ofString s = x)
    | _ => false) := rfl
theorem mE_bin {o : Ev.Bop} {es : List E} : mE S (.bin o es) n K ast = (match ast with
    | .BinOp x op y _ => decide (op = opOf o) && bvOk es K && mV S es n K [x, y]
    | _ => false) := rfl
theorem mE_neg {a : E} : mE S (.neg a) n K ast = (match ast with
    | .UnaryOp .USub x _ => !isBv a && mE S a n K x
    | _ => false) := rfl
theorem mE_cmp {o : Ev.Cop} {es : List E} : mE S (.cmp o es) n K ast = (match ast with
    | .Compare x [op] [y] _ => decide (op = copOf o) && !behindInMarks op y && bvOk es K && mV S es n K [x, y]
    | _ => false) := rfl
theorem mE_chain {o o' : Ev.Cop} {es : List E} {z : E} : mE S (.chain o o' es z) n K ast = (match ast with
    | .Compare x [op, op'] [y, w] _ => decide (op = copOf o) && decide (op' = copOf o') && !lastMarks [op, op'] [y, w] && es.all (fun e => !isBv e) && mV S es n K [x, y] && !isBv z && mE S z n (kEs es K) w && leK (kE z (kEs es K)) (kEs es K)
    | _ => false) := rfl
theorem mE_and {es : List E} : mE S (.and es) n K ast = (match ast with
    | .BoolOp .And vs _ => !es.isEmpty && mA S es n K vs
    | _ => false) := rfl
theorem mE_or {es : List E} : mE S (.or es) n K ast = (match ast with
    | .BoolOp .Or vs _ => !es.isEmpty && mA S es n K vs
    | _ => false) := rfl
theorem mE_not {a : E} : mE S (.not a) n K ast = (match ast with
    | .UnaryOp .Not x _ => isTst a && !isBv a && mE S a n K x
    | _ => false) := rfl
theorem mE_ite {t a b : E} : mE S (.ite t a b) n K ast = (match ast with
    | .IfExp x y z _ => isTst t && !isBv t && !isBv a && !isBv b && mE S t n K x && mE S a n (kE t K) y && mE S b n (kE t K) z && leK (kE b (kE a (kE t K))) (kE a (kE t K)) && leK (kE b (kE a (kE t K))) (kE b (kE t K))
    | _ => false) := rfl
theorem mE_tup {es : List E} : mE S (.tup es) n K ast = (match ast with
    | .Tuple xs _ _ => es.all (fun e => !isBv e) && decide (es.length ≤ 1000) && bvOk es K && mV S es n K xs
    | _ => false) := rfl
theorem mE_lst {es : List E} : mE S (.lst es) n K ast = (match ast with
    | .List xs _ => es.all (fun e => !isBv e) && decide (es.length ≤ 1000) && bvOk es K && mV S es n K xs
    | _ => false) := rfl
theorem mE_dic  : mE S (.dic) n K ast = (match ast with
    | .Dict [] [] _ => true
    | _ => false) := rfl
theorem mE_idx {es : List E} : mE S (.idx es) n K ast = (match ast with
    | .Subscript x y _ => plainIx y && bvOk es K && mV S es n K [x, y]
    | _ => false) := rfl
theorem mE_slc {lo hi : Bool} {es : List E} : mE S (.slc lo hi es) n K ast = (match lo, hi, ast with
    | false, false, .Subscript x (.Slice none none none _) _ => bvOk es K && mV S es n K [x]
    | true, false, .Subscript x (.Slice (some l) none none _) _ => bvOk es K && mV S es n K [x, l]
    | false, true, .Subscript x (.Slice none (some h) none _) _ => bvOk es K && mV S es n K [x, h]
    | true, true, .Subscript x (.Slice (some l) (some h) none _) _ => bvOk es K && mV S es n K [x, l, h]
    | _, _, _ => false) := rfl
theorem mE_rev {es : List E} : mE S (.rev es) n K ast = (match ast with
    | .Subscript x (.Slice none none (some (.UnaryOp .USub (.Constant (.int i) _ _) _)) _) _ => decide (i = 1) && bvOk es K && mV S es n K [x]
    | _ => false) := rfl
/-- the match of what is walked -/
def mIt (S : SS) (it : E) (n : Cn) (K : List Kd) (tg iter : Expr) : Bool := (match it with
        | .enum es => (match tg, iter with | .Tuple _ _ _, .Call (.Name x _) [y] [] _ => decide (x = Str.ofString "enumerate") && glB n x && S.bl.contains x && nos y && bvOk es K && mV S es n K [y] | _, _ => false)
        | .rng1 a => (match iter with | .Call (.Name x _) [y] [] _ => decide (x = Str.ofString "range") && glB n x && S.bl.contains x && nos y && !isBv a && mE S a n K y | _ => false)
        | .rng2 es => (match iter with | .Call (.Name x _) [y, z] [] _ => decide (x = Str.ofString "range") && glB n x && S.bl.contains x && nos y && nos z && bvOk es K && mV S es n K [y, z] | _ => false)
        | .bv i => (match iter with | .Name x _ => nameB S n i x && decide (K.getD i .fz ≠ .src) | _ => false)
        | it => !isBv it && !itp it && decide (itv it = none) && mE S it n K iter)
theorem mE_comp {own : List Nat} {t : Tgt} {it : E} {cond : List E} {elt : E} {x tg iter ifs scope p} : mE S (.comp own t it cond elt) n K (.ListComp x [⟨tg, iter, ifs, 0⟩] scope p) = (
      let K2 := kE (.comp own t it cond elt) K
      noSet iter && mIt S it n K tg iter && blkC S.N n.sc scope (ownN S own) && mT S (blkN n scope) t tg && mA S cond (blkN n scope) K2 ifs && decide (cond.length ≤ 1) && !isBv elt && mE S elt (blkN n scope) K2 x &&
      leK K2 (kE it K) && decide (kEs cond K2 = K2) && decide (kE elt K2 = K2) && (own.all fun i => decide (K2.getD i .fz = .fz)) && pureEs cond && pureE elt && (tnm t).all own.contains && (!itp it || tupT t) &&
      (match itv it with | some i => !own.contains i && decide (K2.getD i .fz ≠ .src) | none => true)) := by
  cases it <;> rfl
theorem mE_compF {own : List Nat} {t : Tgt} {it : E} {cond : List E} {elt : E} (h : mE S (.comp own t it cond elt) n K ast = true) : ∃ x tg iter ifs scope p, ast = .ListComp x [⟨tg, iter, ifs, 0⟩] scope p := by
  cases ast with
  | ListComp x gs scope p =>
    match gs with
    | [] => exact absurd (show false = true from h) Bool.false_ne_true
    | [⟨tg, iter, ifs, .ofNat 0⟩] => exact ⟨_, _, _, _, _, _, rfl⟩
    | [⟨tg, iter, ifs, .ofNat (m + 1)⟩] => exact absurd (show false = true from h) Bool.false_ne_true
    | [⟨tg, iter, ifs, .negSucc m⟩] => exact absurd (show false = true from h) Bool.false_ne_true
    | ⟨tg, iter, ifs, .ofNat 0⟩ :: _ :: _ => exact absurd (show false = true from h) Bool.false_ne_true
    | ⟨tg, iter, ifs, .ofNat (m + 1)⟩ :: _ :: _ => exact absurd (show false = true from h) Bool.false_ne_true
    | ⟨tg, iter, ifs, .negSucc m⟩ :: _ :: _ => exact absurd (show false = true from h) Bool.false_ne_true
  | _ => exact absurd (show false = true from h) Bool.false_ne_true
theorem mE_call {f : String} {src : Option Nat} {es : List E} : mE S (.call f src es) n K ast = (match src, ast with
    | none, .Call (.Name x _) args [] _ => decide (x = Str.ofString f) && glB n x && S.fs.contains (f, false, es.length) && es.all (fun e => !isBv e) && bvOk es K && !args.isEmpty && mV S es n K args
    | (some i), .Call (.Name x _) (.Name y _ :: args) [] _ => decide (x = Str.ofString f) && glB n x && S.fs.contains (f, true, es.length) && es.all (fun e => !isBv e) && bvOk es K && nameB S n i y && decide (K.getD i .fz = .src) && mV S es n K args
    | _, _ => false) := rfl
theorem mE_bi {b : Bi} {es : List E} : mE S (.bi b es) n K ast = (match ast with
    | .Call (.Name x _) args [] _ => bvOk es K && glB n x && S.bl.contains x &&
      ((match biB b with | some nm => decide (x = Str.ofString nm) && !args.isEmpty && mV S es n K args | none => false) ||
       (match biT b with | some nm => decide (x = Str.ofString nm) && !args.isEmpty && mV S es n K args | none => false) ||
       (match biI b, args with | some nm, [a, .Name y _] => decide (x = Str.ofString "isinstance") && nos a && decide (y = Str.ofString nm) && glB n y && S.bl.contains y && mV S es n K [a] | _, _ => false))
    | .Call (.Attribute o nm apos) args [] cpos => bvOk es K && nos o && !args.isEmpty && decide (args.length < 30) && noSup o && (apos.endLine == cpos.line) && mV S es n K (o :: args) &&
      ((decide (b = .index) && decide (nm = Str.ofString "index")) || (decide (b = .get1) && decide (nm = Str.ofString "get")) || (decide (b = .get2) && decide (nm = Str.ofString "get") && no3 es))
    | _ => false) := rfl
theorem mE_pop {i : Nat} : mE S (.pop i) n K ast = (match ast with
    | .Call (.Attribute (.Name x _) nm apos) [] [] cpos => nameB S n i x && decide (nm = Str.ofString "pop") && (apos.endLine == cpos.line) && decide (K.getD i .fz = .own)
    | _ => false) := rfl
theorem mE_popAt {i : Nat} {e : E} : mE S (.popAt i e) n K ast = (match ast with
    | .Call (.Attribute (.Name x _) nm apos) [y] [] cpos => nameB S n i x && decide (nm = Str.ofString "pop") && (apos.endLine == cpos.line) && decide (K.getD i .fz ≠ .src) && !isBv e && nos y && mE S e n K y && decide ((kE e K).getD i .fz = .own)
    | _ => false) := rfl
theorem mE_setd {i : Nat} {es : List E} : mE S (.setd i es) n K ast = (match ast with
    | .Call (.Attribute (.Name x _) nm apos) [y, z] [] cpos => nameB S n i x && decide (nm = Str.ofString "setdefault") && (apos.endLine == cpos.line) && es.all (fun e => !isBv e) && bvOk es K && decide (K.getD i .fz ≠ .src) && mV S es n K [y, z] && decide ((kEs es K).getD i .fz = .own)
    | _ => false) := rfl
theorem mE_bv {i : Nat} : mE S (.bv i) n K ast = false := rfl
theorem mE_enum {es : List E} : mE S (.enum es) n K ast = false := rfl
theorem mE_zip {es : List E} : mE S (.zip es) n K ast = false := rfl
theorem mE_rng1 {a : E} : mE S (.rng1 a) n K ast = false := rfl
theorem mE_rng2 {es : List E} : mE S (.rng2 es) n K ast = false := rfl
theorem mE_items {es : List E} : mE S (.items es) n K ast = false := rfl
theorem mV_nil : mV S [] n K [] = true := rfl
end
/-- what is walked -/
def mI (S : SS) : E → Cn → List Kd → Expr → Expr → Bool
  | .enum es, n, K, .Tuple _ _ _, .Call (.Name x _) [y] [] _ => decide (x = Str.ofString "enumerate") && glB n x && S.bl.contains x && nos y && bvOk es K && mV S es n K [y]
  | .rng1 a, n, K, _, .Call (.Name x _) [y] [] _ => decide (x = Str.ofString "range") && glB n x && S.bl.contains x && nos y && !isBv a && mE S a n K y
  | .rng2 es, n, K, _, .Call (.Name x _) [y, z] [] _ => decide (x = Str.ofString "range") && glB n x && S.bl.contains x && nos y && nos z && bvOk es K && mV S es n K [y, z]
  | .bv i, n, K, _, .Name x _ => nameB S n i x && decide (K.getD i .fz ≠ .src)
  | e, n, K, _, b => !isBv e && !itp e && decide (itv e = none) && mE S e n K b
theorem mI_of {S : SS} {it : E} {n : Cn} {K : List Kd} {tg iter : Expr} (h : (match it with
        | .enum es => (match tg, iter with | .Tuple _ _ _, .Call (.Name x _) [y] [] _ => decide (x = Str.ofString "enumerate") && glB n x && S.bl.contains x && nos y && bvOk es K && mV S es n K [y] | _, _ => false)
        | .rng1 a => (match iter with | .Call (.Name x _) [y] [] _ => decide (x = Str.ofString "range") && glB n x && S.bl.contains x && nos y && !isBv a && mE S a n K y | _ => false)
        | .rng2 es => (match iter with | .Call (.Name x _) [y, z] [] _ => decide (x = Str.ofString "range") && glB n x && S.bl.contains x && nos y && nos z && bvOk es K && mV S es n K [y, z] | _ => false)
        | .bv i => (match iter with | .Name x _ => nameB S n i x && decide (K.getD i .fz ≠ .src) | _ => false)
        | it => !isBv it && !itp it && decide (itv it = none) && mE S it n K iter) = true) : mI S it n K tg iter = true := by
  cases it <;> first | exact h | (simp only at h; split at h <;> first | exact h | cases h) | (unfold mI; simpa using h)
end EvS
set_option linter.all false
set_option Elab.async false
set_option maxRecDepth 100000
set_option maxHeartbeats 8000000
/-! EvZ: the forms, one by one. -/
namespace EvS
open PySem PySem.Spec PyProof.Rows L2 EvK
open Ev (D E S Tgt Ste Src getS restore flatK tupK dget dset dsetAll okK lim isInts isBls seqD pairsD evE evV evAnd evOr boolR Calls tyD asgT asgTs tnm tnms compL pureE pureEs Bi biD Bop Cop binD cmpD atD)
/-- operands with their readings -/
inductive PEs (X : Cx) (c : Ct) (Γ : Calls) : List E → List Kd → List Expr → Prop
  | nil {K : List Kd} : PEs X c Γ [] K []
  | cons {e : E} {es : List E} {K : List Kd} {b : Expr} {bs : List Expr} : PE X b (tO c Γ K e) → nos b = true → PEs X c Γ es (kE e K) bs → PEs X c Γ (e :: es) K (b :: bs)
section
variable {c : Ct} {X : Cx} {S : SS} {Γ : Calls} {n : Cn} {K : List Kd} {es : List E} {x y z : Expr} {bs : List Expr} {pos : Pos}
theorem PEs.pa (h : PEs X c Γ es K bs) : PA X bs (tNest c Γ es K) := by
  induction h with
  | nil => exact pa_nil
  | cons h hn _ ih => exact pa_cons h ih (star_nos hn)
theorem PEs.all (h : PEs X c Γ es K bs) : bs.all nos = true := by
  induction h with
  | nil => rfl
  | cons h hn _ ih => simp only [List.all_cons, Bool.and_eq_true]; exact ⟨hn, ih⟩
theorem PEs.one (h : PEs X c Γ es K [x]) : ∃ a, es = [a] ∧ PE X x (tO c Γ K a) := by
  cases h with
  | cons h1 _ t => cases t; exact ⟨_, rfl, h1⟩
theorem PEs.two (h : PEs X c Γ es K [x, y]) : ∃ a b, es = [a, b] ∧ PE X x (tO c Γ K a) ∧ PE X y (tO c Γ (kE a K) b) := by
  cases h with
  | cons h1 _ t => cases t with
    | cons h2 _ t => cases t; exact ⟨_, _, rfl, h1, h2⟩
theorem PEs.three (h : PEs X c Γ es K [x, y, z]) : ∃ a b d, es = [a, b, d] ∧ PE X x (tO c Γ K a) ∧ PE X y (tO c Γ (kE a K) b) ∧ PE X z (tO c Γ (kE b (kE a K)) d) := by
  cases h with
  | cons h1 _ t => cases t with
    | cons h2 _ t => cases t with
      | cons h3 _ t => cases t; exact ⟨_, _, _, rfl, h1, h2, h3⟩
theorem PE.opd {e : E} {kd : Kd} (hk : kd ≠ .src) (hb : isBv e = false) (h : PE X x (tF c K (kE e K) kd (evE Γ e))) : PE X x (tO c Γ K e) := by
  rw [tO_ne hb]
  exact PE.imp h fun σ H Q q => q.toFz hk
/-- a truth by its value -/
theorem PT.of {K' : List Kd} {kd : Kd} {f : Ev.R D} (hk : kd ≠ .src) (h : PE X x (tF c K K' kd f)) (he : ∀ whole, isTrue x X.env whole = (do let v ← whole; standAt x.pos; holding [v] (truthy v))) : PT X x (tBF c K K' f) := by
  refine PT.imp (pt_val h he) fun σ H Q q => ?_
  obtain ⟨g, ρ, ts, b, ρ', R, e, q⟩ := q
  refine ⟨g, ρ, ts, .bool b, ρ', R, e, fun g' v H' R' => ⟨b, ?_, q g' H' R'.drop⟩⟩
  have hv := R'.last
  exact View.bl ⟨_, kd, hk, hv⟩
/-- two operands, by the operator's rule -/
theorem two_imp {a b : E} {f : D → D → Option D} {kd : Kd} {r : R2} {Q : VK} {σ : L2.St} {H : Hp} (hb : bvOk [a, b] K = true)
    (hr : ∀ g Ks ρ ts H' d1 d2 d u v, Rel c g Ks ρ ts σ H' → View c g H' d1 u → View c g H' d2 v → f d1 d2 = some d → Pst c Ks ρ ts σ kd d Q → r u v H' Q)
    (h : ∃ g ρ ts d1 d2 d ρ', Rel c g K ρ ts σ H ∧ evV Γ [a, b] ρ = some ([d1, d2], ρ') ∧ f d1 d2 = some d ∧ Pst c (kEs [a, b] K) ρ' ts σ kd d Q) : tOp r (tO c Γ K a) (tO c Γ (kE a K) b) σ H Q := by
  obtain ⟨g, ρ, ts, d1, d2, d, ρ', R, ev, e, q⟩ := h
  have := nest_imp [a, b] K σ H (fun vs H2 => match vs with | [u, v] => r u v H2 Q | _ => False) hb ⟨g, ρ, ts, _, ρ', R, ev, fun g' vs H' R' ov => by
    obtain ⟨u, v, rfl, v1, v2⟩ := ov.two
    exact hr g' _ ρ' ts H' d1 d2 d u v R' v1 v2 e q⟩
  exact this
theorem f_bin (ft : Fit c X) (h : PEs X c Γ es K [x, y]) (hb : bvOk es K = true) (o : Bop) : PE X (.BinOp x (opOf o) y pos) (tF c K (kEs es K) .own (evE Γ (.bin o es))) := by
  obtain ⟨a, b, rfl, h1, h2⟩ := h.two
  refine PE.imp (pe_op (bin_ok ft o) h1 h2) fun σ H Q q => ?_
  obtain ⟨g, ρ, ts, d, ρ', R, e, q⟩ := q
  obtain ⟨⟨ds, ρ1⟩, ev, e⟩ := Option.bind_eq_some_iff.mp e
  dsimp only at e
  split at e
  · rename_i d1 d2
    obtain ⟨d', e1, e2⟩ := Option.map_eq_some_iff.mp e
    cases e2
    exact two_imp (f := binD o) hb (fun g Ks ρ ts H' d1 d2 d u v R v1 v2 e q => ⟨g, Ks, ρ, ts, σ, d1, d2, d, R, v1, v2, e, q⟩) ⟨g, ρ, ts, d1, d2, d, _, R, ev, e1, q⟩
  · cases e
theorem cmp_two {a b : E} {o : Cop} {σ : L2.St} {H : Hp} {Q : VK} (hb : bvOk [a, b] K = true) (q : tF c K (kEs [a, b] K) .own (evE Γ (.cmp o [a, b])) σ H Q) : tOp (opB c (cmpD o)) (tO c Γ K a) (tO c Γ (kE a K) b) σ H Q := by
  obtain ⟨g, ρ, ts, d, ρ', R, e, q⟩ := q
  obtain ⟨⟨ds, ρ1⟩, ev, e⟩ := Option.bind_eq_some_iff.mp e
  dsimp only at e
  split at e
  · rename_i d1 d2
    obtain ⟨d', e1, e2⟩ := Option.map_eq_some_iff.mp e
    cases e2
    exact two_imp (f := fun x y => (cmpD o x y).map .bool) hb (fun g Ks ρ ts H' d1 d2 d u v R v1 v2 e q => ⟨g, Ks, ρ, ts, σ, d1, d2, d, R, v1, v2, e, q⟩) ⟨g, ρ, ts, d1, d2, _, _, R, ev, by rw [e1]; rfl, q⟩
  · cases e
theorem f_cmp (ft : Fit c X) (h : PEs X c Γ es K [x, y]) (hb : bvOk es K = true) (o : Cop) (hm : behindInMarks (copOf o) y = false) : PE X (.Compare x [copOf o] [y] pos) (tF c K (kEs es K) .own (evE Γ (.cmp o es))) ∧ PT X (.Compare x [copOf o] [y] pos) (tBF c K (kEs es K) (evE Γ (.cmp o es))) := by
  obtain ⟨a, b, rfl, h1, h2⟩ := h.two
  refine ⟨PE.imp (pe_cmpR (cmp_ok ft o) h1 h2 hm) fun σ H Q q => cmp_two hb q, PT.imp (pt_cmpR (cmp_ok ft o) h1 h2 hm) fun σ H Q q => ?_⟩
  obtain ⟨g, ρ, ts, b', ρ', R, e, q⟩ := q
  refine cmp_two hb ⟨g, ρ, ts, .bool b', ρ', R, e, fun g' v H' R' => ⟨b', ?_, q g' H' R'.drop⟩⟩
  have hv := R'.last
  exact View.bl ⟨_, .own, by decide, hv⟩
theorem chain_imp {a b w : E} {o o' : Cop} {σ : L2.St} {H : Hp} {Q : VK} (hn : [a, b].all (fun e => !isBv e) = true) (hw : isBv w = false) (hl : leK (kE w (kEs [a, b] K)) (kEs [a, b] K) = true) (q : tF c K (kE w (kEs [a, b] K)) .own (evE Γ (.chain o o' [a, b] w)) σ H Q) :
    tChain (opB c (cmpD o)) (opB c (cmpD o')) (tO c Γ K a) (tO c Γ (kE a K) b) (tO c Γ (kEs [a, b] K) w) σ H Q := by
  obtain ⟨g, ρ, ts, d, ρ', R, e, q⟩ := q
  obtain ⟨⟨ds, ρ1⟩, ev, e⟩ := Option.bind_eq_some_iff.mp e
  dsimp only at e
  split at e
  case h_2 => cases e
  rename_i d1 d2
  simp only [List.all_cons, List.all_nil, Bool.and_true, Bool.and_eq_true, Bool.not_eq_true'] at hn
  have := nestL_imp (c := c) (Γ := Γ) (rk := fun _ => .fz) (fr := true) [a, b] K σ H (fun vs H2 => match vs with | [u, v] => opB c (cmpD o) u v H2 fun z H3 => ∃ k, z = .bl k ∧ (if k = true then tO c Γ (kEs [a, b] K) w σ H3 fun w' H4 => opB c (cmpD o') v w' H4 Q else Q (.bl false) H3) | _ => False)
    (by simp [hn.1, hn.2]) ⟨g, ρ, ts, _, ρ1, R, ev, fun g' vs H' R' l1 l2 => ?_⟩
  · rw [tO_ne hn.1, tO_ne hn.2]
    exact this
  · match vs, l2 with
    | [u, v], _ =>
      have R' : Rel c g' (kEs [a, b] K) ρ1 (ts ++ [(.fz, d1, u)] ++ [(.fz, d2, v)]) σ H' := by
        rw [List.append_assoc]; exact R'
      have f1 : Fz c.P c.w c.K g'.F u d1 := R'.drop.last
      have f2 : Fz c.P c.w c.K g'.F v d2 := R'.last
      split at e
      · rename_i hc
        obtain ⟨⟨z, ρ2⟩, e1, e2⟩ := Option.bind_eq_some_iff.mp e
        obtain ⟨t, e3, e4⟩ := Option.map_eq_some_iff.mp e2
        cases e4
        refine ⟨g', _, ρ1, _, σ, d1, d2, .bool true, R', f1.view, f2.view, by show (cmpD o d1 d2).map PyData.bool = _; rw [hc]; rfl, fun g'' zv H3 R3 => ?_⟩
        have hz : zv = .bl true := View.bl ⟨_, .own, by decide, R3.last⟩
        refine ⟨true, hz, ?_⟩
        rw [if_pos rfl, tO_ne hw]
        refine ⟨g'', ρ1, _, z, _, R3.drop, e1, fun g4 wv H4 R4 => ?_⟩
        have h2 : Fz c.P c.w c.K g4.F v d2 := R4.drop.last
        have h3 : Fz c.P c.w c.K g4.F wv z := R4.last
        exact ⟨g4, _, _, _, σ, d2, z, .bool t, R4.drop.drop.drop, h2.view, h3.view, by show (cmpD o' d2 z).map PyData.bool = _; rw [show cmpD o' d2 z = some t from e3]; rfl, q⟩
      · rename_i hc
        cases e
        refine ⟨g', _, _, _, σ, d1, d2, .bool false, R', f1.view, f2.view, by show (cmpD o d1 d2).map PyData.bool = _; rw [hc]; rfl, fun g'' zv H3 R3 => ?_⟩
        have hz : zv = .bl false := View.bl ⟨_, .own, by decide, R3.last⟩
        refine ⟨false, hz, ?_⟩
        rw [if_neg Bool.false_ne_true]
        obtain ⟨g5, R5⟩ := R3.drop.drop.drop.low hl
        exact q g5 _ H3 (R5.pushN (.bl false) rfl)
      · cases e
theorem f_chain (ft : Fit c X) {w : E} (h : PEs X c Γ es K [x, y]) (hn : es.all (fun e => !isBv e) = true) (hw : isBv w = false) (h3 : PE X z (tO c Γ (kEs es K) w)) (hl : leK (kE w (kEs es K)) (kEs es K) = true) (o o' : Cop) (hm : lastMarks [copOf o, copOf o'] [y, z] = false) :
    PE X (.Compare x [copOf o, copOf o'] [y, z] pos) (tF c K (kE w (kEs es K)) .own (evE Γ (.chain o o' es w))) ∧ PT X (.Compare x [copOf o, copOf o'] [y, z] pos) (tBF c K (kE w (kEs es K)) (evE Γ (.chain o o' es w))) := by
  obtain ⟨a, b, rfl, h1, h2⟩ := h.two
  refine ⟨PE.imp (pe_chain (cmp_ok ft o) (cmp_ok ft o') h1 h2 h3 hm) fun σ H Q q => chain_imp hn hw hl q, PT.imp (pt_chain (cmp_ok ft o) (cmp_ok ft o') h1 h2 h3 hm) fun σ H Q q => ?_⟩
  obtain ⟨g, ρ, ts, b', ρ', R, e, q⟩ := q
  refine chain_imp hn hw hl ⟨g, ρ, ts, .bool b', ρ', R, e, fun g' v H' R' => ⟨b', ?_, q g' H' R'.drop⟩⟩
  exact View.bl ⟨_, .own, by decide, R'.last⟩
theorem f_neg {a : E} (h : PE X x (tO c Γ K a)) (hb : isBv a = false) : PE X (.UnaryOp .USub x pos) (tF c K (kE a K) .own (evE Γ (.neg a))) := by
  refine PE.imp (pe_un un_neg h) fun σ H Q q => ?_
  obtain ⟨g, ρ, ts, d, ρ', R, e, q⟩ := q
  obtain ⟨⟨d1, ρ1⟩, ev, e⟩ := Option.bind_eq_some_iff.mp e
  dsimp only at e
  split at e
  · rename_i i
    cases e
    show tO c Γ K a σ H _
    rw [tO_ne hb]
    refine ⟨g, ρ, ts, _, _, R, ev, fun g' v H' R' => ?_⟩
    have hv : v = .int i := View.int (H := H') (Fz.view R'.last)
    subst hv
    exact ⟨i, rfl, q.int R'.drop⟩
  · cases e
theorem f_idx (ft : Fit c X) (h : PEs X c Γ es K [x, y]) (hb : bvOk es K = true) (hp : plainIx y = true) : PE X (.Subscript x y pos) (tF c K (kEs es K) .fz (evE Γ (.idx es))) := by
  obtain ⟨a, b, rfl, h1, h2⟩ := h.two
  refine PE.imp (pe_ix (ix_ok ft) h1 h2 (plainIx_ok hp)) fun σ H Q q => ?_
  obtain ⟨g, ρ, ts, d, ρ', R, e, q⟩ := q
  obtain ⟨⟨ds, ρ1⟩, ev, e⟩ := Option.bind_eq_some_iff.mp e
  dsimp only at e
  split at e
  · rename_i d1 d2
    obtain ⟨d', e1, e2⟩ := Option.map_eq_some_iff.mp e
    cases e2
    exact two_imp (f := atD) hb (fun g Ks ρ ts H' d1 d2 d u v R v1 v2 e q => ⟨g, Ks, ρ, ts, σ, d1, d2, d, R, v1, v2, e, q⟩) ⟨g, ρ, ts, d1, d2, d, _, R, ev, e1, q⟩
  · cases e
theorem FzA.len {g : Gh} {vs : List V} {ds : List D} (h : FzA c.P c.w c.K g.F vs ds) (hd : ds.length ≤ 1000) : vs.length ≤ sizeLine := by rw [h.length]; exact Nat.le_trans hd (by decide)
theorem OpVs.len {g : Gh} {H : Hp} {es : List E} {ds : List D} {vs : List V} (h : OpVs c g H es ds vs) : ds.length = es.length ∧ vs.length = es.length := by
  induction h with
  | nil => exact ⟨rfl, rfl⟩
  | cons _ _ _ ih => simp [ih.1, ih.2]
theorem f_lst (h : PEs X c Γ es K bs) (hb : bvOk es K = true) (hn : es.all (fun e => !isBv e) = true) (hl : es.length ≤ 1000) : PE X (.List bs pos) (tF c K (kEs es K) .own (evE Γ (.lst es))) := by
  refine PE.imp (pe_lst h.pa) fun σ H Q q => ?_
  obtain ⟨g, ρ, ts, d, ρ', R, e, q⟩ := q
  obtain ⟨⟨ds, ρ1⟩, ev, e⟩ := Option.bind_eq_some_iff.mp e
  cases e
  refine nest_imp es K σ H _ hb ⟨g, ρ, ts, ds, _, R, ev, fun g' vs H' R' ov => ?_⟩
  have f := ov.fza hn
  exact ⟨f.len (by rw [ov.len.1]; exact hl), fun p np => q.list R' f p np⟩
/-- a tuple's display -/
def tTupN (t : TA) : TE := fun σ H Q => t σ H fun xs H1 => xs.length ≤ sizeLine ∧ NewT H1 xs Q
theorem pe_tupN {x1} {t : TA} (h : PA X bs t) : PE X (.Tuple bs x1 pos) (tTupN t) := by
  refine ⟨fun pins s σ H Q I hq => ?_⟩
  refine wpAny_Tuple_spliced (thn (h.run pos pins s σ H _ I hq) fun us s1 ⟨xs, H1, I1, r, z, q⟩ => ⟨by rw [← r.length]; exact z, ?_⟩)
  exact Inv.outT I1 r z q
theorem f_tup {x1} (h : PEs X c Γ es K bs) (hb : bvOk es K = true) (hn : es.all (fun e => !isBv e) = true) (hl : es.length ≤ 1000) : PE X (.Tuple bs x1 pos) (tF c K (kEs es K) .own (evE Γ (.tup es))) := by
  refine PE.imp (pe_tupN h.pa) fun σ H Q q => ?_
  obtain ⟨g, ρ, ts, d, ρ', R, e, q⟩ := q
  obtain ⟨⟨ds, ρ1⟩, ev, e⟩ := Option.bind_eq_some_iff.mp e
  cases e
  refine nest_imp es K σ H _ hb ⟨g, ρ, ts, ds, _, R, ev, fun g' vs H' R' ov => ?_⟩
  have f := ov.fza hn
  exact ⟨f.len (by rw [ov.len.1]; exact hl), q.tup R' f⟩
theorem f_dic : PE X (.Dict [] [] pos) (tF c K K .own (evE Γ .dic)) := by
  refine PE.imp pe_dnewK fun σ H Q q => ?_
  obtain ⟨g, ρ, ts, d, ρ', R, e, q⟩ := q
  cases e
  exact fun p np => q _ _ _ (R.newO np (.inr ⟨[], [], rfl, .inl ⟨upd_same, fun e he => by simp at he⟩, .nil⟩))
theorem slF_of {g : Gh} {Ks : List Kd} {ρ : Ste} {ts : List Tm} {σ : L2.St} {H : Hp} {Q : VK} {d1 d : D} {u : V} {lo hi : Option Int} (R : Rel c g Ks ρ ts σ H) (v : View c g H d1 u) (e : Ev.slcD d1 lo hi = some d) (q : Pst c Ks ρ ts σ .own d Q) : slF c Ev.slcD u lo hi H Q :=
  ⟨g, Ks, ρ, ts, σ, d1, d, R, v, e, q⟩
/-- an int -/
def PInt : V → Hp → Prop := fun x _ => ∃ i, x = .int i
def PAny : V → Hp → Prop := fun _ _ => True
theorem pint_ok {d : D} {σ : L2.St} {i : Int} (h : d = .int i) : ∀ g K ρ ts H v d0, tyD d0 = tyD d → Rel c g K ρ ts σ H → View c g H d0 v → PInt v H := fun g K ρ ts H v d0 ty R vw => by
  subst h
  cases d0 <;> simp [tyD] at ty
  exact ⟨_, vw.int⟩
/-- what is asked behind the operands of a slice -/
def slQ (c : Ct) (lo hi : Bool) (Q : VK) : List V → Hp → Prop := fun vs H => match lo, hi, vs with
  | false, false, [u] => slF c Ev.slcD u none none H Q
  | true, false, [u, l] => ∀ i, l = .int i → slF c Ev.slcD u (some i) none H Q
  | false, true, [u, h] => ∀ i, h = .int i → slF c Ev.slcD u none (some i) H Q
  | true, true, [u, l, h] => ∀ i, l = .int i → ∀ j, h = .int j → slF c Ev.slcD u (some i) (some j) H Q
  | _, _, _ => False
def slP (lo hi : Bool) : List (V → Hp → Prop) := PAny :: ((if lo then [PInt] else []) ++ if hi then [PInt] else [])
theorem slc_imp {lo hi : Bool} {σ : L2.St} {H : Hp} {Q : VK} (hb : bvOk es K = true) (q : tF c K (kEs es K) .own (evE Γ (.slc lo hi es)) σ H Q) : tNestP c Γ es (slP lo hi) K σ H (slQ c lo hi Q) := by
  obtain ⟨g, ρ, ts, d, ρ', R, e, q⟩ := q
  obtain ⟨⟨ds, ρ1⟩, ev, e⟩ := Option.bind_eq_some_iff.mp e
  obtain ⟨d', e1, e2⟩ := Option.map_eq_some_iff.mp e
  cases e2
  unfold Ev.slcV at e1
  split at e1
  · refine nestP_imp es _ K σ H _ hb ⟨g, ρ, ts, _, _, R, ev, ⟨fun _ _ _ _ _ _ _ _ _ _ => trivial, trivial⟩, fun g' vs H' R' ov => ?_⟩
    obtain ⟨u, rfl, v1⟩ := ov.one
    exact slF_of R' v1 e1 q
  · refine nestP_imp es _ K σ H _ hb ⟨g, ρ, ts, _, _, R, ev, ⟨fun _ _ _ _ _ _ _ _ _ _ => trivial, pint_ok rfl, trivial⟩, fun g' vs H' R' ov => ?_⟩
    obtain ⟨u, v, rfl, v1, v2⟩ := ov.two
    intro i hi
    have := v2.int
    rw [this] at hi; cases hi
    exact slF_of R' v1 e1 q
  · refine nestP_imp es _ K σ H _ hb ⟨g, ρ, ts, _, _, R, ev, ⟨fun _ _ _ _ _ _ _ _ _ _ => trivial, pint_ok rfl, trivial⟩, fun g' vs H' R' ov => ?_⟩
    obtain ⟨u, v, rfl, v1, v2⟩ := ov.two
    intro i hi
    have := v2.int
    rw [this] at hi; cases hi
    exact slF_of R' v1 e1 q
  · refine nestP_imp es _ K σ H _ hb ⟨g, ρ, ts, _, _, R, ev, ⟨fun _ _ _ _ _ _ _ _ _ _ => trivial, pint_ok rfl, pint_ok rfl, trivial⟩, fun g' vs H' R' ov => ?_⟩
    have vw := ov.views
    cases vw with
    | cons v1 vw => cases vw with
      | cons v2 vw => cases vw with
        | cons v3 vw =>
          cases vw
          intro i hi j hj
          have h2 := v2.int
          have h3 := v3.int
          rw [h2] at hi; cases hi
          rw [h3] at hj; cases hj
          exact slF_of R' v1 e1 q
  · cases e1
theorem f_slc0 (ft : Fit c X) {p2 : Pos} (h : PEs X c Γ es K [x]) (hb : bvOk es K = true) : PE X (.Subscript x (.Slice none none none p2) pos) (tF c K (kEs es K) .own (evE Γ (.slc false false es))) := by
  obtain ⟨a, rfl, h1⟩ := h.one
  exact PE.imp (pe_slice (sl_ok ft) h1 po_none po_none) fun σ H Q q => (slc_imp hb q).mono fun x H1 q => q.2
theorem f_slcL (ft : Fit c X) {p2 : Pos} (h : PEs X c Γ es K [x, y]) (hb : bvOk es K = true) : PE X (.Subscript x (.Slice (some y) none none p2) pos) (tF c K (kEs es K) .own (evE Γ (.slc true false es))) := by
  obtain ⟨a, b, rfl, h1, h2⟩ := h.two
  exact PE.imp (pe_slice (sl_ok ft) h1 (po_some h2) po_none) fun σ H Q q => (slc_imp hb q).mono fun x H1 q => tO.mono q.2 fun y H2 ⟨⟨i, hi⟩, q⟩ => ⟨i, hi, q i hi⟩
theorem f_slcH (ft : Fit c X) {p2 : Pos} (h : PEs X c Γ es K [x, y]) (hb : bvOk es K = true) : PE X (.Subscript x (.Slice none (some y) none p2) pos) (tF c K (kEs es K) .own (evE Γ (.slc false true es))) := by
  obtain ⟨a, b, rfl, h1, h2⟩ := h.two
  exact PE.imp (pe_slice (sl_ok ft) h1 po_none (po_some h2)) fun σ H Q q => (slc_imp hb q).mono fun x H1 q => tO.mono q.2 fun y H2 ⟨⟨i, hi⟩, q⟩ => ⟨i, hi, q i hi⟩
theorem f_slcB (ft : Fit c X) {p2 : Pos} (h : PEs X c Γ es K [x, y, z]) (hb : bvOk es K = true) : PE X (.Subscript x (.Slice (some y) (some z) none p2) pos) (tF c K (kEs es K) .own (evE Γ (.slc true true es))) := by
  obtain ⟨a, b, d, rfl, h1, h2, h3⟩ := h.three
  exact PE.imp (pe_slice (sl_ok ft) h1 (po_some h2) (po_some h3)) fun σ H Q q => (slc_imp hb q).mono fun x H1 q => tO.mono q.2 fun y H2 ⟨⟨i, hi⟩, q⟩ => ⟨i, hi, tO.mono q fun z H3 ⟨⟨j, hj⟩, q⟩ => ⟨j, hj, q i hi j hj⟩⟩
theorem f_rev (ft : Fit c X) {k : Nat} {p1 p2 p3 : Pos} (h : PEs X c Γ es K [x]) (hb : bvOk es K = true) : PE X (.Subscript x (.Slice none none (some (.UnaryOp .USub (.Constant (.int 1) k p1) p2)) p3) pos) (tF c K (kEs es K) .own (evE Γ (.rev es))) := by
  obtain ⟨a, rfl, h1⟩ := h.one
  refine PE.imp (pe_rev h1) fun σ H Q q => ?_
  obtain ⟨g, ρ, ts, d, ρ', R, e, q⟩ := q
  obtain ⟨⟨ds, ρ1⟩, ev, e⟩ := Option.bind_eq_some_iff.mp e
  dsimp only at e
  split at e
  · rename_i d1
    obtain ⟨d', e1, e2⟩ := Option.map_eq_some_iff.mp e
    cases e2
    have := nest_imp [a] K σ H (fun vs H2 => match vs with | [u] => rRev X.K u H2 Q | _ => False) hb ⟨g, ρ, ts, _, _, R, ev, fun g' vs H' R' ov => by
      obtain ⟨u, rfl, v1⟩ := ov.one
      unfold Ev.revD at e1
      split at e1
      · cases e1
        obtain ⟨p, vs, rfl, h1, f⟩ := v1.list R'
        exact .inl ⟨p, vs, rfl, .inl (.inl h1), fun l nl => q.list R' f.reverse l nl⟩
      · cases e1
        obtain ⟨p, vs, rfl, h0, h1, f⟩ := v1.tuple R'
        exact .inr ⟨p, vs, rfl, by rw [ft.K]; exact h1, q.tup R' f.reverse⟩
      · cases e1⟩
    exact this
  · cases e
/-! ### calls of builtins -/
theorem bi_imp {b : Bi} {σ : L2.St} {H : Hp} {Q : VK} {kd : Kd} (hb : bvOk es K = true) (q : tF c K (kEs es K) kd (evE Γ (.bi b es)) σ H Q) :
    tNest c Γ es K σ H fun vs H2 => ∃ g Ks ρ ts ds d, Rel c g Ks ρ ts σ H2 ∧ OpVs c g H2 es ds vs ∧ biD b ds = some d ∧ Pst c Ks ρ ts σ kd d Q := by
  obtain ⟨g, ρ, ts, d, ρ', R, e, q⟩ := q
  obtain ⟨⟨ds, ρ1⟩, ev, e⟩ := Option.bind_eq_some_iff.mp e
  obtain ⟨d', e1, e2⟩ := Option.map_eq_some_iff.mp e
  cases e2
  exact nest_imp es K σ H _ hb ⟨g, ρ, ts, ds, _, R, ev, fun g' vs H' R' ov => ⟨g', _, _, ts, ds, d, R', ov, e1, q⟩⟩
theorem tNest_mono : ∀ (es : List E) (K : List Kd) (σ : L2.St) (H : Hp) (Q Q' : List V → Hp → Prop), (∀ vs H', Q vs H' → Q' vs H') → tNest c Γ es K σ H Q → tNest c Γ es K σ H Q'
  | [], K, σ, H, Q, Q', hq, h => hq _ _ h
  | e :: es, K, σ, H, Q, Q', hq, h => tO.mono (show tO c Γ K e σ H _ from h) fun x H1 q => tNest_mono es (kE e K) σ H1 _ _ (fun vs H' q => hq _ _ q) q
theorem biB_kd {rk : String → Kd} {b : Bi} {nm : String} (h : biB b = some nm) : kdE rk (.bi b es) = .own := by
  cases b <;> first | rfl | cases h
theorem biT_kd {rk : String → Kd} {b : Bi} {nm : String} (h : biT b = some nm) : kdE rk (.bi b es) = .own := by
  cases b <;> first | rfl | cases h
theorem biI_kd {rk : String → Kd} {b : Bi} {nm : String} (h : biI b = some nm) : kdE rk (.bi b es) = .own := by
  cases b <;> first | rfl | cases h
theorem f_biB (ft : Fit c X) {b : Bi} {nm : String} {p : Pos} (hbi : biB b = some nm) (hg : Gl X nm) (hm : X.mg nm = none) (hn : (nm : Str) ≠ "__name__") (hd : ((nm : Str) == ("__debug__" : Str)) = false) (h : PEs X c Γ es K (x :: bs)) (hb : bvOk es K = true) :
    PE X (.Call (.Name nm p) (x :: bs) [] pos) (tF c K (kEs es K) .own (evE Γ (.bi b es))) := by
  obtain ⟨h1, h2⟩ := biB_ok ft hbi
  have ha := h.all
  simp only [List.all_cons, Bool.and_eq_true] at ha
  refine PE.imp (pe_callB h1 hg hm h2 h.pa hn hd (star_nos ha.1) (plain_any (by simpa using ha.2))) fun σ H Q q => ?_
  exact tNest_mono es K σ H _ _ (fun vs H' ⟨g, Ks, ρ, ts, ds, d, R, ov, e, q⟩ => ⟨g, Ks, ρ, ts, σ, ds, d, R, ov.views, e, q⟩) (bi_imp hb q)
theorem f_biT (ft : Fit c X) {b : Bi} {nm : String} {p : Pos} (hbi : biT b = some nm) (hg : Gl X nm) (hm : X.mg nm = none) (hn : (nm : Str) ≠ "__name__") (hd : ((nm : Str) == ("__debug__" : Str)) = false) (h : PEs X c Γ es K (x :: bs)) (hb : bvOk es K = true) :
    PE X (.Call (.Name nm p) (x :: bs) [] pos) (tF c K (kEs es K) .own (evE Γ (.bi b es))) := by
  obtain ⟨h1, h2⟩ := biT_ok ft hbi
  have ha := h.all
  simp only [List.all_cons, Bool.and_eq_true] at ha
  refine PE.imp (pe_callTy h1 hg hm h2 h.pa hn hd (star_nos ha.1) (plain_any (by simpa using ha.2))) fun σ H Q q => ?_
  exact tNest_mono es K σ H _ _ (fun vs H' ⟨g, Ks, ρ, ts, ds, d, R, ov, e, q⟩ => ⟨g, Ks, ρ, ts, σ, ds, d, R, ov.views, e, q⟩) (bi_imp hb q)
theorem f_biI (ft : Fit c X) {b : Bi} {nm : String} {p p2 : Pos} (hbi : biI b = some nm) (hg : Gl X "isinstance") (hm : X.mg "isinstance" = none) (hg2 : Gl X nm) (hm2 : X.mg nm = none) (hn : (nm : Str) ≠ "__name__") (hd : ((nm : Str) == ("__debug__" : Str)) = false)
    (h : PEs X c Γ es K [x]) (hx : nos x = true) (hb : bvOk es K = true) : PE X (.Call (.Name "isinstance" p) [x, .Name nm p2] [] pos) (tF c K (kEs es K) .own (evE Γ (.bi b es))) := by
  obtain ⟨h1, h2⟩ := biI_ok ft hbi
  obtain ⟨a, rfl, hp⟩ := h.one
  refine PE.imp (pe_callB h1 hg hm (by decide +kernel) (pa_cons hp (pa_cons (pe_bltn (v := .ty nm) hg2 hm2 h2 rfl hn hd) pa_nil (by rfl)) (star_nos hx)) (by decide) (by decide) (star_nos hx) (by rfl)) fun σ H Q q => ?_
  have := bi_imp hb q
  exact tO.mono (show tO c Γ K a σ H _ from this) fun v H' ⟨g, Ks, ρ, ts, ds, d, R, ov, e, q⟩ => ⟨v, rfl, g, Ks, ρ, ts, σ, ds, d, R, ov.views, e, q⟩

/-! ### methods that read -/
theorem tyB_list (ft : Fit c X) {σ : L2.St} {d : D} (h : tyD d = 1) : ∀ g K ρ ts H v d0, tyD d0 = tyD d → Rel c g K ρ ts σ H → View c g H d0 v → TyB X "list" v H := fun g K ρ ts H v d0 ty R vw => by
  rw [h] at ty
  cases d0 <;> simp [tyD] at ty
  exact vw.tyList R
theorem tyB_dict (ft : Fit c X) {σ : L2.St} {d : D} (h : tyD d = 3) : ∀ g K ρ ts H v d0, tyD d0 = tyD d → Rel c g K ρ ts σ H → View c g H d0 v → TyB X "dict" v H := fun g K ρ ts H v d0 ty R vw => by
  rw [h] at ty
  cases d0 <;> simp [tyD] at ty
  exact vw.tyDict ft R
def anyP (ds : List D) : List (V → Hp → Prop) := ds.map fun _ => PAny
theorem anyP_ok {σ : L2.St} : ∀ ds : List D, PrOk c σ ds (anyP ds)
  | [] => trivial
  | _ :: ds => ⟨fun _ _ _ _ _ _ _ _ _ _ => trivial, anyP_ok ds⟩
theorem nestP_any : ∀ (es : List E) (ps : List (V → Hp → Prop)) (K : List Kd) (σ : L2.St) (H : Hp) (Q : List V → Hp → Prop), ps.length = es.length → tNestP c Γ es ps K σ H Q → tNest c Γ es K σ H Q
  | [], [], K, σ, H, Q, _, h => h
  | [], _ :: _, K, σ, H, Q, hl, h => by cases hl
  | _ :: _, [], K, σ, H, Q, hl, h => by cases hl
  | e :: es, p :: ps, K, σ, H, Q, hl, h => tO.mono (show tO c Γ K e σ H _ from h) fun x H1 q => nestP_any es ps (kE e K) σ H1 _ (by simpa using hl) q.2
theorem evV_len : ∀ (es : List E) (ρ : Ste) (ds : List D) (ρ' : Ste), evV Γ es ρ = some (ds, ρ') → ds.length = es.length
  | [], ρ, ds, ρ', h => by cases h; rfl
  | e :: es, ρ, ds, ρ', h => by
    by_cases hv : isBv e = true
    · obtain ⟨i, rfl⟩ := isBv_iff hv
      rw [evV_bv] at h
      obtain ⟨d0, _, h⟩ := Option.bind_eq_some_iff.mp h
      obtain ⟨⟨ds', ρ1⟩, h1, h⟩ := Option.bind_eq_some_iff.mp h
      obtain ⟨d, _, h⟩ := Option.bind_eq_some_iff.mp h
      have h : (if tyD d0 = tyD d then some (d :: ds', ρ1) else none) = some (ds, ρ') := h
      split at h
      · cases h; rw [List.length_cons, List.length_cons, evV_len es _ _ _ h1]
      · cases h
    · have hv : isBv e = false := by simpa using hv
      rw [evV_ne hv] at h
      obtain ⟨⟨d, ρ1⟩, _, h⟩ := Option.bind_eq_some_iff.mp h
      obtain ⟨⟨ds', ρ2⟩, h2, h3⟩ := Option.map_eq_some_iff.mp h
      cases h3
      rw [List.length_cons, List.length_cons, evV_len es _ _ _ h2]
/-- a method's call: the object first, by its sort -/
theorem meth_imp {T : String} {r : V → List V → Hp → VK → Prop} {a : E} {as : List E} {f : List D → Option D} {kd : Kd} {σ : L2.St} {H : Hp} {Q : VK} {K' : List Kd} (hK : K' = kEs (a :: as) K) (hb : bvOk (a :: as) K = true)
    (hty : ∀ d ds d', f (d :: ds) = some d' → ∀ g K ρ ts H v d0, tyD d0 = tyD d → Rel c g K ρ ts σ H → View c g H d0 v → TyB X T v H)
    (hr : ∀ g Ks ρ ts H' ds d x xs, Rel c g Ks ρ ts σ H' → OpVs c g H' (a :: as) ds (x :: xs) → f ds = some d → Pst c Ks ρ ts σ kd d Q → r x xs H' Q)
    (h : ∃ g ρ ts ds d ρ', Rel c g K ρ ts σ H ∧ evV Γ (a :: as) ρ = some (ds, ρ') ∧ f ds = some d ∧ Pst c K' ρ' ts σ kd d Q) : tM X T r (tO c Γ K a) (tNest c Γ as (kE a K)) σ H Q := by
  subst hK
  obtain ⟨g, ρ, ts, ds, d, ρ', R, ev, e, q⟩ := h
  have hl := evV_len _ _ _ _ ev
  cases ds with
  | nil => cases hl
  | cons d1 ds =>
    have := nestP_imp (a :: as) ((TyB X T) :: anyP ds) K σ H (fun vs H2 => match vs with | x :: xs => r x xs H2 Q | _ => False) hb ⟨g, ρ, ts, _, ρ', R, ev, ⟨hty d1 ds d e, anyP_ok ds⟩, fun g' vs H' R' ov => by
      cases vs with
      | nil => have := ov.len.2; cases this
      | cons x xs => exact hr g' _ _ ts H' _ d x xs R' ov e q⟩
    exact tO.mono (show tO c Γ K a σ H _ from this) fun x H1 q => ⟨q.1, nestP_any as (anyP ds) (kE a K) σ H1 _ (by unfold anyP; rw [List.length_map]; simpa using hl) q.2⟩
theorem f_index (ft : Fit c X) {o : Expr} {apos cpos : Pos} (h : PEs X c Γ es K (o :: x :: bs)) (hb : bvOk es K = true) (hn : noSup o = true) (hline : (apos.endLine == cpos.line) = true) (hl : (x :: bs).length < 30) :
    PE X (.Call (.Attribute o "index" apos) (x :: bs) [] cpos) (tF c K (kEs es K) .own (evE Γ (.bi .index es))) := by
  cases h with
  | cons h1 hn1 t =>
    refine PE.imp (pe_m PySem.F.plainAttrs_list PySem.F.slot_list_index PySem.F.type_list_index (index_ok ft) h1 t.pa hn hline t.all hl) fun σ H Q q => ?_
    obtain ⟨g, ρ, ts, d, ρ', R, e, q⟩ := q
    obtain ⟨⟨ds, ρ1⟩, ev, e⟩ := Option.bind_eq_some_iff.mp e
    obtain ⟨d', e1, e2⟩ := Option.map_eq_some_iff.mp e
    cases e2
    refine meth_imp (f := Ev.indexB) rfl hb (fun d ds d' e => ?_) (fun g Ks ρ ts H' ds d x xs R ov e q => ⟨g, Ks, ρ, ts, σ, ds, d, R, ov.views, e, q⟩) ⟨g, ρ, ts, ds, d, _, R, ev, e1, q⟩
    have ty : tyD d = 1 := by
      unfold Ev.indexB at e
      split at e
      · rename_i h; cases h; rfl
      · cases e
    exact tyB_list ft ty
theorem f_get1 (ft : Fit c X) {o : Expr} {apos cpos : Pos} (h : PEs X c Γ es K (o :: x :: bs)) (hb : bvOk es K = true) (hn : noSup o = true) (hline : (apos.endLine == cpos.line) = true) (hl : (x :: bs).length < 30) :
    PE X (.Call (.Attribute o "get" apos) (x :: bs) [] cpos) (tF c K (kEs es K) .fz (evE Γ (.bi .get1 es))) := by
  cases h with
  | cons h1 hn1 t =>
    refine PE.imp (pe_m PySem.F.plainAttrs_dict PySem.F.slot_dict_get PySem.F.type_dict_get (get1_ok ft) h1 t.pa hn hline t.all hl) fun σ H Q q => ?_
    obtain ⟨g, ρ, ts, d, ρ', R, e, q⟩ := q
    obtain ⟨⟨ds, ρ1⟩, ev, e⟩ := Option.bind_eq_some_iff.mp e
    obtain ⟨d', e1, e2⟩ := Option.map_eq_some_iff.mp e
    cases e2
    refine meth_imp (f := Ev.get1B) rfl hb (fun d ds d' e => ?_) (fun g Ks ρ ts H' ds d x xs R ov e q => ⟨g, Ks, ρ, ts, σ, ds, d, R, ov.views, e, q⟩) ⟨g, ρ, ts, ds, d, _, R, ev, e1, q⟩
    have ty : tyD d = 3 := by
      unfold Ev.get1B at e
      split at e
      · rename_i h; cases h; rfl
      · cases e
    exact tyB_dict ft ty
theorem f_get2 (ft : Fit c X) {o : Expr} {apos cpos : Pos} {a b d : E} (h : PEs X c Γ [a, b, d] K (o :: x :: bs)) (hd : isBv d = false) (hb : bvOk [a, b, d] K = true) (hn : noSup o = true) (hline : (apos.endLine == cpos.line) = true) (hl : (x :: bs).length < 30) :
    PE X (.Call (.Attribute o "get" apos) (x :: bs) [] cpos) (tF c K (kEs [a, b, d] K) .fz (evE Γ (.bi .get2 [a, b, d]))) := by
  cases h with
  | cons h1 hn1 t =>
    refine PE.imp (pe_m PySem.F.plainAttrs_dict PySem.F.slot_dict_get PySem.F.type_dict_get (get2_ok ft) h1 t.pa hn hline t.all hl) fun σ H Q q => ?_
    obtain ⟨g, ρ, ts, dd, ρ', R, e, q⟩ := q
    obtain ⟨⟨ds, ρ1⟩, ev, e⟩ := Option.bind_eq_some_iff.mp e
    obtain ⟨d', e1, e2⟩ := Option.map_eq_some_iff.mp e
    cases e2
    refine meth_imp (f := Ev.get2B) rfl hb (fun d ds d' e => ?_) (fun g Ks ρ ts H' ds dd x xs R ov e q => ?_) ⟨g, ρ, ts, ds, dd, _, R, ev, e1, q⟩
    · have ty : tyD d = 3 := by
        unfold Ev.get2B at e
        split at e
        · rename_i h; cases h; rfl
        · cases e
      exact tyB_dict ft ty
    · cases ov with
      | cons v1 _ ov => cases ov with
        | cons v2 _ ov => cases ov with
          | cons v3 f3 ov =>
            cases ov
            exact ⟨g, Ks, ρ, ts, σ, _, _, _, _, _, dd, rfl, R, v1, v2, f3 hd, e, q⟩
end
end EvS
set_option linter.all false
set_option Elab.async false
set_option maxRecDepth 100000
set_option maxHeartbeats 8000000
/-! EvE: the other forms. -/
namespace EvS
open PySem PySem.Spec PyProof.Rows L2 EvK
open Ev (D E S Tgt Ste Src getS restore flatK tupK dget dset dsetAll okK lim isInts isBls seqD pairsD evE evV evAnd evOr boolR Calls tyD asgT asgTs tnm tnms compL pureE pureEs Bi biD Bop Cop binD cmpD atD)
section
variable {c : Ct} {X : Cx} {S : SS} {Γ : Calls} {n : Cn} {K : List Kd} {es : List E} {x y z : Expr} {bs : List Expr} {pos : Pos}

/-! ### methods that change a slot's own list or dict -/
theorem f_pop {i : Nat} (h : PE X x (tVar i)) (hk : K.getD i .fz = .own) (hn : noSup x = true) {apos cpos : Pos} (hline : (apos.endLine == cpos.line) = true) : PE X (.Call (.Attribute x "pop" apos) [] [] cpos) (tF c K K .fz (evE Γ (.pop i))) := by
  refine PE.imp (pe_m0 PySem.F.plainAttrs_list PySem.F.slot_list_pop PySem.F.type_list_pop mt_pop h hn hline) fun σ H Q q => ?_
  obtain ⟨g, ρ, ts, d, ρ', R, e, q⟩ := q
  have e : (match getS ρ.sl i with
    | some (.list xs) => xs.getLast?.map fun x => (x, { ρ with sl := ρ.sl.set i (some (.list xs.dropLast)) })
    | _ => none) = some (d, ρ') := e
  split at e
  · rename_i xs hs
    obtain ⟨d', e1, e2⟩ := Option.map_eq_some_iff.mp e
    cases e2
    obtain ⟨v, hv, hw⟩ := R.sl i _ hs
    rw [hk] at hw
    obtain ⟨a, rfl, ho, hT⟩ := Vw.own hw rfl
    obtain ⟨vs, hH, f⟩ := hT.list
    have hg : xs[xs.length - 1]? = some d := by rw [← List.getLast?_eq_getElem?]; exact e1
    obtain ⟨y, h1, h2⟩ := f.get hg
    refine ⟨_, hv, View.tyList R ⟨_, .own, by decide, hw⟩, a, vs, y, rfl, rfl, hH, by rw [f.length]; exact h1, ?_⟩
    have R2 := R.mut (o := .lst vs.dropLast) (d' := .list xs.dropLast) hk hs hv ho (.inl ⟨_, _, rfl, upd_same, f.dropLast⟩)
    exact q.fz R2 h2
  · cases e
theorem f_popAt (ft : Fit c X) {i : Nat} {a : E} (h : PE X x (tVar i)) (h2 : PE X y (tO c Γ K a)) (hb : isBv a = false) (hy : nos y = true) (hk0 : K.getD i .fz ≠ .src) (hk : (kE a K).getD i .fz = .own) (hn : noSup x = true) {apos cpos : Pos} (hline : (apos.endLine == cpos.line) = true) :
    PE X (.Call (.Attribute x "pop" apos) [y] [] cpos) (tF c K (kE a K) .fz (evE Γ (.popAt i a))) := by
  refine PE.imp (pe_m PySem.F.plainAttrs_list PySem.F.slot_list_pop PySem.F.type_list_pop mt_popAt h (pa_cons h2 pa_nil (star_nos hy)) hn hline (by simp [hy]) (by simp)) fun σ H Q q => ?_
  obtain ⟨g, ρ, ts, d, ρ', R, e, q⟩ := q
  obtain ⟨d0, e0, e⟩ := Option.bind_eq_some_iff.mp e
  obtain ⟨⟨k, ρ1⟩, e1, e⟩ := Option.bind_eq_some_iff.mp e
  dsimp only at e
  split at e
  · rename_i k' xs hs
    split at e
    · rename_i hty
      obtain ⟨j, e2, e⟩ := Option.bind_eq_some_iff.mp e
      obtain ⟨d', e3, e4⟩ := Option.map_eq_some_iff.mp e
      cases e4
      obtain ⟨v, hv, hw⟩ := R.sl i _ e0
      refine ⟨v, hv, ?_, ?_⟩
      · exact tyB_list ft (d := .list []) rfl g K ρ ts H v d0 hty.1 R ⟨_, _, hk0, hw⟩
      · show tO c Γ K a σ H _
        rw [tO_ne hb]
        refine ⟨g, ρ, ts, _, ρ1, R, e1, fun g1 kv H1 R1 => ?_⟩
        have hkv : kv = .int k' := View.int (H := H1) (Fz.view R1.last)
        subst hkv
        have R2 := R1.drop
        obtain ⟨v', hv', hw'⟩ := R2.sl i _ hs
        rw [hv] at hv'; cases hv'
        rw [hk] at hw'
        obtain ⟨p, rfl, ho, hT⟩ := Vw.own hw' rfl
        obtain ⟨vs, hH, f⟩ := hT.list
        obtain ⟨y', h1, h2⟩ := f.get e3
        have hz : xs.length < 2 ^ 62 := Nat.lt_of_le_of_lt hty.2 (by decide)
        obtain ⟨s1, s2, s3, s4⟩ := ixD_seq e2 hz
        refine ⟨p, vs, k', j, y', rfl, rfl, hH, s1, s2, by rw [f.length]; exact s3, h1, ?_⟩
        have R3 := R2.mut (o := .lst (vs.eraseIdx j)) (d' := .list (xs.eraseIdx j)) hk hs hv ho (.inl ⟨_, _, rfl, upd_same, f.eraseIdx j⟩)
        exact q.fz R3 h2
    · cases e
  · cases e
/-- d.setdefault(k, v) -/
def setdR (c : Ct) : V → List V → Hp → VK → Prop := fun x vs H Q => ∃ a es k y v, x = .ref a ∧ vs = [y, v] ∧ DcO c.P c.w a (H a) es ∧ KeyFit c.K H es k y ∧ es.length < sizeLine ∧ (∀ z, eget es k = some z → Q z H) ∧ (eget es k = none → Q v (upd H a (putO c.P c.w a es k y v)))
theorem setd_ok (ft : Fit c X) : MtR X "dict.setdefault" (setdR c) := by
  intro pins s σ H x vs u us Q I rx rv h
  obtain ⟨a, es, k, y, v, rfl, rfl, h, f, hl, w1, w2⟩ := h
  obtain ⟨uk, uv, rfl, ry, rd⟩ := rv.two
  cases (show u = Value.ref a from rx)
  rw [← ft.P, ← ft.w] at h w2
  rw [← ft.K] at f
  have hl2 : (eput es k y v).length ≤ sizeLine := by have := eput_len es k y v; omega
  rcases f with ⟨hk, fl, rfl⟩ | ⟨hk, tk, kd, b, rfl, hb⟩
  · obtain ⟨z, hd, vs0, rel, dd⟩ := dc_flat I h fl
    have hz : vs0.length ≤ sizeLine := by have := rel.length; rw [List.length_map] at this; omega
    have hn : ((es.map fun e => (keyOf e.1, e.2.2)).map (·.1)).Nodup := by
      rw [rel.keys]; obtain ⟨_, _, _, _, _, _, _, _, g6⟩ := dd; exact g6
    refine call_meetsIn F.slot_dict_setdefault dd.typeIs F.entry_dict_setdefault (F.args_dict_setdefault_3 _ _ _) (kt_meets_setdefault (mixKind X.prog X.w) _ (kV_is ry) hd _) ⟨vs0, dd, hz, fun u hu => ?_, fun hn' h' dd' hs => ?_⟩
    · have rr := rel.val (keyOf k)
      rw [hu] at rr
      cases hv : valV (es.map fun e => (keyOf e.1, e.2.2)) (keyOf k) with
      | none => rw [hv] at rr; exact False.elim rr
      | some x =>
        rw [hv] at rr
        exact (⟨x, H, I.tok _, rr, w1 x (by rw [← flat_val hk fl]; exact hv)⟩ : EP X pins σ Q u _)
    · have rr := rel.val (keyOf k)
      rw [hn'] at rr
      cases hv : valV (es.map fun e => (keyOf e.1, e.2.2)) (keyOf k) with
      | some x => rw [hv] at rr; exact False.elim rr
      | none =>
        have q := w2 (by rw [← flat_val hk fl]; exact hv)
        have e : putO X.prog X.w a es k (kV (keyOf k)) v = .dK (putK (es.map fun e => (keyOf e.1, e.2.2)) (keyOf k) v) := by
          unfold putO; rw [if_pos hk, flat_put hk v fl hn]
        rw [e] at q
        have hl3 : (putK (es.map fun e => (keyOf e.1, e.2.2)) (keyOf k) v).length ≤ sizeLine := by rw [flat_put (kv := kV (keyOf k)) hk v fl hn, List.length_map]; exact hl2
        exact (⟨v, _, d_write (t' := s.toks + 1) I (dc_mut h) hs (let ⟨q, _, _, hq, _⟩ := dd'; ⟨q, hq⟩) (dk_new hl3 hd (rel.put _ rd) dd'), rd, q⟩ : EP X pins σ Q _ _)
  · cases (show uk = Value.ref b from ry)
    obtain ⟨z, hd, xs, rel, dd⟩ := dc_tup I h tk kd
    have hz : xs.length ≤ sizeLine := by rw [← Paired.length rel]; exact z
    have hn : (xs.map (·.1)).Nodup := by obtain ⟨_, _, _, _, _, _, _, _, g6⟩ := dd; exact g6
    have tv := tup_val hk rel tk
    refine call_setdefault_heap (knd := deepKind X.prog X.w) (deep_room (by have := ft.units; omega)) (reads_of I hb hk) hd dd (fun p hp => ?_) (fun hn' h' dd' hs => ?_) hz
    · rw [hp] at tv
      cases hv : eget es k with
      | none => rw [hv] at tv; exact False.elim tv
      | some x =>
        rw [hv] at tv
        exact ⟨x, H, I.tok _, tv, w1 x hv⟩
    · rw [hn'] at tv
      cases hv : eget es k with
      | some x => rw [hv] at tv; exact False.elim tv
      | none =>
        have q := w2 hv
        obtain ⟨ob, rows, ep, hq, h2, h3, h4, _, h5⟩ := dd'
        have e : putO X.prog X.w a es k (.ref b) v = .ext (tupPhi X.prog X.w a (eput es k (.ref b) v)) := by
          unfold putO; rw [if_neg fun z => tup_flat hk z]
        rw [e] at q
        refine ⟨v, _, d_write (ob := .ext (tupPhi X.prog X.w a (eput es k (.ref b) v))) I (dc_mut h) hs ⟨ob, hq⟩ ⟨⟨hl2, hd, _, tup_put hk rd rel tk hn, ob, rows, ep, hq, h2, h3, h4, h5⟩, ⟨ob, hq⟩, fun h1 h2' hh hk' => ?_⟩, rd, q⟩
        obtain ⟨l1, l2, ys, l3, o', rows', ep', l4, l5⟩ := hh
        exact ⟨l1, l2, ys, l3, o', rows', ep', hk' _ l4, l5⟩
theorem f_setd (ft : Fit c X) {i : Nat} (h : PE X x (tVar i)) (h2 : PEs X c Γ es K [y, z]) (hb : es.all (fun e => !isBv e) = true) (hbv : bvOk es K = true) (hk0 : K.getD i .fz ≠ .src) (hk : (kEs es K).getD i .fz = .own) (hn : noSup x = true) {apos cpos : Pos} (hline : (apos.endLine == cpos.line) = true) :
    PE X (.Call (.Attribute x "setdefault" apos) [y, z] [] cpos) (tF c K (kEs es K) .fz (evE Γ (.setd i es))) := by
  refine PE.imp (pe_m PySem.F.plainAttrs_dict PySem.F.slot_dict_setdefault PySem.F.type_dict_setdefault (setd_ok ft) h h2.pa hn hline h2.all (by simp)) fun σ H Q q => ?_
  obtain ⟨g, ρ, ts, d, ρ', R, e, q⟩ := q
  obtain ⟨d0, e0, e⟩ := Option.bind_eq_some_iff.mp e
  obtain ⟨⟨ds, ρ1⟩, e1, e⟩ := Option.bind_eq_some_iff.mp e
  dsimp only at e
  split at e
  case h_2 => cases e
  rename_i dx dy kvs hs
  split at e
  case isFalse => cases e
  rename_i hc
  simp only [Bool.and_eq_true, decide_eq_true_eq] at hc
  obtain ⟨⟨hok, hlen⟩, hty⟩ := hc
  obtain ⟨v, hv, hw⟩ := R.sl i _ e0
  refine ⟨v, hv, tyB_dict ft (d := .dict []) rfl g K ρ ts H v d0 hty R ⟨_, _, hk0, hw⟩, ?_⟩
  refine nest_imp es K σ H _ hbv ⟨g, ρ, ts, _, ρ1, R, e1, fun g' vs H' R' ov => ?_⟩
  have fz := ov.fza hb
  obtain ⟨v', hv', hw'⟩ := R'.sl i _ hs
  rw [hv] at hv'; cases hv'
  rw [hk] at hw'
  obtain ⟨p, rfl, ho, hT⟩ := Vw.own hw' rfl
  obtain ⟨ent, hD, fe⟩ := hT.dict
  cases fz with
  | cons fx fz => cases fz with
    | cons fy fz =>
      cases fz
      rename_i xv yv
      have kf : KeyFit c.K H' ent dx xv := (Fz.view fx).key R' fe hok
      have hle : ent.length < sizeLine := by rw [fe.length, ← lim_line]; exact hlen
      refine ⟨p, ent, dx, xv, yv, rfl, rfl, hD, kf, hle, fun z hz => ?_, fun hz => ?_⟩
      · rcases fe.get dx with ⟨_, e3⟩ | ⟨dz, z', e2, e3, hf⟩
        · rw [e3] at hz; cases hz
        · rw [e3] at hz; cases hz
          rw [e2] at e
          cases e
          exact q.fz R' hf
      · rcases fe.get dx with ⟨e2, _⟩ | ⟨dz, z', e2, e3, hf⟩
        · rw [e2] at e
          cases e
          have hdc := putO_dc (P := c.P) (w := c.w) (a := p) (v := yv) kf
          have R3 := R'.mut (o := putO c.P c.w p ent dx xv yv) (d' := .dict (dset kvs dx _)) hk hs hv ho (.inr ⟨_, _, rfl, by rw [upd_same]; exact hdc, fe.put fx fy⟩)
          exact q.fz R3 fy
        · rw [e3] at hz; cases hz

/-! ### calls of defs -/
end
end EvS
set_option linter.all false
set_option Elab.async false
set_option maxRecDepth 100000
set_option maxHeartbeats 8000000
/-! EvG: calls of defs, comprehensions, tests; the match of expressions is sound. -/
namespace EvS
open PySem PySem.Spec PyProof.Rows L2 EvK
open Ev (D E S Tgt Ste Src getS restore flatK tupK dget dset dsetAll okK lim isInts isBls seqD pairsD evE evV evAnd evOr boolR Calls tyD asgT asgTs tnm tnms compL pureE pureEs Bi biD Bop Cop binD cmpD atD)
section
variable {c : Ct} {X : Cx} {S : SS} {Γ : Calls} {n : Cn} {K : List Kd} {es : List E} {x y z : Expr} {bs : List Expr} {pos : Pos}
/-! ### calls of defs -/
theorem f_call0 (ft : Fit c X) {f : String} {rk : Kd} {p : Pos} (F : CallF c X Γ f false rk es.length) (hrk : rk ≠ .src) (hg : Gl X f) (hd : ((f : Str) == ("__debug__" : Str)) = false) (h : PEs X c Γ es K (x :: bs)) (hb : bvOk es K = true) (hn : es.all (fun e => !isBv e) = true) :
    PE X (.Call (.Name f p) (x :: bs) [] pos) (tF c K (kEs es K) rk (evE Γ (.call f none es))) := by
  obtain ⟨fa, fd, ps, k, h1, h2, h3, h4, h5⟩ := F.ex
  refine PE.imp (pe_callG h2 ft.gd h3 hg h1 h4 h5 h.pa hd h.all) fun σ H Q q => ?_
  obtain ⟨g, ρ, ts, d, ρ', R, e, q⟩ := q
  obtain ⟨⟨ds, ρ1⟩, ev, e⟩ := Option.bind_eq_some_iff.mp e
  obtain ⟨⟨d', s'⟩, e1, e2⟩ := Option.map_eq_some_iff.mp e
  cases e2
  refine nest_imp es K σ H _ hb ⟨g, ρ, ts, ds, _, R, ev, fun g' vs H' R' ov => ?_⟩
  refine ⟨c.call g' H' false, _, vs, ds, d, s', rfl, rfl, rfl, rfl, R'.enter (hs := false) (fun z => nomatch z), rfl, by rw [ov.len.2]; rfl, ov.fza hn, e1, fun g2 Ks2 ρ2 σ2 H2 v R2 hs => ?_⟩
  obtain ⟨g3, R3⟩ := R'.back (hs := false) (fun z => nomatch z) hrk R2
  exact q g3 v H2 R3
theorem f_call1 (ft : Fit c X) {f : String} {rk : Kd} {p : Pos} {i : Nat} (F : CallF c X Γ f true rk es.length) (hrk : rk ≠ .src) (hg : Gl X f) (hd : ((f : Str) == ("__debug__" : Str)) = false) (hx : PE X x (tVar i)) (hnx : nos x = true) (hk : K.getD i .fz = .src) (h : PEs X c Γ es K bs) (hb : bvOk es K = true) (hn : es.all (fun e => !isBv e) = true) :
    PE X (.Call (.Name f p) (x :: bs) [] pos) (tF c K (kEs es K) rk (evE Γ (.call f (some i) es))) := by
  obtain ⟨fa, fd, ps, k, h1, h2, h3, h4, h5⟩ := F.ex
  have hall : (x :: bs).all nos = true := by simp only [List.all_cons, Bool.and_eq_true]; exact ⟨hnx, h.all⟩
  refine PE.imp (pe_callG h2 ft.gd h3 hg h1 h4 h5 (pa_cons hx h.pa (star_nos hnx)) hd hall) fun σ H Q q => ?_
  obtain ⟨g, ρ, ts, d, ρ', R, e, q⟩ := q
  obtain ⟨d0, e0, e⟩ := Option.bind_eq_some_iff.mp e
  obtain ⟨⟨ds, ρ1⟩, ev, e⟩ := Option.bind_eq_some_iff.mp e
  obtain ⟨⟨d', s'⟩, e1, e2⟩ := Option.map_eq_some_iff.mp e
  cases e2
  obtain ⟨v, hv, hw⟩ := R.sl i _ e0
  rw [hk] at hw
  obtain ⟨_, rfl, hcs⟩ := hw
  refine ⟨_, hv, ?_⟩
  refine nest_imp es K σ H _ hb ⟨g, ρ, ts, ds, _, R, ev, fun g' vs H' R' ov => ?_⟩
  refine ⟨c.call g' H' true, ρ1.src, vs, ds, d, s', rfl, rfl, rfl, rfl, R'.enter fun _ => hcs, rfl, by rw [List.length_cons, ov.len.2]; rfl, ov.fza hn, e1, fun g2 Ks2 ρ2 σ2 H2 v R2 hs => ?_⟩
  obtain ⟨g3, R3⟩ := R'.back (fun _ => hcs) hrk R2
  rw [if_pos rfl, hs, if_pos rfl] at R3
  exact q g3 v H2 R3

/-! ### tests -/
/-- tests in a row, with their readings -/
inductive PTl (X : Cx) (c : Ct) (Γ : Calls) : List E → List Kd → List Expr → Prop
  | nil {K : List Kd} : PTl X c Γ [] K []
  | cons {e : E} {es : List E} {K : List Kd} {b : Expr} {bs : List Expr} : PT X b (tBF c K (kE e K) (evE Γ e)) → (∃ kd, kd ≠ .src ∧ PE X b (tF c K (kE e K) kd (evE Γ e))) → leK (kEs es (kE e K)) (kE e K) = true → PTl X c Γ es (kE e K) bs → PTl X c Γ (e :: es) K (b :: bs)
theorem boolR_of {r : Option (D × Ste)} {b : Bool} {ρ : Ste} (h : r = some (.bool b, ρ)) : boolR r = some (b, ρ) := by rw [h]; rfl
theorem bool_out {g : Gh} {Ks : List Kd} {ρ : Ste} {ts : List Tm} {σ : L2.St} {H : Hp} {kd : Kd} {b : Bool} {v : V} (hk : kd ≠ .src) (R : Rel c g Ks ρ (ts ++ [(kd, .bool b, v)]) σ H) : v = .bl b := View.bl ⟨_, kd, hk, R.last⟩
theorem f_andT : ∀ (es : List E) (e : E) (K : List Kd) (b : Expr) (bs : List Expr) (pos : Pos), PTl X c Γ (e :: es) K (b :: bs) → PW X (.BoolOp .And (b :: bs) pos) (tBF c K (kEs (e :: es) K) (evAnd Γ (e :: es)))
  | [], e, K, b, bs, pos, h => by
    cases h with
    | cons h1 _ _ t =>
      cases t
      refine PW.imp (pw_and1 h1) fun σ H Q q => ?_
      obtain ⟨g, ρ, ts, v, ρ', R, ev, q⟩ := q
      obtain ⟨⟨b', ρ1⟩, e1, e2⟩ := Option.bind_eq_some_iff.mp ev
      have e1 := Ev.boolR_some e1
      dsimp only at e2
      cases b' with
      | true =>
        rw [if_pos rfl] at e2
        cases e2
        exact ⟨g, ρ, ts, true, _, R, e1, q⟩
      | false =>
        rw [if_neg Bool.false_ne_true] at e2
        cases e2
        exact ⟨g, ρ, ts, false, _, R, e1, q⟩
  | e2 :: es, e, K, b, bs, pos, h => by
    cases h with
    | cons h1 _ hl t =>
      cases t with
      | cons h2 h2' hl2 t2 =>
        refine PW.imp (pw_and h1 (f_andT es e2 (kE e K) _ _ pos (.cons h2 h2' hl2 t2))) fun σ H Q q => ?_
        obtain ⟨g, ρ, ts, v, ρ', R, ev, q⟩ := q
        obtain ⟨⟨b', ρ1⟩, e1, e2⟩ := Option.bind_eq_some_iff.mp ev
        have e1 := Ev.boolR_some e1
        dsimp only at e2
        refine ⟨g, ρ, ts, b', ρ1, R, e1, fun g' H' R' => ?_⟩
        cases b' with
        | true =>
          rw [if_pos rfl] at e2
          refine iteT ?_
          exact ⟨g', ρ1, ts, v, ρ', R', e2, q⟩
        | false =>
          rw [if_neg Bool.false_ne_true] at e2
          cases e2
          refine iteF ?_
          obtain ⟨g2, R2⟩ := R'.low hl
          exact q g2 H' R2
theorem f_orT : ∀ (es : List E) (e : E) (K : List Kd) (b : Expr) (bs : List Expr) (pos : Pos), PTl X c Γ (e :: es) K (b :: bs) → PW X (.BoolOp .Or (b :: bs) pos) (tBF c K (kEs (e :: es) K) (evOr Γ (e :: es)))
  | [], e, K, b, bs, pos, h => by
    cases h with
    | cons h1 _ _ t =>
      cases t
      refine PW.imp (pw_or1 h1) fun σ H Q q => ?_
      obtain ⟨g, ρ, ts, v, ρ', R, ev, q⟩ := q
      obtain ⟨⟨b', ρ1⟩, e1, e2⟩ := Option.bind_eq_some_iff.mp ev
      have e1 := Ev.boolR_some e1
      dsimp only at e2
      cases b' with
      | true =>
        rw [if_pos rfl] at e2
        cases e2
        exact ⟨g, ρ, ts, true, _, R, e1, q⟩
      | false =>
        rw [if_neg Bool.false_ne_true] at e2
        cases e2
        exact ⟨g, ρ, ts, false, _, R, e1, q⟩
  | e2 :: es, e, K, b, bs, pos, h => by
    cases h with
    | cons h1 _ hl t =>
      cases t with
      | cons h2 h2' hl2 t2 =>
        refine PW.imp (pw_or h1 (f_orT es e2 (kE e K) _ _ pos (.cons h2 h2' hl2 t2))) fun σ H Q q => ?_
        obtain ⟨g, ρ, ts, v, ρ', R, ev, q⟩ := q
        obtain ⟨⟨b', ρ1⟩, e1, e2⟩ := Option.bind_eq_some_iff.mp ev
        have e1 := Ev.boolR_some e1
        dsimp only at e2
        refine ⟨g, ρ, ts, b', ρ1, R, e1, fun g' H' R' => ?_⟩
        cases b' with
        | true =>
          rw [if_pos rfl] at e2
          cases e2
          refine iteT ?_
          obtain ⟨g2, R2⟩ := R'.low hl
          exact q g2 H' R2
        | false =>
          rw [if_neg Bool.false_ne_true] at e2
          refine iteF ?_
          exact ⟨g', ρ1, ts, v, ρ', R', e2, q⟩
theorem f_andV : ∀ (es : List E) (e : E) (K : List Kd) (b : Expr) (bs : List Expr) (pos : Pos), PTl X c Γ (e :: es) K (b :: bs) → PE X (.BoolOp .And (b :: bs) pos) (tF c K (kEs (e :: es) K) .own (evAnd Γ (e :: es)))
  | [], e, K, b, bs, pos, h => by
    cases h with
    | cons _ h1 _ t =>
      cases t
      obtain ⟨kd, hk, h1⟩ := h1
      refine PE.imp (pe_one h1) fun σ H Q q => ?_
      obtain ⟨g, ρ, ts, v, ρ', R, ev, q⟩ := q
      obtain ⟨⟨b', ρ1⟩, e1, e2⟩ := Option.bind_eq_some_iff.mp ev
      have e1 := Ev.boolR_some e1
      dsimp only at e2
      cases b' with
      | true =>
        rw [if_pos rfl] at e2
        cases e2
        refine ⟨g, ρ, ts, _, _, R, e1, fun g' v H' R' => ?_⟩
        cases bool_out hk R'
        exact q.bl R'.drop
      | false =>
        rw [if_neg Bool.false_ne_true] at e2
        cases e2
        refine ⟨g, ρ, ts, _, _, R, e1, fun g' v H' R' => ?_⟩
        cases bool_out hk R'
        exact q.bl R'.drop
  | e2 :: es, e, K, b, bs, pos, h => by
    cases h with
    | cons _ h1 hl t =>
      cases t with
      | cons h2 h2' hl2 t2 =>
        obtain ⟨kd, hk, h1⟩ := h1
        refine PE.imp (pe_and h1 (f_andV es e2 (kE e K) _ _ pos (.cons h2 h2' hl2 t2))) fun σ H Q q => ?_
        obtain ⟨g, ρ, ts, v, ρ', R, ev, q⟩ := q
        obtain ⟨⟨b', ρ1⟩, e1, e2⟩ := Option.bind_eq_some_iff.mp ev
        have e1 := Ev.boolR_some e1
        dsimp only at e2
        refine ⟨g, ρ, ts, .bool b', ρ1, R, e1, fun g' v' H' R' => ⟨b', bool_out hk R', ?_⟩⟩
        cases b' with
        | true =>
          rw [if_pos rfl] at e2
          refine iteT ?_
          exact ⟨g', ρ1, ts, v, ρ', R'.drop, e2, q⟩
        | false =>
          rw [if_neg Bool.false_ne_true] at e2
          cases e2
          refine iteF ?_
          obtain ⟨g2, R2⟩ := R'.drop.low hl
          exact q.bl R2
theorem f_orV : ∀ (es : List E) (e : E) (K : List Kd) (b : Expr) (bs : List Expr) (pos : Pos), PTl X c Γ (e :: es) K (b :: bs) → PE X (.BoolOp .Or (b :: bs) pos) (tF c K (kEs (e :: es) K) .own (evOr Γ (e :: es)))
  | [], e, K, b, bs, pos, h => by
    cases h with
    | cons _ h1 _ t =>
      cases t
      obtain ⟨kd, hk, h1⟩ := h1
      refine PE.imp (pe_one h1) fun σ H Q q => ?_
      obtain ⟨g, ρ, ts, v, ρ', R, ev, q⟩ := q
      obtain ⟨⟨b', ρ1⟩, e1, e2⟩ := Option.bind_eq_some_iff.mp ev
      have e1 := Ev.boolR_some e1
      dsimp only at e2
      cases b' with
      | true =>
        rw [if_pos rfl] at e2
        cases e2
        refine ⟨g, ρ, ts, _, _, R, e1, fun g' v H' R' => ?_⟩
        cases bool_out hk R'
        exact q.bl R'.drop
      | false =>
        rw [if_neg Bool.false_ne_true] at e2
        cases e2
        refine ⟨g, ρ, ts, _, _, R, e1, fun g' v H' R' => ?_⟩
        cases bool_out hk R'
        exact q.bl R'.drop
  | e2 :: es, e, K, b, bs, pos, h => by
    cases h with
    | cons _ h1 hl t =>
      cases t with
      | cons h2 h2' hl2 t2 =>
        obtain ⟨kd, hk, h1⟩ := h1
        refine PE.imp (pe_or h1 (f_orV es e2 (kE e K) _ _ pos (.cons h2 h2' hl2 t2))) fun σ H Q q => ?_
        obtain ⟨g, ρ, ts, v, ρ', R, ev, q⟩ := q
        obtain ⟨⟨b', ρ1⟩, e1, e2⟩ := Option.bind_eq_some_iff.mp ev
        have e1 := Ev.boolR_some e1
        dsimp only at e2
        refine ⟨g, ρ, ts, .bool b', ρ1, R, e1, fun g' v' H' R' => ⟨b', bool_out hk R', ?_⟩⟩
        cases b' with
        | true =>
          rw [if_pos rfl] at e2
          cases e2
          refine iteT ?_
          obtain ⟨g2, R2⟩ := R'.drop.low hl
          exact q.bl R2
        | false =>
          rw [if_neg Bool.false_ne_true] at e2
          refine iteF ?_
          exact ⟨g', ρ1, ts, v, ρ', R'.drop, e2, q⟩
theorem not_out {a : E} {σ : L2.St} {H : Hp} {K' : List Kd} {Q : Bool → Hp → Prop} (q : tBF c K K' (evE Γ (.not a)) σ H Q) : tBF c K K' (evE Γ a) σ H fun b H' => Q (!b) H' := by
  obtain ⟨g, ρ, ts, b, ρ', R, ev, q⟩ := q
  obtain ⟨⟨b', ρ1⟩, e1, e2⟩ := Option.map_eq_some_iff.mp ev
  have e1 := Ev.boolR_some e1
  cases e2
  exact ⟨g, ρ, ts, b', _, R, e1, q⟩
theorem f_not {a : E} {kd : Kd} (hk : kd ≠ .src) (h : PE X x (tF c K (kE a K) kd (evE Γ a))) (ht : PT X x (tBF c K (kE a K) (evE Γ a))) :
    PE X (.UnaryOp .Not x pos) (tF c K (kE a K) .own (evE Γ (.not a))) ∧ PT X (.UnaryOp .Not x pos) (tBF c K (kE a K) (evE Γ (.not a))) := by
  refine ⟨PE.imp (pe_not h) fun σ H Q q => ?_, PT.imp (pt_not ht) fun σ H Q q => not_out q⟩
  obtain ⟨g, ρ, ts, d, ρ', R, ev, q⟩ := q
  obtain ⟨⟨b', ρ1⟩, e1, e2⟩ := Option.map_eq_some_iff.mp ev
  have e1 := Ev.boolR_some e1
  cases e2
  exact ⟨g, ρ, ts, .bool b', _, R, e1, fun g' v H' R' => ⟨b', bool_out hk R', q.bl R'.drop⟩⟩
theorem f_ite {t a b : E} {ka kb : Kd} (na : ka ≠ .src) (nb : kb ≠ .src) (ht : PT X x (tBF c K (kE t K) (evE Γ t))) (ha : PE X y (tF c (kE t K) (kE a (kE t K)) ka (evE Γ a))) (hb : PE X z (tF c (kE t K) (kE b (kE t K)) kb (evE Γ b)))
    (l1 : leK (kE b (kE a (kE t K))) (kE a (kE t K)) = true) (l2 : leK (kE b (kE a (kE t K))) (kE b (kE t K)) = true) :
    PE X (.IfExp x y z pos) (tF c K (kE b (kE a (kE t K))) (if ka = .own then kb else .fz) (evE Γ (.ite t a b))) := by
  refine PE.imp (pe_ifExp ht ha hb) fun σ H Q q => ?_
  obtain ⟨g, ρ, ts, d, ρ', R, ev, q⟩ := q
  obtain ⟨⟨c', ρ1⟩, e1, e2⟩ := Option.bind_eq_some_iff.mp ev
  have e1 := Ev.boolR_some e1
  refine ⟨g, ρ, ts, c', ρ1, R, e1, fun g' H' R' => ?_⟩
  dsimp only at e2
  have fit : ∀ {k : Kd} {g2 K2 v H2}, k ≠ .src → (k = .own → (if ka = .own then kb else .fz) = .own ∨ (if ka = .own then kb else .fz) = .fz) → (k = .fz → (if ka = .own then kb else Kd.fz) = .fz) → leK (kE b (kE a (kE t K))) K2 = true → Rel c g2 K2 ρ' (ts ++ [(k, d, v)]) σ H2 → Q v H2 := by
    intro k g2 K2 v H2 nk ho hz hl R2
    obtain ⟨g3, R3⟩ := R2.low hl
    cases k with
    | src => exact absurd rfl nk
    | fz => exact q g3 v H2 (by rw [hz rfl]; exact R3)
    | own =>
      rcases ho rfl with z | z
      · exact q g3 v H2 (by rw [z]; exact R3)
      · obtain ⟨g4, R4⟩ := R3.toFz (by decide)
        exact q g4 v H2 (by rw [z]; exact R4)
  have kk : ∀ k : Kd, k ≠ .src → k = .own ∨ k = .fz := fun k h => by cases k <;> simp at h ⊢
  cases c' with
  | true =>
    rw [if_pos rfl] at e2
    refine iteT ⟨g', ρ1, ts, d, ρ', R', e2, fun g2 v H2 R2 => fit na (fun h => ?_) (fun h => ?_) l1 R2⟩
    · rw [if_pos h]; exact kk kb nb
    · rw [if_neg (by rw [h]; decide)]
  | false =>
    rw [if_neg Bool.false_ne_true] at e2
    refine iteF ⟨g', ρ1, ts, d, ρ', R', e2, fun g2 v H2 R2 => fit nb (fun h => ?_) (fun h => ?_) l2 R2⟩
    · by_cases z : ka = .own
      · rw [if_pos z]; exact .inl h
      · rw [if_neg z]; exact .inr rfl
    · by_cases z : ka = .own
      · rw [if_pos z]; exact h
      · rw [if_neg z]
end
end EvS
set_option linter.all false
set_option Elab.async false
set_option maxRecDepth 100000
set_option maxHeartbeats 16000000
/-! EvH: targets, what is walked, comprehensions; the match of expressions is sound. -/
namespace EvS
open PySem PySem.Spec PyProof.Rows L2 EvK
open Ev (D E S Tgt Ste Src getS restore flatK tupK dget dset dsetAll okK lim isInts isBls seqD pairsD evE evV evAnd evOr boolR Calls tyD asgT asgTs tnm tnms compL pureE pureEs Bi biD Bop Cop binD cmpD atD)
section
variable {c : Ct} {X : Cx} {S : SS} {Γ : Calls} {n : Cn} {K : List Kd} {es : List E} {x y z : Expr} {bs : List Expr} {pos : Pos}
theorem locB_ok (sd : Sd c X S Γ) (hh : Here X n) {i : Nat} {x : Str} (h : locB S n i x = true) : X.N[i]? = some x ∧ Loc X.env.scope x ∧ (X.fn x = true ∨ X.env.scope.names.lookup x = some .local) := by
  unfold locB at h
  simp only [Bool.and_eq_true, Bool.or_eq_true, decide_eq_true_eq] at h
  rw [sd.N, hh.sc, hh.fn]
  rcases h with ⟨h1, h2 | ⟨h2, h3⟩⟩
  · exact ⟨h1, .inl h2, .inr h2⟩
  · exact ⟨h1, .inr h2, .inl h3⟩
/-- targets that are names or rows of names -/
def plainTg : Expr → Bool
  | .Name .. => true
  | .Tuple .. => true
  | _ => false
theorem mT_plain {t : Tgt} {e : Expr} (h : mT S n t e = true) : plainTg e = true := by
  cases t <;> cases e <;> first | rfl | (simp [mT] at h; done)
theorem mTs_plain : ∀ {ts : List Tgt} {es : List Expr}, mTs S n ts es = true → es.length = ts.length ∧ es.all plainTg = true
  | [], [], _ => ⟨rfl, rfl⟩
  | [], _ :: _, h => by simp [mTs] at h
  | _ :: _, [], h => by simp [mTs] at h
  | t :: ts, e :: es, h => by
    simp only [mTs, Bool.and_eq_true] at h
    obtain ⟨h1, h2⟩ := mTs_plain h.2
    exact ⟨by rw [List.length_cons, List.length_cons, h1], by simp only [List.all_cons, Bool.and_eq_true]; exact ⟨mT_plain h.1, h2⟩⟩
theorem assignEach_plain {env : Env} : ∀ {es : List Expr}, es.all plainTg = true → assignEach es env = es.map fun e => (false, assign e env)
  | [], _ => rfl
  | e :: es, h => by
    simp only [List.all_cons, Bool.and_eq_true] at h
    have ih := assignEach_plain (env := env) h.2
    rw [List.map_cons, ← ih]
    cases e <;> first | rfl | (simp [plainTg] at h; done)
mutual
theorem mT_ok (sd : Sd c X S Γ) (hh : Here X n) : ∀ (t : Tgt) (ast : Expr), mT S n t ast = true → PG X ast (gT c.K t)
  | .nm i, ast, h => by
    cases ast <;> try (simp [mT] at h; done)
    simp only [mT] at h
    obtain ⟨h1, h2, h3⟩ := locB_ok sd hh h
    exact pg_name sd.nd h1 h2 h3
  | .tup ts, ast, h => by
    cases ast <;> try (simp [mT] at h; done)
    simp only [mT] at h
    have hp := mTs_ok sd hh ts _ h
    obtain ⟨hl, ha⟩ := mTs_plain h
    show PG X _ (gTup c.K ts.length (gTs c.K ts))
    rw [← sd.ft.K]
    rw [← sd.ft.K] at hp
    refine pg_tup sd.ft.calm hp (by rw [assignEach_plain ha, List.length_map, hl]) ?_
    rw [assignEach_plain ha, List.findIdx?_eq_none_iff]
    intro p hp
    obtain ⟨e, _, rfl⟩ := List.mem_map.mp hp
    rfl
theorem mTs_ok (sd : Sd c X S Γ) (hh : Here X n) : ∀ (ts : List Tgt) (es : List Expr), mTs S n ts es = true → PGs X es (gTs c.K ts)
  | [], [], _ => pgs_nil
  | [], _ :: _, h => by simp [mTs] at h
  | _ :: _, [], h => by simp [mTs] at h
  | t :: ts, e :: es, h => by
    have h0 := (mTs_plain h).2
    simp only [mTs, Bool.and_eq_true] at h
    refine pgs_cons (mT_ok sd hh t e h.1) (mTs_ok sd hh ts es h.2) ?_
    have h1 := h0
    simp only [List.all_cons, Bool.and_eq_true] at h1
    rw [assignEach_plain h0, assignEach_plain (es := es) (by simpa using h1.2)]
    rfl
end

/-! ### what is walked -/
theorem keep_non {ts tw : List Tm} {it : E} {ρ1 : Ste} {σ : L2.St} : Keep c ts tw it ρ1 σ .none .non := fun g Ks ρ' ts' σ' H R _ => Fz.view .non
theorem f_enum (ft : Fit c X) {elts : List Expr} {kk : Nat} {p tpos : Pos} (hg : Gl X "enumerate") (hm : X.mg "enumerate" = none) (h : PEs X c Γ es K [y]) (hy : nos y = true) (hb : bvOk es K = true) :
    PI X (.Tuple elts kk tpos) (.Call (.Name "enumerate" p) [y] [] pos) (tIF c K (kEs es K) (.enum es) (evE Γ (.enum es))) := by
  obtain ⟨a, rfl, h1⟩ := h.one
  refine PI.imp (pi_enumA hg hm (pa_cons h1 pa_nil (star_nos hy)) (star_nos hy)) fun σ H R q => ?_
  rw [ft.K]
  obtain ⟨g, ρ, ts, d, ρ1, xs, R0, ev, sq, q⟩ := q
  obtain ⟨⟨ds, ρ2⟩, e1, e2⟩ := Option.bind_eq_some_iff.mp ev
  have fin : ∀ {g1 tw H1 v d1}, ds = [d1] → ρ2 = ρ1 → Rel c g1 (kEs [a] K) ρ1 (ts ++ tw) σ H1 → Keep c ts tw (.enum [a]) ρ1 σ d1 v → View c g1 H1 d1 v → ∃ a xs, [v] = [V.ref a] ∧ ((SqL c.K H1 a xs ∧ R (Ite c.K a) H1) ∨ (SqT c.K H1 a xs ∧ R (IteT c.K a) H1)) := fun {g1 tw H1 v d1} hd hr R1 kp vw => by
    subst hd
    dsimp only at e2
    split at e2
    · rename_i l he
      cases he
      cases e2
      cases sq
      obtain ⟨a', vs, rfl, h1, f⟩ := vw.list R1
      exact ⟨a', vs, rfl, .inl ⟨.inl (.inl h1), q _ g1 tw H1 _ _ R1 kp walkG_enum⟩⟩
    · rename_i l he
      cases he
      cases e2
      cases sq
      obtain ⟨a', vs, rfl, h0, h1, f⟩ := vw.tuple R1
      exact ⟨a', vs, rfl, .inr ⟨h1, q _ g1 tw H1 _ _ R1 kp walkG_enumT⟩⟩
    · cases e2
  have hr : ρ2 = ρ1 := by
    dsimp only at e2
    split at e2
    · cases e2; rfl
    · cases e2; rfl
    · cases e2
  subst hr
  by_cases hv : isBv a = true
  · obtain ⟨i, rfl⟩ := isBv_iff hv
    rw [evV_bv] at e1
    obtain ⟨d0, e0, e1⟩ := Option.bind_eq_some_iff.mp e1
    obtain ⟨⟨ds', ρ3⟩, e3, e1⟩ := Option.bind_eq_some_iff.mp e1
    cases e3
    obtain ⟨d1, e4, e1⟩ := Option.bind_eq_some_iff.mp e1
    rw [e0] at e4; cases e4
    have e1 : (if tyD d0 = tyD d0 then some ([d0], ρ) else none) = some (ds, ρ2) := e1
    rw [if_pos rfl] at e1
    cases e1
    simp only [bvOk, Bool.and_eq_true] at hb
    obtain ⟨v, h1, h2⟩ := R0.viewSl e0 (of_decide_eq_true hb.1.2)
    exact ⟨v, h1, fin (tw := []) rfl rfl (by rw [List.append_nil]; exact R0) (keep_bv rfl e0 h1) h2⟩
  · have hv : isBv a = false := by simpa using hv
    show tO c Γ K a σ H _
    rw [tO_ne hv]
    rw [evV_ne hv] at e1
    obtain ⟨⟨d1, ρ3⟩, e3, e1⟩ := Option.bind_eq_some_iff.mp e1
    cases e1
    exact ⟨g, ρ, ts, d1, _, R0, e3, fun g1 v H1 R1 => fin (tw := [(.fz, d1, v)]) rfl rfl R1 keep_tm (Fz.view R1.last)⟩
theorem f_rng1 (ft : Fit c X) {a : E} {p : Pos} {tg : Expr} (hg : Gl X "range") (hm : X.mg "range" = none) (h : PE X y (tO c Γ K a)) (hba : isBv a = false) (hy : nos y = true) :
    PI X tg (.Call (.Name "range" p) [y] [] pos) (tIF c K (kE a K) (.rng1 a) (evE Γ (.rng1 a))) := by
  refine PI.imp (pi_range1 hg hm (pa_cons h pa_nil (star_nos hy)) (star_nos hy)) fun σ H R q => ?_
  obtain ⟨g, ρ, ts, d, ρ1, xs, R0, ev, sq, q⟩ := q
  obtain ⟨⟨d1, ρ2⟩, e1, e2⟩ := Option.bind_eq_some_iff.mp ev
  dsimp only at e2
  split at e2
  case h_2 => cases e2
  rename_i m
  split at e2
  case isFalse => cases e2
  rename_i hlt
  cases e2
  cases sq
  show tO c Γ K a σ H _
  rw [tO_ne hba]
  refine ⟨g, ρ, ts, _, _, R0, e1, fun g1 v H1 R1 => ?_⟩
  have hv : v = .int m := View.int (H := H1) (Fz.view R1.last)
  subst hv
  exact ⟨m, rfl, by omega, by omega, q _ g1 _ H1 .none .non R1 keep_non walkG_rng⟩
theorem f_rng2 (ft : Fit c X) {p : Pos} {tg : Expr} (hg : Gl X "range") (hm : X.mg "range" = none) (h : PEs X c Γ es K [y, z]) (hy : nos y = true) (hz : nos z = true) (hb : bvOk es K = true) :
    PI X tg (.Call (.Name "range" p) [y, z] [] pos) (tIF c K (kEs es K) (.rng2 es) (evE Γ (.rng2 es))) := by
  refine PI.imp (pi_range2 hg hm h.pa (by rw [star_nos hy, star_nos hz]; rfl) (star_nos hz)) fun σ H R q => ?_
  obtain ⟨g, ρ, ts, d, ρ1, xs, R0, ev, sq, q⟩ := q
  obtain ⟨⟨ds, ρ2⟩, e1, e2⟩ := Option.bind_eq_some_iff.mp ev
  dsimp only at e2
  split at e2
  case h_2 => cases e2
  rename_i m k
  split at e2
  case isFalse => cases e2
  rename_i hlt
  cases e2
  cases sq
  refine nest_imp es K σ H _ hb ⟨g, ρ, ts, _, _, R0, e1, fun g' vs H' R' ov => ?_⟩
  obtain ⟨u, v, rfl, v1, v2⟩ := ov.two
  cases v1.int; cases v2.int
  exact ⟨m, k, rfl, ⟨by omega, by omega, by omega, by omega⟩, q _ g' [] H' .none .non (by rw [List.append_nil]; exact R') keep_non walkG_rng⟩

/-! ### comprehensions -/
theorem here_blk (hh : Here X n) (s : Shared) (H : Hp) (scope : Scope) (C : Addr) (cl : List (Str × Addr)) (fp : List Addr) : Here (X.blk s H scope (compEnvC scope cl C X.env) fp) (blkN n scope) := by
  refine ⟨?_, rfl⟩
  show relabel scope X.env = relS scope n.sc
  rw [← hh.sc]
  rfl
structure CompOk (X : Cx) (c : Ct) (S : SS) (Γ : Calls) (K K2 : List Kd) (own : List Nat) (t : Tgt) (it : E) (cond : List E) (elt : E) (x tg iter : Expr) (ifs : List Expr) (scope : Scope) : Prop where
  cal : X.calm = true
  nd : X.N.Nodup
  hi : PI X tg iter (tIF c K (kE it K) it (evE Γ it))
  ok : BlkOk X.N X.env.scope scope (ownN S own)
  hg : ∀ (s : Shared) (H : Hp) (C : Addr) (cl : List (Str × Addr)) (fp : List Addr), PG (X.blk s H scope (compEnvC scope cl C X.env) fp) tg (gT c.K t)
  ht : ∀ (s : Shared) (H : Hp) (C : Addr) (cl : List (Str × Addr)) (fp : List Addr), PTs (X.blk s H scope (compEnvC scope cl C X.env) fp) ifs (tBF c K2 K2 (evAnd Γ cond))
  he : ∀ (s : Shared) (H : Hp) (C : Addr) (cl : List (Str × Addr)) (fp : List Addr), PE (X.blk s H scope (compEnvC scope cl C X.env) fp) x (tF c K2 K2 .fz (evE Γ elt))
  hs : ∀ x, foldedSetIterable iter X.env x = pure x
  im : ∀ σ H Q, tF c K K2 .own (evE Γ (.comp own t it cond elt)) σ H Q → tLc (tIF c K (kE it K) it (evE Γ it)) (gT c.K t) (tBF c K2 K2 (evAnd Γ cond)) (tF c K2 K2 .fz (evE Γ elt)) own σ H Q
theorem own_map (own : List Nat) : (ownN S own).map (·.2) = own := by
  unfold ownN
  rw [List.map_map]
  exact List.map_id' own
theorem CompOk.pe {K2 : List Kd} {own : List Nat} {t : Tgt} {it : E} {cond : List E} {elt : E} {tg iter : Expr} {ifs : List Expr} {scope : Scope} (h : CompOk X c S Γ K K2 own t it cond elt x tg iter ifs scope) :
    PE X (.ListComp x [⟨tg, iter, ifs, 0⟩] scope pos) (tF c K K2 .own (evE Γ (.comp own t it cond elt))) := by
  have := pe_lc (pos := pos) h.cal h.nd h.hi h.ok h.hg h.ht h.he h.hs
  rw [own_map] at this
  exact PE.imp this h.im
theorem pts_of (h : PTl X c Γ es K bs) (hl : es.length ≤ 1) : PTs X bs (tBF c K (kEs es K) (evAnd Γ es)) := by
  cases h with
  | nil =>
    exact ⟨fun pins s σ H Q I q => pts_nil.run pins s σ H Q I (by
      obtain ⟨g, ρ, ts, b, ρ', R, ev, q⟩ := q
      cases ev
      exact q g H R)⟩
  | cons h1 _ _ t =>
    cases t with
    | nil =>
      refine ⟨fun pins s σ H Q I q => (pts_one h1).run pins s σ H Q I ?_⟩
      obtain ⟨g, ρ, ts, v, ρ', R, ev, q⟩ := q
      obtain ⟨⟨b', ρ1⟩, e1, e2⟩ := Option.bind_eq_some_iff.mp ev
      have e1 := Ev.boolR_some e1
      dsimp only at e2
      cases b' with
      | true =>
        rw [if_pos rfl] at e2
        cases e2
        exact ⟨g, ρ, ts, true, _, R, e1, q⟩
      | false =>
        rw [if_neg Bool.false_ne_true] at e2
        cases e2
        exact ⟨g, ρ, ts, false, _, R, e1, q⟩
    | cons _ _ _ _ => simp at hl
end
end EvS
set_option linter.all false
set_option Elab.async false
set_option maxRecDepth 100000
set_option maxHeartbeats 16000000
/-! EvV: the match, read backwards (printed by gen_inv.py). -/
namespace EvS
open PySem PySem.Spec PyProof.Rows L2 EvK
open Ev (D E S Tgt Ste Src tnm pureE pureEs Bi)
section
variable {S : SS} {n : Cn} {K : List Kd} {ast : Expr}
theorem inv_non (h : mE S .non n K ast = true) : ∃ k p, ast = .Constant .none k p := by
  rw [mE_non] at h
  split at h
  · exact ⟨_, _, rfl⟩
  · cases h
theorem inv_dic (h : mE S .dic n K ast = true) : ∃ p, ast = .Dict [] [] p := by
  rw [mE_dic] at h
  split at h
  · exact ⟨_, rfl⟩
  · cases h
theorem inv_var {K : List Kd} {i : Nat} (h : mE S (.var i) n K ast = true) : ∃ x p, ast = .Name x p ∧ (nameB S n i x && decide (K.getD i .fz ≠ .src)) = true := by
  rw [mE_var] at h
  split at h <;> first | (cases h; done) | exact ⟨_, _, rfl, h⟩ | (injections; subst_vars; exact ⟨_, _, rfl, h⟩) | (simp_all; done)
theorem inv_int {K : List Kd} {i : Int} (h : mE S (.int i) n K ast = true) : ∃ j k p, ast = .Constant (.int j) k p ∧ (decide (i = j)) = true := by
  rw [mE_int] at h
  split at h <;> first | (cases h; done) | exact ⟨_, _, _, rfl, h⟩ | (injections; subst_vars; exact ⟨_, _, _, rfl, h⟩) | (simp_all; done)
theorem inv_bl {K : List Kd} {b : Bool} (h : mE S (.bl b) n K ast = true) : ∃ d k p, ast = .Constant (.bool d) k p ∧ (decide (b = d)) = true := by
  rw [mE_bl] at h
  split at h <;> first | (cases h; done) | exact ⟨_, _, _, rfl, h⟩ | (injections; subst_vars; exact ⟨_, _, _, rfl, h⟩) | (simp_all; done)
theorem inv_str {K : List Kd} {s : String} (h : mE S (.str s) n K ast = true) : ∃ x k p, ast = .Constant (.str x) k p ∧ (decide (Str.ofString s = x)) = true := by
  rw [mE_str] at h
  split at h <;> first | (cases h; done) | exact ⟨_, _, _, rfl, h⟩ | (injections; subst_vars; exact ⟨_, _, _, rfl, h⟩) | (simp_all; done)
theorem inv_bin {K : List Kd} {o : Ev.Bop} {es : List E} (h : mE S (.bin o es) n K ast = true) : ∃ x op y p, ast = .BinOp x op y p ∧ (decide (op = opOf o) && bvOk es K && mV S es n K [x, y]) = true := by
  rw [mE_bin] at h
  split at h <;> first | (cases h; done) | exact ⟨_, _, _, _, rfl, h⟩ | (injections; subst_vars; exact ⟨_, _, _, _, rfl, h⟩) | (simp_all; done)
theorem inv_neg {K : List Kd} {a : E} (h : mE S (.neg a) n K ast = true) : ∃ x p, ast = .UnaryOp .USub x p ∧ (!isBv a && mE S a n K x) = true := by
  rw [mE_neg] at h
  split at h <;> first | (cases h; done) | exact ⟨_, _, rfl, h⟩ | (injections; subst_vars; exact ⟨_, _, rfl, h⟩) | (simp_all; done)
theorem inv_cmp {K : List Kd} {o : Ev.Cop} {es : List E} (h : mE S (.cmp o es) n K ast = true) : ∃ x op y p, ast = .Compare x [op] [y] p ∧ (decide (op = copOf o) && !behindInMarks op y && bvOk es K && mV S es n K [x, y]) = true := by
  rw [mE_cmp] at h
  split at h <;> first | (cases h; done) | exact ⟨_, _, _, _, rfl, h⟩ | (injections; subst_vars; exact ⟨_, _, _, _, rfl, h⟩) | (simp_all; done)
theorem inv_chain {K : List Kd} {o o' : Ev.Cop} {es : List E} {z : E} (h : mE S (.chain o o' es z) n K ast = true) : ∃ x op op' y w p, ast = .Compare x [op, op'] [y, w] p ∧ (decide (op = copOf o) && decide (op' = copOf o') && !lastMarks [op, op'] [y, w] && es.all (fun e => !isBv e) && mV S es n K [x, y] && !isBv z && mE S z n (kEs es K) w && leK (kE z (kEs es K)) (kEs es K)) = true := by
  rw [mE_chain] at h
  split at h <;> first | (cases h; done) | exact ⟨_, _, _, _, _, _, rfl, h⟩ | (injections; subst_vars; exact ⟨_, _, _, _, _, _, rfl, h⟩) | (simp_all; done)
theorem inv_and {K : List Kd} {es : List E} (h : mE S (.and es) n K ast = true) : ∃ vs p, ast = .BoolOp .And vs p ∧ (!es.isEmpty && mA S es n K vs) = true := by
  rw [mE_and] at h
  split at h <;> first | (cases h; done) | exact ⟨_, _, rfl, h⟩ | (injections; subst_vars; exact ⟨_, _, rfl, h⟩) | (simp_all; done)
theorem inv_or {K : List Kd} {es : List E} (h : mE S (.or es) n K ast = true) : ∃ vs p, ast = .BoolOp .Or vs p ∧ (!es.isEmpty && mA S es n K vs) = true := by
  rw [mE_or] at h
  split at h <;> first | (cases h; done) | exact ⟨_, _, rfl, h⟩ | (injections; subst_vars; exact ⟨_, _, rfl, h⟩) | (simp_all; done)
theorem inv_not {K : List Kd} {a : E} (h : mE S (.not a) n K ast = true) : ∃ x p, ast = .UnaryOp .Not x p ∧ (isTst a && !isBv a && mE S a n K x) = true := by
  rw [mE_not] at h
  split at h <;> first | (cases h; done) | exact ⟨_, _, rfl, h⟩ | (injections; subst_vars; exact ⟨_, _, rfl, h⟩) | (simp_all; done)
theorem inv_ite {K : List Kd} {t a b : E} (h : mE S (.ite t a b) n K ast = true) : ∃ x y z p, ast = .IfExp x y z p ∧ (isTst t && !isBv t && !isBv a && !isBv b && mE S t n K x && mE S a n (kE t K) y && mE S b n (kE t K) z && leK (kE b (kE a (kE t K))) (kE a (kE t K)) && leK (kE b (kE a (kE t K))) (kE b (kE t K))) = true := by
  rw [mE_ite] at h
  split at h <;> first | (cases h; done) | exact ⟨_, _, _, _, rfl, h⟩ | (injections; subst_vars; exact ⟨_, _, _, _, rfl, h⟩) | (simp_all; done)
theorem inv_tup {K : List Kd} {es : List E} (h : mE S (.tup es) n K ast = true) : ∃ xs k p, ast = .Tuple xs k p ∧ (es.all (fun e => !isBv e) && decide (es.length ≤ 1000) && bvOk es K && mV S es n K xs) = true := by
  rw [mE_tup] at h
  split at h <;> first | (cases h; done) | exact ⟨_, _, _, rfl, h⟩ | (injections; subst_vars; exact ⟨_, _, _, rfl, h⟩) | (simp_all; done)
theorem inv_lst {K : List Kd} {es : List E} (h : mE S (.lst es) n K ast = true) : ∃ xs p, ast = .List xs p ∧ (es.all (fun e => !isBv e) && decide (es.length ≤ 1000) && bvOk es K && mV S es n K xs) = true := by
  rw [mE_lst] at h
  split at h <;> first | (cases h; done) | exact ⟨_, _, rfl, h⟩ | (injections; subst_vars; exact ⟨_, _, rfl, h⟩) | (simp_all; done)
theorem inv_idx {K : List Kd} {es : List E} (h : mE S (.idx es) n K ast = true) : ∃ x y p, ast = .Subscript x y p ∧ (plainIx y && bvOk es K && mV S es n K [x, y]) = true := by
  rw [mE_idx] at h
  split at h <;> first | (cases h; done) | exact ⟨_, _, _, rfl, h⟩ | (injections; subst_vars; exact ⟨_, _, _, rfl, h⟩) | (simp_all; done)
theorem inv_slc0 {K : List Kd} {es : List E} (h : mE S (.slc false false es) n K ast = true) : ∃ x p2 p, ast = .Subscript x (.Slice none none none p2) p ∧ (bvOk es K && mV S es n K [x]) = true := by
  rw [mE_slc] at h
  split at h <;> first | (cases h; done) | exact ⟨_, _, _, rfl, h⟩ | (injections; subst_vars; exact ⟨_, _, _, rfl, h⟩) | (simp_all; done)
theorem inv_slcL {K : List Kd} {es : List E} (h : mE S (.slc true false es) n K ast = true) : ∃ x l p2 p, ast = .Subscript x (.Slice (some l) none none p2) p ∧ (bvOk es K && mV S es n K [x, l]) = true := by
  rw [mE_slc] at h
  split at h <;> first | (cases h; done) | exact ⟨_, _, _, _, rfl, h⟩ | (injections; subst_vars; exact ⟨_, _, _, _, rfl, h⟩) | (simp_all; done)
theorem inv_slcH {K : List Kd} {es : List E} (h : mE S (.slc false true es) n K ast = true) : ∃ x l p2 p, ast = .Subscript x (.Slice none (some l) none p2) p ∧ (bvOk es K && mV S es n K [x, l]) = true := by
  rw [mE_slc] at h
  split at h <;> first | (cases h; done) | exact ⟨_, _, _, _, rfl, h⟩ | (injections; subst_vars; exact ⟨_, _, _, _, rfl, h⟩) | (simp_all; done)
theorem inv_slcB {K : List Kd} {es : List E} (h : mE S (.slc true true es) n K ast = true) : ∃ x l l2 p2 p, ast = .Subscript x (.Slice (some l) (some l2) none p2) p ∧ (bvOk es K && mV S es n K [x, l, l2]) = true := by
  rw [mE_slc] at h
  split at h <;> first | (cases h; done) | exact ⟨_, _, _, _, _, rfl, h⟩ | (injections; subst_vars; exact ⟨_, _, _, _, _, rfl, h⟩) | (simp_all; done)
theorem inv_rev {K : List Kd} {es : List E} (h : mE S (.rev es) n K ast = true) : ∃ x i k p1 p2 p3 p, ast = .Subscript x (.Slice none none (some (.UnaryOp .USub (.Constant (.int i) k p1) p2)) p3) p ∧ (decide (i = 1) && bvOk es K && mV S es n K [x]) = true := by
  rw [mE_rev] at h
  split at h <;> first | (cases h; done) | exact ⟨_, _, _, _, _, _, _, rfl, h⟩ | (injections; subst_vars; exact ⟨_, _, _, _, _, _, _, rfl, h⟩) | (simp_all; done)
theorem inv_call0 {K : List Kd} {f : String} {es : List E} (h : mE S (.call f none es) n K ast = true) : ∃ x p2 args p, ast = .Call (.Name x p2) args [] p ∧ (decide (x = Str.ofString f) && glB n x && S.fs.contains (f, false, es.length) && es.all (fun e => !isBv e) && bvOk es K && !args.isEmpty && mV S es n K args) = true := by
  rw [mE_call] at h
  split at h <;> first | (cases h; done) | exact ⟨_, _, _, _, rfl, h⟩ | (injections; subst_vars; exact ⟨_, _, _, _, rfl, h⟩) | (simp_all; done)
theorem inv_call1 {K : List Kd} {f : String} {i : Nat} {es : List E} (h : mE S (.call f (some i) es) n K ast = true) : ∃ x p2 y p3 args p, ast = .Call (.Name x p2) (.Name y p3 :: args) [] p ∧ (decide (x = Str.ofString f) && glB n x && S.fs.contains (f, true, es.length) && es.all (fun e => !isBv e) && bvOk es K && nameB S n i y && decide (K.getD i .fz = .src) && mV S es n K args) = true := by
  rw [mE_call] at h
  split at h <;> first | (cases h; done) | exact ⟨_, _, _, _, _, _, rfl, h⟩ | (injections; subst_vars; exact ⟨_, _, _, _, _, _, rfl, h⟩) | (simp_all; done)
theorem inv_pop {K : List Kd} {i : Nat} (h : mE S (.pop i) n K ast = true) : ∃ x p2 nm apos cpos, ast = .Call (.Attribute (.Name x p2) nm apos) [] [] cpos ∧ (nameB S n i x && decide (nm = Str.ofString "pop") && (apos.endLine == cpos.line) && decide (K.getD i .fz = .own)) = true := by
  rw [mE_pop] at h
  split at h <;> first | (cases h; done) | exact ⟨_, _, _, _, _, rfl, h⟩ | (injections; subst_vars; exact ⟨_, _, _, _, _, rfl, h⟩) | (simp_all; done)
theorem inv_popAt {K : List Kd} {i : Nat} {e : E} (h : mE S (.popAt i e) n K ast = true) : ∃ x p2 nm apos y cpos, ast = .Call (.Attribute (.Name x p2) nm apos) [y] [] cpos ∧ (nameB S n i x && decide (nm = Str.ofString "pop") && (apos.endLine == cpos.line) && decide (K.getD i .fz ≠ .src) && !isBv e && nos y && mE S e n K y && decide ((kE e K).getD i .fz = .own)) = true := by
  rw [mE_popAt] at h
  split at h <;> first | (cases h; done) | exact ⟨_, _, _, _, _, _, rfl, h⟩ | (injections; subst_vars; exact ⟨_, _, _, _, _, _, rfl, h⟩) | (simp_all; done)
theorem inv_setd {K : List Kd} {i : Nat} {es : List E} (h : mE S (.setd i es) n K ast = true) : ∃ x p2 nm apos y z cpos, ast = .Call (.Attribute (.Name x p2) nm apos) [y, z] [] cpos ∧ (nameB S n i x && decide (nm = Str.ofString "setdefault") && (apos.endLine == cpos.line) && es.all (fun e => !isBv e) && bvOk es K && decide (K.getD i .fz ≠ .src) && mV S es n K [y, z] && decide ((kEs es K).getD i .fz = .own)) = true := by
  rw [mE_setd] at h
  split at h <;> first | (cases h; done) | exact ⟨_, _, _, _, _, _, _, rfl, h⟩ | (injections; subst_vars; exact ⟨_, _, _, _, _, _, _, rfl, h⟩) | (simp_all; done)
theorem inv_comp {own : List Nat} {t : Tgt} {it : E} {cond : List E} {elt : E} (h : mE S (.comp own t it cond elt) n K ast = true) : ∃ x tg iter ifs scope p, ast = .ListComp x [⟨tg, iter, ifs, 0⟩] scope p ∧
    (noSet iter && mI S it n K tg iter && blkC S.N n.sc scope (ownN S own) && mT S (blkN n scope) t tg && mA S cond (blkN n scope) (kE (.comp own t it cond elt) K) ifs && decide (cond.length ≤ 1) && !isBv elt && mE S elt (blkN n scope) (kE (.comp own t it cond elt) K) x &&
      leK (kE (.comp own t it cond elt) K) (kE it K) && decide (kEs cond (kE (.comp own t it cond elt) K) = kE (.comp own t it cond elt) K) && decide (kE elt (kE (.comp own t it cond elt) K) = kE (.comp own t it cond elt) K) && (own.all fun i => decide ((kE (.comp own t it cond elt) K).getD i .fz = .fz)) && pureEs cond && pureE elt && (tnm t).all own.contains && (!itp it || tupT t) &&
      (match itv it with | some i => !own.contains i && decide ((kE (.comp own t it cond elt) K).getD i .fz ≠ .src) | none => true)) = true := by
  obtain ⟨x0, tg, iter, ifs, scope, p0, rfl⟩ := mE_compF h
  rw [mE_comp] at h
  refine ⟨_, tg, iter, _, _, _, rfl, ?_⟩
  cases hx : mIt S it n K tg iter with
  | false => simp only [hx, Bool.and_false, Bool.false_and] at h; cases h
  | true => rw [mI_of hx]; simp only [hx] at h; exact h
theorem inv_bi {b : Bi} {es : List E} (h : mE S (.bi b es) n K ast = true) : (∃ x p2 args p, ast = .Call (.Name x p2) args [] p ∧ (bvOk es K && glB n x && S.bl.contains x &&
      ((match biB b with | some nm => decide (x = Str.ofString nm) && !args.isEmpty && mV S es n K args | none => false) ||
       (match biT b with | some nm => decide (x = Str.ofString nm) && !args.isEmpty && mV S es n K args | none => false) ||
       (match biI b, args with | some nm, [a, .Name y _] => decide (x = Str.ofString "isinstance") && nos a && decide (y = Str.ofString nm) && glB n y && S.bl.contains y && mV S es n K [a] | _, _ => false))) = true) ∨
    ∃ o nm apos args cpos, ast = .Call (.Attribute o nm apos) args [] cpos ∧ (bvOk es K && nos o && !args.isEmpty && decide (args.length < 30) && noSup o && (apos.endLine == cpos.line) && mV S es n K (o :: args) &&
      ((decide (b = .index) && decide (nm = Str.ofString "index")) || (decide (b = .get1) && decide (nm = Str.ofString "get")) || (decide (b = .get2) && decide (nm = Str.ofString "get") && no3 es))) = true := by
  rw [mE_bi] at h
  split at h
  · exact .inl ⟨_, _, _, _, rfl, h⟩
  · exact .inr ⟨_, _, _, _, _, rfl, h⟩
  · cases h
theorem inv_enum {es : List E} (h : mE S (.enum es) n K ast = true) : False := by
  rw [mE_enum] at h
  cases h
theorem inv_zip {es : List E} (h : mE S (.zip es) n K ast = true) : False := by
  rw [mE_zip] at h
  cases h
theorem inv_rng1 {a : E} (h : mE S (.rng1 a) n K ast = true) : False := by
  rw [mE_rng1] at h
  cases h
theorem inv_rng2 {es : List E} (h : mE S (.rng2 es) n K ast = true) : False := by
  rw [mE_rng2] at h
  cases h
theorem inv_items {es : List E} (h : mE S (.items es) n K ast = true) : False := by
  rw [mE_items] at h
  cases h
/-- the forms that are walked and are no values -/
theorem invI_enum {es : List E} {tg : Expr} (h : mI S (.enum es) n K tg ast = true) : ∃ elts kk tp x p2 y p, tg = .Tuple elts kk tp ∧ ast = .Call (.Name x p2) [y] [] p ∧ (decide (x = Str.ofString "enumerate") && glB n x && S.bl.contains x && nos y && bvOk es K && mV S es n K [y]) = true := by
  unfold mI at h
  split at h <;> first | (cases ‹E.enum _ = _›; done) | (cases ‹E.enum _ = _›; exact ⟨_, _, _, _, _, _, _, rfl, rfl, h⟩) | (exfalso; subst_vars; simp [isBv, itp] at h; done)
theorem invI_rng1 {a : E} {tg : Expr} (h : mI S (.rng1 a) n K tg ast = true) : ∃ x p2 y p, ast = .Call (.Name x p2) [y] [] p ∧ (decide (x = Str.ofString "range") && glB n x && S.bl.contains x && nos y && !isBv a && mE S a n K y) = true := by
  unfold mI at h
  split at h <;> first | (cases ‹E.rng1 _ = _›; done) | (cases ‹E.rng1 _ = _›; exact ⟨_, _, _, _, rfl, h⟩) | (exfalso; subst_vars; simp only [Bool.and_eq_true] at h; exact inv_rng1 h.2)
theorem invI_rng2 {es : List E} {tg : Expr} (h : mI S (.rng2 es) n K tg ast = true) : ∃ x p2 y z p, ast = .Call (.Name x p2) [y, z] [] p ∧ (decide (x = Str.ofString "range") && glB n x && S.bl.contains x && nos y && nos z && bvOk es K && mV S es n K [y, z]) = true := by
  unfold mI at h
  split at h <;> first | (cases ‹E.rng2 _ = _›; done) | (cases ‹E.rng2 _ = _›; exact ⟨_, _, _, _, _, rfl, h⟩) | (exfalso; subst_vars; simp only [Bool.and_eq_true] at h; exact inv_rng2 h.2)
theorem invI_bv {i : Nat} {tg : Expr} (h : mI S (.bv i) n K tg ast = true) : ∃ x p, ast = .Name x p ∧ (nameB S n i x && decide (K.getD i .fz ≠ .src)) = true := by
  unfold mI at h
  split at h <;> first | (cases ‹E.bv _ = _›; done) | (cases ‹E.bv _ = _›; exact ⟨_, _, rfl, h⟩) | (exfalso; subst_vars; simp [isBv] at h; done)
/-- the sort of what is walked -/
def itK : E → Nat
  | .enum _ => 1
  | .rng1 _ => 2
  | .rng2 _ => 3
  | .bv _ => 4
  | _ => 0
theorem invI_all {it : E} {tg : Expr} (hk : itK it = 0) (h : mI S it n K tg ast = true) : (!isBv it && !itp it && decide (itv it = none) && mE S it n K ast) = true := by
  unfold mI at h
  split at h <;> first | (simp [itK] at hk; done) | exact h
end
end EvS
set_option linter.all false
set_option Elab.async false
set_option maxRecDepth 100000
set_option maxHeartbeats 16000000
/-! EvJ: the match of expressions is sound. -/
namespace EvS
open PySem PySem.Spec PyProof.Rows L2 EvK
open Ev (D E S Tgt Ste Src getS restore flatK tupK dget dset dsetAll okK lim isInts isBls seqD pairsD evE evV evAnd evOr boolR Calls tyD asgT asgTs tnm tnms compL pureE pureEs Bi biD Bop Cop binD cmpD atD)
theorem kd_ne {rk : String → Kd} (h : ∀ f, rk f ≠ .src) : ∀ e : E, kdE rk e ≠ .src
  | .var _ | .bv _ | .idx _ | .pop _ | .popAt _ _ | .setd _ _ => by simp [kdE]
  | .ite t a b => by
    show (if kdE rk a = .own then kdE rk b else .fz) ≠ .src
    split
    · exact kd_ne h b
    · decide
  | .call f _ _ => h f
  | .bi b es => by cases b <;> simp [kdE]
  | .int _ | .bl _ | .non | .str _ | .bin _ _ | .neg _ | .cmp _ _ | .chain _ _ _ _ | .and _ | .or _ | .not _ | .tup _ | .lst _ | .dic | .slc _ _ _ | .rev _ | .comp _ _ _ _ _ | .enum _ | .zip _ | .rng1 _ | .rng2 _ | .items _ => by simp [kdE]
section
variable {c : Ct} {S : SS} {Γ : Calls}
section
variable {X : Cx} {n : Cn} {K : List Kd}
theorem f_var {i : Nat} {x : Expr} (h : PE X x (tVar i)) (hk : K.getD i .fz ≠ .src) : PE X x (tF c K (K.set i .fz) .fz (evE Γ (.var i))) := by
  refine PE.imp h fun σ H Q q => ?_
  obtain ⟨g, ρ, ts, d, ρ', R, e, q⟩ := q
  obtain ⟨d', e1, e2⟩ := Option.map_eq_some_iff.mp e
  cases e2
  have R2 := R.frzSl i hk
  obtain ⟨v, h1, h2⟩ := R2.sl i d e1
  refine ⟨v, h1, ?_⟩
  have e0 : (K.set i .fz).getD i .fz = .fz := by
    rw [getD_set]
    by_cases z : i < K.length
    · rw [if_pos ⟨rfl, z⟩]
    · rw [if_neg fun q => z q.2, getD_ge (by omega)]
  rw [e0] at h2
  exact q.fz R2 h2
theorem str_eq {s : String} {x : Str} (h : decide (x = Str.ofString s) = true) : x = Str.ofString s := of_decide_eq_true h
theorem dbg_of {n : Cn} {x : Str} (h : glB n x = true) : (x == ("__debug__" : Str)) = false ∧ x ≠ "__name__" := by
  unfold glB at h
  simp only [Bool.and_eq_true, decide_eq_true_eq, Bool.not_eq_true'] at h
  exact ⟨h.1.2, fun z => by subst z; simp at h⟩
theorem noSup_name {x : Str} {p : Pos} : noSup (.Name x p) = true := rfl
end
theorem sI_pl {X : Cx} {n : Cn} {K : List Kd} {it : E} {tg b : Expr} (sd : Sd c X S Γ) (hk : itK it = 0) (h : mI S it n K tg b = true) (hP : isBv it = false → mE S it n K b = true → PE X b (tF c K (kE it K) (kdE S.rk it) (evE Γ it))) : PI X tg b (tIF c K (kE it K) it (evE Γ it)) := by
  have h := invI_all hk h
  simp only [Bool.and_eq_true, Bool.not_eq_true'] at h
  obtain ⟨⟨⟨h1, h2⟩, h3⟩, h4⟩ := h
  exact seq_of sd.ft (PE.opd (kd_ne sd.rk it) h1 (hP h1 h4)) (.inl (of_decide_eq_true h3)) h2 fun j hj => by rw [hj] at h1; cases h1
/-- a comprehension's parts -/
theorem compOk_of {X : Cx} {n : Cn} {K : List Kd} {own : List Nat} {t : Tgt} {it : E} {cond : List E} {elt : E} {x tg iter : Expr} {ifs : List Expr} {scope : Scope} (sd : Sd c X S Γ) (hh : Here X n)
    (h : (noSet iter && mI S it n K tg iter && blkC S.N n.sc scope (ownN S own) && mT S (blkN n scope) t tg && mA S cond (blkN n scope) (kE (.comp own t it cond elt) K) ifs && decide (cond.length ≤ 1) && !isBv elt && mE S elt (blkN n scope) (kE (.comp own t it cond elt) K) x &&
      leK (kE (.comp own t it cond elt) K) (kE it K) && decide (kEs cond (kE (.comp own t it cond elt) K) = kE (.comp own t it cond elt) K) && decide (kE elt (kE (.comp own t it cond elt) K) = kE (.comp own t it cond elt) K) && (own.all fun i => decide ((kE (.comp own t it cond elt) K).getD i .fz = .fz)) && pureEs cond && pureE elt && (tnm t).all own.contains && (!itp it || tupT t) &&
      (match itv it with | some i => !own.contains i && decide ((kE (.comp own t it cond elt) K).getD i .fz ≠ .src) | none => true)) = true)
    (hI : mI S it n K tg iter = true → PI X tg iter (tIF c K (kE it K) it (evE Γ it)))
    (hA : ∀ X', Sd c X' S Γ → Here X' (blkN n scope) → mA S cond (blkN n scope) (kE (.comp own t it cond elt) K) ifs = true → PTl X' c Γ cond (kE (.comp own t it cond elt) K) ifs)
    (hE : ∀ X', Sd c X' S Γ → Here X' (blkN n scope) → isBv elt = false → mE S elt (blkN n scope) (kE (.comp own t it cond elt) K) x = true → PE X' x (tF c (kE (.comp own t it cond elt) K) (kE elt (kE (.comp own t it cond elt) K)) (kdE S.rk elt) (evE Γ elt))) :
    CompOk X c S Γ K (kE (.comp own t it cond elt) K) own t it cond elt x tg iter ifs scope := by
  generalize hK2 : kE (.comp own t it cond elt) K = K2 at *
  simp only [Bool.and_eq_true, Bool.not_eq_true', Bool.or_eq_true] at h
  obtain ⟨⟨⟨⟨⟨⟨⟨⟨⟨⟨⟨⟨⟨⟨⟨⟨h1, h2⟩, h3⟩, h4⟩, h5⟩, h6⟩, h7⟩, h8⟩, h9⟩, h10⟩, h11⟩, h12⟩, h13⟩, h14⟩, h15⟩, h16⟩, h17⟩ := h
  have k1 := of_decide_eq_true h10
  have k2 := of_decide_eq_true h11
  have hown : ∀ i ∈ own, K2.getD i .fz = .fz := fun i hi => of_decide_eq_true (List.all_eq_true.mp h12 i hi)
  have sb := fun (s : Shared) (H : Hp) (C : Addr) (cl : List (Str × Addr)) (fp : List Addr) => sd.blk s H scope (compEnvC scope cl C X.env) fp
  have hb := fun (s : Shared) (H : Hp) (C : Addr) (cl : List (Str × Addr)) (fp : List Addr) => here_blk hh s H scope C cl fp
  refine ⟨sd.ft.calm, sd.nd, hI h2, blkOk_by (by rw [sd.N, hh.sc]; exact h3), fun s H C cl fp => mT_ok (sb s H C cl fp) (hb s H C cl fp) t tg h4, fun s H C cl fp => ?_, fun s H C cl fp => ?_, noSet_ok h1 X.env, fun σ H Q q => ?_⟩
  · have := pts_of (hA _ (sb s H C cl fp) (hb s H C cl fp) h5) (of_decide_eq_true h6)
    rw [k1] at this
    exact this
  · have := hE _ (sb s H C cl fp) (hb s H C cl fp) h7 h8
    rw [k2] at this
    exact PE.imp this fun σ H Q q => q.toFz (kd_ne sd.rk elt)
  · refine comp_imp (X := X) h9 hown h13 h14 h15 (fun hp => ?_) (fun i hi => ?_) q
    · rcases h16 with h16 | h16
      · rw [hp] at h16; cases h16
      · exact h16
    · rw [hi] at h17
      simp only [Bool.and_eq_true, Bool.not_eq_true'] at h17
      exact ⟨by simpa using h17.1, of_decide_eq_true h17.2⟩
mutual
theorem sE : ∀ (e : E) (n : Cn) (K : List Kd) (X : Cx) (ast : Expr), Sd c X S Γ → Here X n → isBv e = false → mE S e n K ast = true →
    PE X ast (tF c K (kE e K) (kdE S.rk e) (evE Γ e)) ∧ (isTst e = true → PT X ast (tBF c K (kE e K) (evE Γ e)))
  | .var i, n, K, X, ast, sd, hh, _, h0 => by
    obtain ⟨x, p, rfl, h⟩ := inv_var h0
    rw [Bool.and_eq_true] at h
    have P := f_var (c := c) (Γ := Γ) (pe_nameB (pos := p) sd hh h.1) (of_decide_eq_true h.2)
    exact ⟨P, fun _ => PT.of (by decide) P (by intro _; rfl)⟩
  | .bv i, n, K, X, ast, sd, hh, hb, h => by cases hb
  | .int i, n, K, X, ast, sd, hh, _, h0 => by
    obtain ⟨j, k, p, rfl, h⟩ := inv_int h0
    cases of_decide_eq_true h
    have P : PE X (.Constant (.int i) k p) (tF c K K .own (evE Γ (.int i))) := PE.imp pe_int fun σ H Q q => by
      obtain ⟨g, ρ, ts, d, ρ', R, e, q⟩ := q
      cases e; exact q.int R
    exact ⟨P, fun _ => PT.of (by decide) P (by intro _; rfl)⟩
  | .bl b, n, K, X, ast, sd, hh, _, h0 => by
    obtain ⟨j, k, p, rfl, h⟩ := inv_bl h0
    cases of_decide_eq_true h
    have P : PE X (.Constant (.bool b) k p) (tF c K K .own (evE Γ (.bl b))) := PE.imp pe_bl fun σ H Q q => by
      obtain ⟨g, ρ, ts, d, ρ', R, e, q⟩ := q
      cases e; exact q.bl R
    exact ⟨P, fun _ => PT.of (by decide) P (by intro _; rfl)⟩
  | .non, n, K, X, ast, sd, hh, _, h0 => by
    obtain ⟨k, p, rfl⟩ := inv_non h0
    have P : PE X (.Constant .none k p) (tF c K K .own (evE Γ .non)) := PE.imp pe_non fun σ H Q q => by
      obtain ⟨g, ρ, ts, d, ρ', R, e, q⟩ := q
      cases e; exact q.same R .non rfl
    exact ⟨P, fun _ => PT.of (by decide) P (by intro _; rfl)⟩
  | .str s, n, K, X, ast, sd, hh, _, h0 => by
    obtain ⟨x, k, p, rfl, h⟩ := inv_str h0
    cases of_decide_eq_true h
    have P : PE X (.Constant (.str (Str.ofString s)) k p) (tF c K K .own (evE Γ (.str s))) := PE.imp pe_str fun σ H Q q => by
      obtain ⟨g, ρ, ts, d, ρ', R, e, q⟩ := q
      cases e; exact q.str R
    exact ⟨P, fun _ => PT.of (by decide) P (by intro _; rfl)⟩
  | .bin o es, n, K, X, ast, sd, hh, _, h0 => by
    obtain ⟨x, op, y, p, rfl, h⟩ := inv_bin h0
    simp only [Bool.and_eq_true] at h
    cases of_decide_eq_true h.1.1
    have P := f_bin (pos := p) sd.ft (sV es n K X _ sd hh h.2) h.1.2 o
    exact ⟨P, fun _ => PT.of (by decide) P (by intro _; rfl)⟩
  | .neg a, n, K, X, ast, sd, hh, _, h0 => by
    obtain ⟨x, p, rfl, h⟩ := inv_neg h0
    simp only [Bool.and_eq_true, Bool.not_eq_true'] at h
    have P := f_neg (pos := p) (PE.opd (kd_ne sd.rk a) h.1 (sE a n K X x sd hh h.1 h.2).1) h.1
    exact ⟨P, fun _ => PT.of (by decide) P (by intro _; rfl)⟩
  | .cmp o es, n, K, X, ast, sd, hh, _, h0 => by
    obtain ⟨x, op, y, p, rfl, h⟩ := inv_cmp h0
    simp only [Bool.and_eq_true, Bool.not_eq_true'] at h
    cases of_decide_eq_true h.1.1.1
    have P := f_cmp (pos := p) sd.ft (sV es n K X _ sd hh h.2) h.1.2 o h.1.1.2
    exact ⟨P.1, fun _ => P.2⟩
  | .chain o o' es z, n, K, X, ast, sd, hh, _, h0 => by
    obtain ⟨x, op, op', y, w, p, rfl, h⟩ := inv_chain h0
    simp only [Bool.and_eq_true, Bool.not_eq_true'] at h
    obtain ⟨⟨⟨⟨⟨⟨⟨h1, h2⟩, h3⟩, h4⟩, h5⟩, h6⟩, h7⟩, h8⟩ := h
    cases of_decide_eq_true h1
    cases of_decide_eq_true h2
    have P := f_chain (pos := p) sd.ft (sV es n K X _ sd hh h5) h4 h6 (PE.opd (kd_ne sd.rk z) h6 (sE z n (kEs es K) X w sd hh h6 h7).1) h8 o o' h3
    exact ⟨P.1, fun _ => P.2⟩
  | .and es, n, K, X, ast, sd, hh, _, h0 => by
    obtain ⟨vs, p, rfl, h⟩ := inv_and h0
    simp only [Bool.and_eq_true, Bool.not_eq_true'] at h
    have L := sA es n K X vs sd hh h.2
    cases L with
    | nil => simp at h
    | cons a b d t =>
      exact ⟨f_andV _ _ K _ _ p (.cons a b d t), fun _ => (f_andT _ _ K _ _ p (.cons a b d t)).pt⟩
  | .or es, n, K, X, ast, sd, hh, _, h0 => by
    obtain ⟨vs, p, rfl, h⟩ := inv_or h0
    simp only [Bool.and_eq_true, Bool.not_eq_true'] at h
    have L := sA es n K X vs sd hh h.2
    cases L with
    | nil => simp at h
    | cons a b d t =>
      exact ⟨f_orV _ _ K _ _ p (.cons a b d t), fun _ => (f_orT _ _ K _ _ p (.cons a b d t)).pt⟩
  | .not a, n, K, X, ast, sd, hh, _, h0 => by
    obtain ⟨x, p, rfl, h⟩ := inv_not h0
    simp only [Bool.and_eq_true, Bool.not_eq_true'] at h
    have Q := sE a n K X x sd hh h.1.2 h.2
    have P := f_not (pos := p) (kd_ne sd.rk a) Q.1 (Q.2 h.1.1)
    exact ⟨P.1, fun _ => P.2⟩
  | .ite t a b, n, K, X, ast, sd, hh, _, h0 => by
    obtain ⟨x, y, z, p, rfl, h⟩ := inv_ite h0
    simp only [Bool.and_eq_true, Bool.not_eq_true'] at h
    obtain ⟨⟨⟨⟨⟨⟨⟨⟨h1, h2⟩, h3⟩, h4⟩, h5⟩, h6⟩, h7⟩, h8⟩, h9⟩ := h
    exact ⟨f_ite (pos := p) (kd_ne sd.rk a) (kd_ne sd.rk b) ((sE t n K X x sd hh h2 h5).2 h1) (sE a n (kE t K) X y sd hh h3 h6).1 (sE b n (kE t K) X z sd hh h4 h7).1 h8 h9, fun z => by cases z⟩
  | .tup es, n, K, X, ast, sd, hh, _, h0 => by
    obtain ⟨xs, k, p, rfl, h⟩ := inv_tup h0
    simp only [Bool.and_eq_true] at h
    have P := f_tup (pos := p) (x1 := k) (sV es n K X _ sd hh h.2) h.1.2 h.1.1.1 (of_decide_eq_true h.1.1.2)
    exact ⟨P, fun _ => PT.of (by decide) P (by intro _; rfl)⟩
  | .lst es, n, K, X, ast, sd, hh, _, h0 => by
    obtain ⟨xs, p, rfl, h⟩ := inv_lst h0
    simp only [Bool.and_eq_true] at h
    have P := f_lst (pos := p) (sV es n K X _ sd hh h.2) h.1.2 h.1.1.1 (of_decide_eq_true h.1.1.2)
    exact ⟨P, fun _ => PT.of (by decide) P (by intro _; rfl)⟩
  | .dic, n, K, X, ast, sd, hh, _, h0 => by
    obtain ⟨p, rfl⟩ := inv_dic h0
    have P := f_dic (X := X) (c := c) (Γ := Γ) (K := K) (pos := p)
    exact ⟨P, fun _ => PT.of (by decide) P (by intro _; rfl)⟩
  | .idx es, n, K, X, ast, sd, hh, _, h0 => by
    obtain ⟨x, y, p, rfl, h⟩ := inv_idx h0
    simp only [Bool.and_eq_true] at h
    have P := f_idx (pos := p) sd.ft (sV es n K X _ sd hh h.2) h.1.2 h.1.1
    exact ⟨P, fun _ => PT.of (by decide) P (by intro _; rfl)⟩
  | .slc false false es, n, K, X, ast, sd, hh, _, h0 => by
    obtain ⟨x, p2, p, rfl, h⟩ := inv_slc0 h0
    simp only [Bool.and_eq_true] at h
    have P := f_slc0 (pos := p) (p2 := p2) sd.ft (sV es n K X _ sd hh h.2) h.1
    exact ⟨P, fun _ => PT.of (by decide) P (by intro _; rfl)⟩
  | .slc true false es, n, K, X, ast, sd, hh, _, h0 => by
    obtain ⟨x, l, p2, p, rfl, h⟩ := inv_slcL h0
    simp only [Bool.and_eq_true] at h
    have P := f_slcL (pos := p) (p2 := p2) sd.ft (sV es n K X _ sd hh h.2) h.1
    exact ⟨P, fun _ => PT.of (by decide) P (by intro _; rfl)⟩
  | .slc false true es, n, K, X, ast, sd, hh, _, h0 => by
    obtain ⟨x, l, p2, p, rfl, h⟩ := inv_slcH h0
    simp only [Bool.and_eq_true] at h
    have P := f_slcH (pos := p) (p2 := p2) sd.ft (sV es n K X _ sd hh h.2) h.1
    exact ⟨P, fun _ => PT.of (by decide) P (by intro _; rfl)⟩
  | .slc true true es, n, K, X, ast, sd, hh, _, h0 => by
    obtain ⟨x, l, l2, p2, p, rfl, h⟩ := inv_slcB h0
    simp only [Bool.and_eq_true] at h
    have P := f_slcB (pos := p) (p2 := p2) sd.ft (sV es n K X _ sd hh h.2) h.1
    exact ⟨P, fun _ => PT.of (by decide) P (by intro _; rfl)⟩
  | .rev es, n, K, X, ast, sd, hh, _, h0 => by
    obtain ⟨x, i, k, p1, p2, p3, p, rfl, h⟩ := inv_rev h0
    simp only [Bool.and_eq_true] at h
    cases of_decide_eq_true h.1.1
    have P := f_rev (pos := p) (k := k) (p1 := p1) (p2 := p2) (p3 := p3) sd.ft (sV es n K X _ sd hh h.2) h.1.2
    exact ⟨P, fun _ => PT.of (by decide) P (by intro _; rfl)⟩
  | .comp own t it cond elt, n, K, X, ast, sd, hh, _, h0 => by
    obtain ⟨x, tg, iter, ifs, scope, p, rfl, h⟩ := inv_comp h0
    have P := (compOk_of sd hh h (fun hi => sI it n K X tg iter sd hh hi fun hb hm => (sE it n K X iter sd hh hb hm).1) (fun X' sd' hh' ha => sA cond _ _ X' ifs sd' hh' ha) (fun X' sd' hh' hb he => (sE elt _ _ X' x sd' hh' hb he).1)).pe (pos := p)
    exact ⟨P, fun _ => PT.of (by decide) P (by intro _; rfl)⟩
  | .call f none es, n, K, X, ast, sd, hh, _, h0 => by
    obtain ⟨x, p2, args, p, rfl, h⟩ := inv_call0 h0
    simp only [Bool.and_eq_true, Bool.not_eq_true'] at h
    obtain ⟨⟨⟨⟨⟨⟨h1, h2⟩, h3⟩, h4⟩, h5⟩, h6⟩, h7⟩ := h
    have e := str_eq h1
    subst e
    obtain ⟨g1, g2, g3⟩ := glB_gl hh h2
    have Es := sV es n K X args sd hh h7
    cases args with
    | nil => cases h6
    | cons y args =>
      have P := f_call0 (pos := p) (p := p2) sd.ft (sd.fn f false es.length (by simpa using h3)) (sd.rk f) g1 g2 Es h5 h4
      exact ⟨P, fun _ => PT.of (sd.rk f) P (by intro _; rfl)⟩
  | .call f (some i) es, n, K, X, ast, sd, hh, _, h0 => by
    obtain ⟨x, p2, y, p3, args, p, rfl, h⟩ := inv_call1 h0
    simp only [Bool.and_eq_true, Bool.not_eq_true'] at h
    obtain ⟨⟨⟨⟨⟨⟨⟨h1, h2⟩, h3⟩, h4⟩, h5⟩, h6⟩, h7⟩, h8⟩ := h
    have e := str_eq h1
    subst e
    obtain ⟨g1, g2, g3⟩ := glB_gl hh h2
    have P := f_call1 (pos := p) (p := p2) sd.ft (sd.fn f true es.length (by simpa using h3)) (sd.rk f) g1 g2 (pe_nameB (pos := p3) sd hh h6) rfl (of_decide_eq_true h7) (sV es n K X args sd hh h8) h5 h4
    exact ⟨P, fun _ => PT.of (sd.rk f) P (by intro _; rfl)⟩
  | .bi b es, n, K, X, ast, sd, hh, _, h0 => by
    rcases inv_bi h0 with ⟨x, p2, args, p, rfl, h⟩ | ⟨o, nm, apos, args, cpos, rfl, h⟩
    · simp only [Bool.and_eq_true, Bool.or_eq_true] at h
      obtain ⟨⟨⟨h1, h2⟩, h3⟩, h4⟩ := h
      obtain ⟨g1, g2, g3⟩ := glB_gl hh h2
      have hm := sd.bl x (by simpa using h3)
      rcases h4 with (h4 | h4) | h4
      · cases hb : biB b with
        | none => rw [hb] at h4; cases h4
        | some nm =>
          rw [hb] at h4
          simp only [Bool.and_eq_true, Bool.not_eq_true'] at h4
          have e := str_eq h4.1.1
          subst e
          have Es := sV es n K X args sd hh h4.2
          cases args with
          | nil => simp at h4
          | cons y args =>
            have P := f_biB (pos := p) (p := p2) sd.ft hb g1 hm g3 g2 Es h1
            rw [biB_kd hb]
            exact ⟨P, fun _ => PT.of (by decide) P (by intro _; rfl)⟩
      · cases hb : biT b with
        | none => rw [hb] at h4; cases h4
        | some nm =>
          rw [hb] at h4
          simp only [Bool.and_eq_true, Bool.not_eq_true'] at h4
          have e := str_eq h4.1.1
          subst e
          have Es := sV es n K X args sd hh h4.2
          cases args with
          | nil => simp at h4
          | cons y args =>
            have P := f_biT (pos := p) (p := p2) sd.ft hb g1 hm g3 g2 Es h1
            rw [biT_kd hb]
            exact ⟨P, fun _ => PT.of (by decide) P (by intro _; rfl)⟩
      · split at h4
        · rename_i nm a y p4 hb
          simp only [Bool.and_eq_true] at h4
          obtain ⟨⟨⟨⟨⟨k1, k2⟩, k3⟩, k4⟩, k5⟩, k6⟩ := h4
          have e1 := str_eq k1
          have e2 := str_eq k3
          subst e1 e2
          obtain ⟨g4, g5, g6⟩ := glB_gl hh k4
          have P := f_biI (pos := p) (p := p2) (p2 := p4) sd.ft hb g1 hm g4 (sd.bl _ (by simpa using k5)) g6 g5 (sV es n K X [a] sd hh k6) k2 h1
          rw [biI_kd hb]
          exact ⟨P, fun _ => PT.of (by decide) P (by intro _; rfl)⟩
        · cases h4
    · simp only [Bool.and_eq_true, Bool.or_eq_true, Bool.not_eq_true', beq_iff_eq] at h
      obtain ⟨⟨⟨⟨⟨⟨⟨h1, h2⟩, h3⟩, h4⟩, h5⟩, h6⟩, h7⟩, h8⟩ := h
      have Es := sV es n K X (o :: args) sd hh h7
      have h4 := of_decide_eq_true h4
      have hline : (apos.endLine == cpos.line) = true := by rw [h6]; simp
      cases args with
      | nil => cases h3
      | cons y args =>
        rcases h8 with (h8 | h8) | h8
        · have e1 := of_decide_eq_true h8.1
          have e2 := str_eq h8.2
          subst e1 e2
          have P := f_index (apos := apos) (cpos := cpos) sd.ft Es h1 h5 hline h4
          exact ⟨P, fun _ => PT.of (by decide) P (by intro _; rfl)⟩
        · have e1 := of_decide_eq_true h8.1
          have e2 := str_eq h8.2
          subst e1 e2
          have P := f_get1 (apos := apos) (cpos := cpos) sd.ft Es h1 h5 hline h4
          exact ⟨P, fun _ => PT.of (by decide) P (by intro _; rfl)⟩
        · have e1 := of_decide_eq_true h8.1.1
          have e2 := str_eq h8.1.2
          subst e1 e2
          have h9 := h8.2
          unfold no3 at h9
          split at h9
          · rename_i e1 e2 e3
            have P := f_get2 (apos := apos) (cpos := cpos) sd.ft Es (by simpa using h9) h1 h5 hline h4
            exact ⟨P, fun _ => PT.of (by decide) P (by intro _; rfl)⟩
          · cases h9
  | .pop i, n, K, X, ast, sd, hh, _, h0 => by
    obtain ⟨x, p2, nm, apos, cpos, rfl, h⟩ := inv_pop h0
    simp only [Bool.and_eq_true] at h
    have e := str_eq h.1.1.2
    subst e
    have P := f_pop (c := c) (Γ := Γ) (pe_nameB (pos := p2) sd hh h.1.1.1) (of_decide_eq_true h.2) rfl h.1.2
    exact ⟨P, fun _ => PT.of (by decide) P (by intro _; rfl)⟩
  | .popAt i a, n, K, X, ast, sd, hh, _, h0 => by
    obtain ⟨x, p2, nm, apos, y, cpos, rfl, h⟩ := inv_popAt h0
    simp only [Bool.and_eq_true, Bool.not_eq_true'] at h
    obtain ⟨⟨⟨⟨⟨⟨⟨h1, h2⟩, h3⟩, h4⟩, h5⟩, h6⟩, h7⟩, h8⟩ := h
    have e := str_eq h2
    subst e
    have P := f_popAt sd.ft (pe_nameB (pos := p2) sd hh h1) (PE.opd (kd_ne sd.rk a) h5 (sE a n K X y sd hh h5 h7).1) h5 h6 (of_decide_eq_true h4) (of_decide_eq_true h8) rfl h3
    exact ⟨P, fun _ => PT.of (by decide) P (by intro _; rfl)⟩
  | .setd i es, n, K, X, ast, sd, hh, _, h0 => by
    obtain ⟨x, p2, nm, apos, y, z, cpos, rfl, h⟩ := inv_setd h0
    simp only [Bool.and_eq_true] at h
    obtain ⟨⟨⟨⟨⟨⟨⟨h1, h2⟩, h3⟩, h4⟩, h5⟩, h6⟩, h7⟩, h8⟩ := h
    have e := str_eq h2
    subst e
    have P := f_setd sd.ft (pe_nameB (pos := p2) sd hh h1) (sV es n K X _ sd hh h7) h4 h5 (of_decide_eq_true h6) (of_decide_eq_true h8) rfl h3
    exact ⟨P, fun _ => PT.of (by decide) P (by intro _; rfl)⟩
  | .enum es, n, K, X, ast, sd, hh, _, h0 => by exact (inv_enum h0).elim
  | .zip es, n, K, X, ast, sd, hh, _, h0 => by exact (inv_zip h0).elim
  | .rng1 a, n, K, X, ast, sd, hh, _, h0 => by exact (inv_rng1 h0).elim
  | .rng2 es, n, K, X, ast, sd, hh, _, h0 => by exact (inv_rng2 h0).elim
  | .items es, n, K, X, ast, sd, hh, _, h0 => by exact (inv_items h0).elim
theorem sV : ∀ (es : List E) (n : Cn) (K : List Kd) (X : Cx) (bs : List Expr), Sd c X S Γ → Here X n → mV S es n K bs = true → PEs X c Γ es K bs
  | [], n, K, X, [], sd, hh, h => .nil
  | [], n, K, X, _ :: _, sd, hh, h => by simp [mV] at h
  | e :: es, n, K, X, [], sd, hh, h => by cases e <;> simp [mV] at h
  | e :: es, n, K, X, b :: bs, sd, hh, h => by
    by_cases hv : isBv e = true
    · obtain ⟨i, rfl⟩ := isBv_iff hv
      cases b <;> try (simp [mV, isBv] at h; done)
      simp only [mV, Bool.and_eq_true] at h
      exact .cons (pe_nameB sd hh h.1) rfl (sV es n K X bs sd hh h.2)
    · have hv : isBv e = false := by simpa using hv
      have h' : (!isBv e && nos b && mE S e n K b && mV S es n (kE e K) bs) = true := by
        cases e <;> first | (simpa only [mV] using h) | cases hv
      simp only [Bool.and_eq_true, Bool.not_eq_true'] at h'
      exact .cons (PE.opd (kd_ne sd.rk e) hv (sE e n K X b sd hh hv h'.1.2).1) h'.1.1.2 (sV es n (kE e K) X bs sd hh h'.2)
theorem sA : ∀ (es : List E) (n : Cn) (K : List Kd) (X : Cx) (bs : List Expr), Sd c X S Γ → Here X n → mA S es n K bs = true → PTl X c Γ es K bs
  | [], n, K, X, [], sd, hh, h => .nil
  | [], n, K, X, _ :: _, sd, hh, h => by simp [mA] at h
  | e :: es, n, K, X, [], sd, hh, h => by simp [mA] at h
  | e :: es, n, K, X, b :: bs, sd, hh, h => by
    simp only [mA, Bool.and_eq_true, Bool.not_eq_true'] at h
    obtain ⟨⟨⟨⟨h1, h2⟩, h3⟩, h4⟩, h5⟩ := h
    have Q := sE e n K X b sd hh h2 h3
    exact .cons (Q.2 h1) ⟨_, kd_ne sd.rk e, Q.1⟩ h5 (sA es n (kE e K) X bs sd hh h4)
theorem sI : ∀ (it : E) (n : Cn) (K : List Kd) (X : Cx) (tg b : Expr), Sd c X S Γ → Here X n → mI S it n K tg b = true → (isBv it = false → mE S it n K b = true → PE X b (tF c K (kE it K) (kdE S.rk it) (evE Γ it))) → PI X tg b (tIF c K (kE it K) it (evE Γ it))
  | .enum es, n, K, X, tg, b, sd, hh, h0, hP => by
    obtain ⟨elts, kk, tp, x, p2, y, p, rfl, rfl, h⟩ := invI_enum h0
    simp only [Bool.and_eq_true] at h
    obtain ⟨⟨⟨⟨⟨h1, h2⟩, h3⟩, h4⟩, h5⟩, h6⟩ := h
    have e := str_eq h1
    subst e
    obtain ⟨g1, g2, g3⟩ := glB_gl hh h2
    exact f_enum sd.ft g1 (sd.bl _ (by simpa using h3)) (sV es n K X [y] sd hh h6) h4 h5
  | .rng1 a, n, K, X, tg, b, sd, hh, h0, hP => by
    obtain ⟨x, p2, y, p, rfl, h⟩ := invI_rng1 h0
    simp only [Bool.and_eq_true, Bool.not_eq_true'] at h
    obtain ⟨⟨⟨⟨⟨h1, h2⟩, h3⟩, h4⟩, h5⟩, h6⟩ := h
    have e := str_eq h1
    subst e
    obtain ⟨g1, g2, g3⟩ := glB_gl hh h2
    exact f_rng1 sd.ft g1 (sd.bl _ (by simpa using h3)) (PE.opd (kd_ne sd.rk a) h5 (sE a n K X y sd hh h5 h6).1) h5 h4
  | .rng2 es, n, K, X, tg, b, sd, hh, h0, hP => by
    obtain ⟨x, p2, y, z, p, rfl, h⟩ := invI_rng2 h0
    simp only [Bool.and_eq_true] at h
    obtain ⟨⟨⟨⟨⟨⟨h1, h2⟩, h3⟩, h4⟩, h5⟩, h6⟩, h7⟩ := h
    have e := str_eq h1
    subst e
    obtain ⟨g1, g2, g3⟩ := glB_gl hh h2
    exact f_rng2 sd.ft g1 (sd.bl _ (by simpa using h3)) (sV es n K X [y, z] sd hh h7) h4 h5 h6
  | .bv i, n, K, X, tg, b, sd, hh, h0, hP => by
    obtain ⟨x, p, rfl, h⟩ := invI_bv h0
    simp only [Bool.and_eq_true] at h
    exact seq_of sd.ft (e := .bv i) (K := K) (Γ := Γ) (pe_nameB sd hh h.1) (.inr rfl) rfl fun j hj => by
      cases hj; exact of_decide_eq_true h.2
  | .var _, n, K, X, tg, b, sd, hh, h0, hP => sI_pl sd rfl h0 hP
  | .int _, n, K, X, tg, b, sd, hh, h0, hP => sI_pl sd rfl h0 hP
  | .bl _, n, K, X, tg, b, sd, hh, h0, hP => sI_pl sd rfl h0 hP
  | .non, n, K, X, tg, b, sd, hh, h0, hP => sI_pl sd rfl h0 hP
  | .str _, n, K, X, tg, b, sd, hh, h0, hP => sI_pl sd rfl h0 hP
  | .bin _ _, n, K, X, tg, b, sd, hh, h0, hP => sI_pl sd rfl h0 hP
  | .neg _, n, K, X, tg, b, sd, hh, h0, hP => sI_pl sd rfl h0 hP
  | .cmp _ _, n, K, X, tg, b, sd, hh, h0, hP => sI_pl sd rfl h0 hP
  | .chain _ _ _ _, n, K, X, tg, b, sd, hh, h0, hP => sI_pl sd rfl h0 hP
  | .and _, n, K, X, tg, b, sd, hh, h0, hP => sI_pl sd rfl h0 hP
  | .or _, n, K, X, tg, b, sd, hh, h0, hP => sI_pl sd rfl h0 hP
  | .not _, n, K, X, tg, b, sd, hh, h0, hP => sI_pl sd rfl h0 hP
  | .ite _ _ _, n, K, X, tg, b, sd, hh, h0, hP => sI_pl sd rfl h0 hP
  | .tup _, n, K, X, tg, b, sd, hh, h0, hP => sI_pl sd rfl h0 hP
  | .lst _, n, K, X, tg, b, sd, hh, h0, hP => sI_pl sd rfl h0 hP
  | .dic, n, K, X, tg, b, sd, hh, h0, hP => sI_pl sd rfl h0 hP
  | .idx _, n, K, X, tg, b, sd, hh, h0, hP => sI_pl sd rfl h0 hP
  | .slc _ _ _, n, K, X, tg, b, sd, hh, h0, hP => sI_pl sd rfl h0 hP
  | .rev _, n, K, X, tg, b, sd, hh, h0, hP => sI_pl sd rfl h0 hP
  | .comp _ _ _ _ _, n, K, X, tg, b, sd, hh, h0, hP => sI_pl sd rfl h0 hP
  | .call _ _ _, n, K, X, tg, b, sd, hh, h0, hP => sI_pl sd rfl h0 hP
  | .bi _ _, n, K, X, tg, b, sd, hh, h0, hP => sI_pl sd rfl h0 hP
  | .pop _, n, K, X, tg, b, sd, hh, h0, hP => sI_pl sd rfl h0 hP
  | .popAt _ _, n, K, X, tg, b, sd, hh, h0, hP => sI_pl sd rfl h0 hP
  | .setd _ _, n, K, X, tg, b, sd, hh, h0, hP => sI_pl sd rfl h0 hP
  | .zip _, n, K, X, tg, b, sd, hh, h0, hP => sI_pl sd rfl h0 hP
  | .items _, n, K, X, tg, b, sd, hh, h0, hP => sI_pl sd rfl h0 hP
end
end
end EvS
set_option linter.all false
set_option Elab.async false
set_option maxRecDepth 100000
/-! EvU: which assignments of rows store from the right. -/
namespace EvS
open PySem PySem.Spec PyProof.Rows L2 EvK
theorem block_fn {env : Env} (hk : env.scope.kind = .function) : env.blockKind = .function := by unfold Env.blockKind; rw [hk]; rfl
theorem swap2 {x y : Str} {px py pt pt2 : Pos} {kt k2 : Nat} {a b : Expr} {env : Env} (hk : env.scope.kind = .function) (hx : env.scope.names.lookup x = some .local) (hy : env.scope.names.lookup y = some .local) (hl : py.line = px.line) (hxy : x ≠ y) (ha : nos a = true) (hb : nos b = true)
    (h1 : [a, b].all (foldedForSure 8) = false) (h2 : [a, b].all (constantsAlone 8) = false) : swappedStores [.Tuple [.Name x px, .Name y py] kt pt] (.Tuple [a, b] k2 pt2) env = pure (some [x, y]) := by
  have kx : env.kindOf x = some .local := hx
  have ky : env.kindOf y = some .local := hy
  have hbk := block_fn hk
  have e : [x, y].eraseDups = [x, y] := by
    have : (y == x) = false := beq_eq_false_iff_ne.mpr (Ne.symm hxy)
    simp [List.eraseDups_cons, this]
  unfold swappedStores
  simp only [List.length_cons, List.length_nil, hbk]
  refine (if_neg (by decide)).trans ?_
  refine (if_neg fun h => ?_).trans ?_
  · obtain ⟨z, hz, hf⟩ := List.any_eq_true.mp h
    simp only [List.mem_cons, List.not_mem_nil, or_false] at hz
    rcases hz with rfl | rfl
    · cases z <;> first | (simp at hf; done) | (simp [nos] at ha; done)
    · cases z <;> first | (simp at hf; done) | (simp [nos] at hb; done)
  refine (if_neg (by simp [kx, ky, hl, Expr.pos, e])).trans ?_
  rw [h1, h2]
  refine (if_neg Bool.false_ne_true).trans ((if_neg Bool.false_ne_true).trans ?_)
  simp [kx, ky, hl, Expr.pos]
theorem swap3 {x y z : Str} {px py pz pt pt2 : Pos} {kt k2 : Nat} {a b c : Expr} {env : Env} (hk : env.scope.kind = .function) (hx : env.scope.names.lookup x = some .local) (hy : env.scope.names.lookup y = some .local) (hz : env.scope.names.lookup z = some .local) (hl : py.line = px.line) (hl2 : pz.line = px.line) (hxy : x ≠ y) (hxz : x ≠ z) (hyz : y ≠ z) (ha : nos a = true) (hb : nos b = true) (hc : nos c = true)
    (h1 : [a, b, c].all (foldedForSure 8) = false) (h2 : [a, b, c].all (constantsAlone 8) = false) : swappedStores [.Tuple [.Name x px, .Name y py, .Name z pz] kt pt] (.Tuple [a, b, c] k2 pt2) env = pure (some [x, y, z]) := by
  have kx : env.kindOf x = some .local := hx
  have ky : env.kindOf y = some .local := hy
  have kz : env.kindOf z = some .local := hz
  have hbk := block_fn hk
  have e : [x, y, z].eraseDups = [x, y, z] := by
    have h1 : (y == x) = false := beq_eq_false_iff_ne.mpr (Ne.symm hxy)
    have h2 : (z == x) = false := beq_eq_false_iff_ne.mpr (Ne.symm hxz)
    have h3 : (z == y) = false := beq_eq_false_iff_ne.mpr (Ne.symm hyz)
    simp [List.eraseDups_cons, h1, h2, h3]
  unfold swappedStores
  simp only [List.length_cons, List.length_nil, hbk]
  refine (if_neg (by decide)).trans ?_
  refine (if_neg fun h => ?_).trans ?_
  · obtain ⟨w, hw, hf⟩ := List.any_eq_true.mp h
    simp only [List.mem_cons, List.not_mem_nil, or_false] at hw
    rcases hw with rfl | rfl | rfl
    · cases w <;> first | (simp at hf; done) | (simp [nos] at ha; done)
    · cases w <;> first | (simp at hf; done) | (simp [nos] at hb; done)
    · cases w <;> first | (simp at hf; done) | (simp [nos] at hc; done)
  refine (if_neg (by simp [kx, ky, kz, hl, hl2, Expr.pos, e])).trans ?_
  rw [h1, h2]
  refine (if_neg Bool.false_ne_true).trans ((if_neg Bool.false_ne_true).trans ?_)
  simp [kx, ky, kz, hl, hl2, Expr.pos]
/-- values that are constants: no swap -/
theorem noswap_const {ts vs : List Expr} {kt k2 : Nat} {pt pt2 : Pos} {env : Env} (h : vs.all (foldedForSure 8) = true) : swappedStores [.Tuple ts kt pt] (.Tuple vs k2 pt2) env = pure none := by
  unfold swappedStores
  simp only [h]
  split
  · rfl
  · split
    · rfl
    · split
      · rfl
      · exact if_pos trivial
theorem noswap_val {tg v : Expr} {env : Env} (h : (match v with | .Tuple .. => true | _ => false) = false) : swappedStores [tg] v env = pure none := by
  unfold swappedStores
  cases v <;> first | (simp at h; done) | (cases tg <;> rfl)
theorem noswap_tg {tg v : Expr} {env : Env} (h : (match tg with | .Tuple .. => true | .List .. => true | _ => false) = false) : swappedStores [tg] v env = pure none := by
  unfold swappedStores
  cases tg <;> first | (simp at h; done) | rfl
theorem fm_len {α β : Type} {f : α → Option β} : ∀ {l : List α}, (l.filterMap f).length ≤ l.length
  | [] => Nat.le_refl _
  | a :: l => by
    rw [List.filterMap_cons]
    cases f a with
    | none => exact Nat.le_succ_of_le fm_len
    | some b => exact Nat.succ_le_succ fm_len
theorem fm_all {α β : Type} {f : α → Option β} {t : α} (ht : f t = none) : ∀ {l : List α}, t ∈ l → (l.filterMap f).length ≠ l.length
  | [], h => by simp at h
  | a :: l, h => by
    rw [List.filterMap_cons]
    rcases List.mem_cons.mp h with rfl | h
    · rw [ht]
      have := fm_len (f := f) (l := l)
      simp only [List.length_cons]; omega
    · cases f a with
      | none =>
        have := fm_len (f := f) (l := l)
        simp only [List.length_cons]; omega
      | some b =>
        have := fm_all ht h
        simpa using this
/-- a target that is no plain local name: no swap -/
def oddT (sc : Scope) : Expr → Bool
  | .Name x _ => decide (sc.names.lookup x ≠ some .local)
  | _ => true
theorem noswap_odd {ts vs : List Expr} {kt k2 : Nat} {pt pt2 : Pos} {env : Env} {t : Expr} (ht : t ∈ ts) (h : oddT env.scope t = true) : swappedStores [.Tuple ts kt pt] (.Tuple vs k2 pt2) env = pure none := by
  unfold swappedStores
  simp only []
  split
  · rfl
  · split
    · rfl
    · refine if_pos ?_
      rw [Bool.or_eq_true]
      refine .inl (bne_iff_ne.mpr (fm_all (t := t) ?_ ht))
      cases t <;> first | rfl | skip
      rename_i x p
      have hk : ¬ env.kindOf x = some .local := of_decide_eq_true h
      show (if (env.kindOf x == some NameKind.local && _) = true then some x else none) = none
      rw [if_neg]
      intro z
      rw [Bool.and_eq_true] at z
      exact hk (eq_of_beq z.1)
theorem sw_notComp {v : Expr} {tg : Option Expr} {l : Nat} {env : Env} (h : (match v with | .ListComp .. => true | .SetComp .. => true | .DictComp .. => true | _ => false) = false) : swapsWith v tg l env = pure false := by
  unfold swapsWith
  cases v <;> first | (simp at h; done) | rfl
theorem sw_notName {v tg : Expr} {l : Nat} {env : Env} (h : (match tg with | .Name .. => true | _ => false) = false) : swapsWith v (some tg) l env = pure false := by
  unfold swapsWith
  cases v <;> first | rfl | (cases tg <;> first | (simp at h; done) | rfl)
theorem sw_false {elt : Expr} {gs : List Comprehension} {scope : Scope} {pos py : Pos} {y : Str} {l : Nat} {env : Env} (hk : env.scope.kind = .function) (h : (decide (env.scope.names.lookup y = some .local) && (py.line == pos.line) && !(scope.names.any fun (n, k) => n == y && (k == .local || k == .cell))) = false) :
    swapsWith (.ListComp elt gs scope pos) (some (.Name y py)) l env = pure false := by
  have hb := block_fn hk
  have e : (env.kindOf y == some NameKind.local) = decide (env.scope.names.lookup y = some .local) := by
    show (env.scope.names.lookup y == some NameKind.local) = _
    by_cases z : env.scope.names.lookup y = some .local
    · rw [z]; rfl
    · rw [decide_eq_false z]; exact beq_eq_false_iff_ne.mpr z
  show (pure (env.blockKind == .function && env.kindOf y == some .local && py.line == pos.line && !(scope.names.any fun (n, k) => n == y && (k == .local || k == .cell))) : Sem Bool) = pure false
  rw [hb, e]
  have : (ScopeKind.function == ScopeKind.function) = true := rfl
  rw [this, Bool.true_and, h]
end EvS
set_option linter.all false
set_option Elab.async false
set_option maxRecDepth 100000
set_option maxHeartbeats 2000000
/-! EvT: statements: the match, the forms. -/
namespace EvS
open PySem PySem.Spec PyProof.Rows L2 EvK
open Ev (D E S Tgt Ste Src getS restore flatK tupK dget dset dsetAll okK lim isInts isBls seqD pairsD evE evV evAnd evOr evS evSs boolR Calls tyD asgT asgTs tnm tnms compL pureE pureEs Bi biD Bop Cop binD cmpD atD Ctl whileL forL setAll)
def mkKs (own : List Nat) (K : List Kd) : List Kd := (List.range K.length).map fun i => if K.getD i .fz = .src then .src else if own.contains i then .own else .fz
def meetK : List Kd → List Kd → List Kd
  | a :: r, b :: s => (if a = b then a else .fz) :: meetK r s
  | _, _ => []
def gd (b : Bool) (K : List Kd) : Option (List Kd) := if b then some K else none
theorem gd_some {b : Bool} {K Kn : List Kd} (h : gd b K = some Kn) : b = true ∧ Kn = K := by
  unfold gd at h
  split at h
  · cases h; exact ⟨‹_›, rfl⟩
  · cases h
/-- name = comprehension, swapped -/
def swB (n : Cn) (x : Str) (px : Pos) : Expr → Bool
  | .ListComp _ _ s p => decide (n.sc.names.lookup x = some .local) && (px.line == p.line) && !(s.names.any fun (n, k) => n == x && (k == .local || k == .cell))
  | _ => false
def isComp : Expr → Bool
  | .ListComp .. => true
  | .SetComp .. => true
  | .DictComp .. => true
  | _ => false
def isTupE : Expr → Bool
  | .Tuple .. => true
  | _ => false
def isCompE : E → Bool
  | .comp .. => true
  | _ => false
/-- no swap of a row's stores -/
def noSw (n : Cn) (ts : List Expr) : Expr → Bool
  | .Tuple vs _ _ => vs.all (foldedForSure 8) || ts.any (oddT n.sc)
  | _ => true
def locP (S : SS) (n : Cn) (i : Nat) (x : Str) : Bool := decide (S.N[i]? = some x) && decide (n.sc.names.lookup x = some .local)
abbrev LK := Option (List Kd × List Kd)
def setKs (rk : String → Kd) : List Nat → List E → List Kd → List Kd
  | i :: is, e :: es, K => setKs rk is es (K.set i (kdE rk e))
  | _, _, K => K
def par2B (S : SS) (n : Cn) (i j : Nat) (es : List E) (K : List Kd) (x : Str) (px : Pos) (y : Str) (py : Pos) (a b : Expr) : Bool := locP S n i x && locP S n j y && decide (i ≠ j) && decide (x ≠ y) && decide (py.line = px.line) && !([a, b].all (foldedForSure 8)) && !([a, b].all (constantsAlone 8)) && es.all (fun e => !isBv e) && mV S es n K [a, b] &&
      decide (i < (kEs es K).length) && decide (j < (kEs es K).length)
def par3B (S : SS) (n : Cn) (i j k : Nat) (es : List E) (K : List Kd) (x : Str) (px : Pos) (y : Str) (py : Pos) (z : Str) (pz : Pos) (a b d : Expr) : Bool := locP S n i x && locP S n j y && locP S n k z && decide (i ≠ j) && decide (i ≠ k) && decide (j ≠ k) && decide (x ≠ y) && decide (x ≠ z) && decide (y ≠ z) && decide (py.line = px.line) && decide (pz.line = px.line) &&
      !([a, b, d].all (foldedForSure 8)) && !([a, b, d].all (constantsAlone 8)) && es.all (fun e => !isBv e) && mV S es n K [a, b, d] && decide (i < (kEs es K).length) && decide (j < (kEs es K).length) && decide (k < (kEs es K).length)
def namE : Expr → Option (Str × Pos)
  | .Name x p => some (x, p)
  | _ => none
def parB (S : SS) (n : Cn) (is : List Nat) (es : List E) (K : List Kd) (ts vs : List Expr) : Bool := match is, ts.mapM namE, vs with
  | [i, j], some [(x, px), (y, py)], [a, b] => par2B S n i j es K x px y py a b
  | [i, j, k], some [(x, px), (y, py), (z, pz)], [a, b, d] => par3B S n i j k es K x px y py z pz a b d
  | _, _, _ => false
/-- a row of stores that is not swapped: a tuple is made and taken apart -/
def parTB (S : SS) (n : Cn) (is : List Nat) (es : List E) (K : List Kd) (ts vs : List Expr) : Bool := decide (is.Nodup) && decide (2 ≤ is.length) && decide (is.length ≤ 4) && decide (es.length = is.length) && mTs S n (is.map .nm) ts && (vs.all (foldedForSure 8) || ts.any (oddT n.sc)) && es.all (fun e => !isBv e) && mV S es n K vs && (is.all fun i => decide (i < (kEs es K).length))
theorem namE_eq {t : Expr} {p : Str × Pos} (h : namE t = some p) : t = .Name p.1 p.2 := by
  cases t <;> first | (simp [namE] at h; done) | skip
  cases h; rfl
theorem names_eq : ∀ {ts : List Expr} {ps : List (Str × Pos)}, ts.mapM namE = some ps → ts = ps.map fun p => .Name p.1 p.2
  | [], ps, h => by
    simp only [List.mapM_nil] at h
    cases h; rfl
  | t :: ts, ps, h => by
    rw [List.mapM_cons] at h
    obtain ⟨p, h1, h⟩ := Option.bind_eq_some_iff.mp h
    obtain ⟨qs, h2, h⟩ := Option.bind_eq_some_iff.mp h
    cases h
    rw [namE_eq h1, names_eq h2]; rfl
mutual
def mS (S : SS) (rk : Kd) (n : Cn) : Ev.S → List Kd → LK → Stmt → Option (List Kd)
  | .asg (.nm i) e, K, _, .Assign [.Name x p] v _ => gd (locB S n i x && !isBv e && mE S e n K v && decide (i < (kE e K).length) && (isCompE e || !isComp v)) ((kE e K).set i (kdE S.rk e))
  | .asg (.tup l) e, K, _, .Assign [.Tuple ts k p] v _ => gd (mT S n (.tup l) (.Tuple ts k p) && !isBv e && mE S e n K v && noSw n ts v) (kT (.tup l) (kE e K))
  | .par is es, K, _, .Assign [.Tuple ts _ _] (.Tuple vs _ _) _ => gd (parB S n is es K ts vs || parTB S n is es K ts vs) (setKs S.rk is es (kEs es K))
  | .aug i o e, K, _, .AugAssign (.Name x _) op v _ => gd (locB S n i x && decide (op = opOf o) && (decide (o = .add) || decide (o = .sub)) && !isBv e && mE S e n K v && decide (K.getD i .fz ≠ .src)) ((kE e K).set i .fz)
  | .setI i k e, K, _, .Assign [.Subscript (.Name x _) y _] v _ => gd (nameB S n i x && !isBv e && !isBv k && mE S e n K v && mE S k n (kE e K) y && plainIx y && decide ((kE k (kE e K)).getD i .fz = .own) && decide ((kE e K).getD i .fz ≠ .src)) (kE k (kE e K))
  | .app i e, K, _, .Expr (.Call (.Attribute (.Name x _) nm apos) [y] [] cpos) _ => gd (nameB S n i x && decide (nm = Str.ofString "append") && (apos.endLine == cpos.line) && !isBv e && nos y && mE S e n K y && decide (K.getD i .fz ≠ .src) && decide ((kE e K).getD i .fz = .own)) (kE e K)
  | .ext i e, K, _, .Expr (.Call (.Attribute (.Name x _) nm apos) [y] [] cpos) _ => gd (nameB S n i x && decide (nm = Str.ofString "extend") && (apos.endLine == cpos.line) && bvOk [e] K && mV S [e] n K [y] && decide (K.getD i .fz ≠ .src) && decide ((kEs [e] K).getD i .fz = .own)) (kEs [e] K)
  | .ite t a b, K, L, .If x as bs _ => if isTst t && !isBv t && mE S t n K x then
      match mSs S rk n a (kE t K) L as, mSs S rk n b (kE t K) L bs with
      | some K1, some K2 => gd (leK (meetK K1 K2) K1 && leK (meetK K1 K2) K2) (meetK K1 K2)
      | _, _ => none else none
  | .whil hd ex t b, K, _, .While x bs [] _ => if leK (mkKs hd K) K && isTst t && !isBv t && mE S t n (mkKs hd K) x then
      match mSs S rk n b (kE t (mkKs hd K)) (some (mkKs ex K, mkKs hd K)) bs with
      | some K1 => gd (leK (mkKs hd K) K1 && leK (mkKs ex K) (kE t (mkKs hd K))) (mkKs ex K)
      | none => none else none
  | .forr hd ex t it b, K, _, .For tg iter bs [] _ => if noSet iter && decide (itv it = none) && mI S it n K tg iter && mT S n t tg && (!itp it || tupT t) && leK (mkKs hd K) (kE it K) then
      match mSs S rk n b (kT t (mkKs hd K)) (some (mkKs ex K, mkKs hd K)) bs with
      | some K1 => gd (leK (mkKs hd K) K1 && leK (mkKs ex K) (mkKs hd K)) (mkKs ex K)
      | none => none else none
  | .ret (.var i), K, _, .Return (some (.Name x _)) _ => gd (nameB S n i x && (if rk = .own then decide (K.getD i .fz = .own) else decide (K.getD i .fz ≠ .src))) K
  | .ret e, K, _, .Return (some v) _ => gd (!isBv e && mE S e n K v && (decide (rk = .fz) || decide (kdE S.rk e = .own))) K
  | .brk, K, some (Kb, _), .Break _ => gd (leK Kb K) K
  | .cont, K, some (_, Kc), .Continue _ => gd (leK Kc K) K
  | _, _, _, _ => none
def mSs (S : SS) (rk : Kd) (n : Cn) : List Ev.S → List Kd → LK → List Stmt → Option (List Kd)
  | [], K, _, [] => some K
  | s :: ss, K, L, a :: as => match mS S rk n s K L a with
    | some K1 => mSs S rk n ss K1 L as
    | none => none
  | _, _, _, _ => none
end

/-! ### readings -/
def SEnd (c : Ct) (rk : Kd) (Kn : List Kd) (L : LK) (ts : List Tm) (ρ' : Ste) (Dn : Ends) : Ctl → Prop
  | .nx => ∀ g' σ' H', Rel c g' Kn ρ' ts σ' H' → Dn.nx σ' H'
  | .rt d => ∀ g' K' ρ'' σ' H' v, ρ''.src = ρ'.src → Rel c g' K' ρ'' (ts ++ [(rk, d, v)]) σ' H' → Dn.rt v H'
  | .bk => ∀ Kb Kc, L = some (Kb, Kc) → ∀ g' σ' H', Rel c g' Kb ρ' ts σ' H' → Dn.bk σ' H'
  | .ct => ∀ Kb Kc, L = some (Kb, Kc) → ∀ g' σ' H', Rel c g' Kc ρ' ts σ' H' → Dn.ct σ' H'
def tSF (c : Ct) (rk : Kd) (K Kn : List Kd) (L : LK) (f : Ev.R Ctl) : TS := fun Dn σ H => ∃ g ρ ts ct ρ', Rel c g K ρ ts σ H ∧ f ρ = some (ct, ρ') ∧ SEnd c rk Kn L ts ρ' Dn ct
section
variable {c : Ct} {X : Cx} {S : SS} {Γ : Calls} {n : Cn} {K : List Kd} {rk : Kd} {L : LK} {x y z : Expr} {pos : Pos}
theorem Rel.setKd {g : Gh} {Ks : List Kd} {ρ : Ste} {ts : List Tm} {σ : L2.St} {H : Hp} {k : Kd} {d : D} {v : V} (hk : k ≠ .src) (R : Rel c g Ks ρ (ts ++ [(k, d, v)]) σ H) (i : Nat) (hi : i < Ks.length) :
    ∃ g', Rel c g' (Ks.set i k) { ρ with sl := ρ.sl.set i (some d) } ts (σ.set i (some v)) H := by
  cases k with
  | src => exact absurd rfl hk
  | fz => exact ⟨g, R.setFz i⟩
  | own => exact ⟨_, R.setOwn i hi⟩
theorem asg_imp {i : Nat} {e : E} {kd : Kd} (hk : kd ≠ .src) (hi : i < (kE e K).length) {Dn : Ends} {σ : L2.St} {H : Hp} (q : tSF c rk K ((kE e K).set i kd) L (evS Γ (.asg (.nm i) e)) Dn σ H) :
    tF c K (kE e K) kd (evE Γ e) σ H fun x H1 => gName i x σ H1 Dn.nx := by
  obtain ⟨g, ρ, ts, ct, ρ', R, ev, q⟩ := q
  obtain ⟨⟨d, ρ1⟩, e1, e2⟩ := Option.bind_eq_some_iff.mp ev
  cases e2
  refine ⟨g, ρ, ts, d, ρ1, R, e1, fun g' v H' R' => ?_⟩
  obtain ⟨g2, R2⟩ := R'.setKd hk i hi
  exact q g2 _ H' R2
theorem s_asgN (sd : Sd c X S Γ) (hh : Here X n) (hf : n.sc.kind = .function) {i : Nat} {e : E} {x : Str} {p : Pos} {v : Expr} (hl : locB S n i x = true) (hb : isBv e = false) (hm : mE S e n K v = true) (hi : i < (kE e K).length) (hc : (isCompE e || !isComp v) = true) :
    PS X (.Assign [.Name x p] v pos) (tSF c rk K ((kE e K).set i (kdE S.rk e)) L (evS Γ (.asg (.nm i) e))) := by
  obtain ⟨h1, h2, h3⟩ := locB_ok sd hh hl
  have hkind : X.env.scope.kind = .function := by rw [hh.sc]; exact hf
  cases hcm : isCompE e with
  | false =>
    rw [hcm, Bool.false_or] at hc
    have P := (sE e n K X v sd hh hb hm).1
    refine PS.imp (ps_set sd.nd h1 h2 P (sw_notComp (by cases v <;> first | rfl | (simp [isComp] at hc; done))) h3) fun Dn σ H q => ?_
    exact asg_imp (kd_ne sd.rk e) hi q
  | true =>
    cases e <;> try (simp [isCompE] at hcm; done)
    rename_i own t it cond elt
    obtain ⟨w, tg, iter, ifs, scope, p2, rfl, h⟩ := inv_comp hm
    have C := compOk_of (c := c) (Γ := Γ) sd hh h (fun hi => sI it n K X tg iter sd hh hi fun hb hm => (sE it n K X iter sd hh hb hm).1) (fun X' sd' hh' ha => sA cond _ _ X' ifs sd' hh' ha) (fun X' sd' hh' hb he => (sE elt _ _ X' w sd' hh' hb he).1)
    cases hs : (decide (X.env.scope.names.lookup x = some .local) && (p.line == p2.line) && !(scope.names.any fun (n, k) => n == x && (k == .local || k == .cell))) with
    | false =>
      refine PS.imp (ps_set sd.nd h1 h2 (C.pe (pos := p2)) (sw_false hkind hs) h3) fun Dn σ H q => ?_
      exact asg_imp (e := .comp own t it cond elt) (kd := .own) (by decide) hi q
    | true =>
      simp only [Bool.and_eq_true, decide_eq_true_eq, Bool.not_eq_true'] at hs
      have := ps_setLc (spos := pos) (py := p) (pos := p2) C.cal C.nd h1 hs.1.1 (sw_true hkind hs.1.1 hs.1.2 hs.2) C.hi C.ok C.hg C.ht C.he C.hs
      rw [own_map] at this
      refine PS.imp this fun Dn σ H q => ?_
      exact C.im σ H _ (asg_imp (e := .comp own t it cond elt) (kd := .own) (by decide) hi q)
theorem s_asgT (sd : Sd c X S Γ) (hh : Here X n) {l : List Tgt} {e : E} {ts : List Expr} {k : Nat} {p : Pos} {v : Expr} (ht : mT S n (.tup l) (.Tuple ts k p) = true) (hb : isBv e = false) (hm : mE S e n K v = true) (hs : noSw n ts v = true) :
    PS X (.Assign [.Tuple ts k p] v pos) (tSF c rk K (kT (.tup l) (kE e K)) L (evS Γ (.asg (.tup l) e))) := by
  have P := PE.imp (sE e n K X v sd hh hb hm).1 fun σ H Q (q : tF c K (kE e K) .fz (evE Γ e) σ H Q) => q.toFz (kd_ne sd.rk e)
  have hw : swappedStores [.Tuple ts k p] v X.env = pure none := by
    cases v <;> try (exact noswap_val rfl)
    rename_i vs k2 p2
    unfold noSw at hs
    rw [Bool.or_eq_true] at hs
    rcases hs with hs | hs
    · exact noswap_const hs
    · obtain ⟨t, h1, h2⟩ := List.any_eq_true.mp hs
      exact noswap_odd h1 (by rw [hh.sc]; exact h2)
  refine PS.imp (ps_asg P (mT_ok sd hh _ _ ht) (by show swapsWith v (some (.Tuple ts k p)) pos.line X.env = pure false; exact sw_notName rfl) hw) fun Dn σ H q => ?_
  obtain ⟨g, ρ, tms, ct, ρ', R, ev, q⟩ := q
  obtain ⟨⟨d, ρ1⟩, e1, e2⟩ := Option.bind_eq_some_iff.mp ev
  obtain ⟨sl, e3, e4⟩ := Option.map_eq_some_iff.mp e2
  cases e4
  refine ⟨g, ρ, tms, d, ρ1, R, e1, fun g' v H' R' => ?_⟩
  exact gT_fz (.tup l) (kE e K) ρ1 tms σ H' v d sl _ R'.drop R'.last e3 fun σ' _ R2 => q g' σ' H' R2
theorem PEs.paL {fr : Bool} : ∀ {es : List E} {n : Cn} {K : List Kd} {bs : List Expr}, Sd c X S Γ → Here X n → es.all (fun e => !isBv e) = true → mV S es n K bs = true → PA X bs (tNestL c Γ S.rk false es K)
  | [], n, K, [], sd, hh, _, h => pa_nil
  | [], n, K, _ :: _, sd, hh, _, h => by simp [mV] at h
  | e :: es, n, K, [], sd, hh, _, h => by cases e <;> simp [mV] at h
  | e :: es, n, K, b :: bs, sd, hh, hn, h => by
    simp only [List.all_cons, Bool.and_eq_true, Bool.not_eq_true'] at hn
    have h' : (!isBv e && nos b && mE S e n K b && mV S es n (kE e K) bs) = true := by
      cases e <;> first | (simpa only [mV] using h) | (cases hn.1)
    simp only [Bool.and_eq_true, Bool.not_eq_true'] at h'
    exact pa_cons (sE e n K X b sd hh hn.1 h'.1.2).1 (PEs.paL (fr := fr) sd hh hn.2 h'.2) (star_nos h'.1.1.2)
theorem mV_nos : ∀ {es : List E} {n : Cn} {K : List Kd} {bs : List Expr}, mV S es n K bs = true → bs.all nos = true
  | [], n, K, [], h => rfl
  | [], n, K, _ :: _, h => by simp [mV] at h
  | e :: es, n, K, [], h => by cases e <;> simp [mV] at h
  | e :: es, n, K, b :: bs, h => by
    by_cases hv : isBv e = true
    · obtain ⟨i, rfl⟩ := isBv_iff hv
      cases b <;> try (simp [mV, isBv] at h; done)
      simp only [mV, Bool.and_eq_true] at h
      simp only [List.all_cons, Bool.and_eq_true]
      exact ⟨rfl, mV_nos h.2⟩
    · have hv : isBv e = false := by simpa using hv
      have h' : (!isBv e && nos b && mE S e n K b && mV S es n (kE e K) bs) = true := by
        cases e <;> first | (simpa only [mV] using h) | cases hv
      simp only [Bool.and_eq_true, Bool.not_eq_true'] at h'
      simp only [List.all_cons, Bool.and_eq_true]
      exact ⟨h'.1.1.2, mV_nos h'.2⟩
theorem locP_ok (sd : Sd c X S Γ) (hh : Here X n) {i : Nat} {x : Str} (h : locP S n i x = true) : X.N[i]? = some x ∧ X.env.scope.names.lookup x = some .local := by
  unfold locP at h
  simp only [Bool.and_eq_true, decide_eq_true_eq] at h
  rw [sd.N, hh.sc]
  exact h
theorem set_comm2 {α : Type} {l : List α} {i j : Nat} {a b : α} (h : i ≠ j) : (l.set i a).set j b = (l.set j b).set i a := List.set_comm a b h
theorem s_par2 (sd : Sd c X S Γ) (hh : Here X n) (hf : n.sc.kind = .function) {i j : Nat} {e f : E} {x y : Str} {px py pt pt2 : Pos} {kt k2 : Nat} {a b : Expr} (l1 : locP S n i x = true) (l2 : locP S n j y = true) (hij : i ≠ j) (hxy : x ≠ y) (hl : py.line = px.line)
    (h1 : [a, b].all (foldedForSure 8) = false) (h2 : [a, b].all (constantsAlone 8) = false) (hn : [e, f].all (fun e => !isBv e) = true) (hm : mV S [e, f] n K [a, b] = true) (hi : i < (kEs [e, f] K).length) (hj : j < (kEs [e, f] K).length) :
    PS X (.Assign [.Tuple [.Name x px, .Name y py] kt pt] (.Tuple [a, b] k2 pt2) pos) (tSF c rk K (((kEs [e, f] K).set i (kdE S.rk e)).set j (kdE S.rk f)) L (evS Γ (.par [i, j] [e, f]))) := by
  obtain ⟨n1, x1⟩ := locP_ok sd hh l1
  obtain ⟨n2, x2⟩ := locP_ok sd hh l2
  have hkind : X.env.scope.kind = .function := by rw [hh.sc]; exact hf
  have hns := mV_nos hm
  simp only [List.all_cons, List.all_nil, Bool.and_true, Bool.and_eq_true] at hns
  refine PS.imp (ps_par sd.ft.calm sd.nd n1 n2 hij x1 x2 (PEs.paL (fr := false) sd hh hn hm) (swap2 hkind x1 x2 hl hxy hns.1 hns.2 h1 h2)) fun Dn σ H q => ?_
  obtain ⟨g, ρ, tms, ct, ρ', R, ev, q⟩ := q
  obtain ⟨⟨ds, ρ1⟩, e1, e2⟩ := Option.bind_eq_some_iff.mp ev
  obtain ⟨sl, e3, e4⟩ := Option.map_eq_some_iff.mp e2
  cases e4
  refine nestL_imp (fr := false) [e, f] K σ H _ hn ⟨g, ρ, tms, ds, ρ1, R, e1, fun g' vs H' R' q1 q2 => ?_⟩
  match ds, vs, q1, q2 with
  | [d1, d2], [v1, v2], _, _ =>
    have R' : Rel c g' (kEs [e, f] K) ρ1 (tms ++ [(kdE S.rk e, d1, v1)] ++ [(kdE S.rk f, d2, v2)]) σ H' := by rw [List.append_assoc]; exact R'
    cases e3
    obtain ⟨g2, R2⟩ := R'.setKd (kd_ne sd.rk f) j hj
    obtain ⟨g3, R3⟩ := R2.setKd (kd_ne sd.rk e) i (by rw [List.length_set]; exact hi)
    refine ⟨v1, v2, rfl, q g3 _ H' ?_⟩
    rw [set_comm2 hij, set_comm2 (l := σ) hij]
    have : ({ ρ1 with sl := (ρ1.sl.set i (some d1)).set j (some d2) } : Ste) = ⟨(ρ1.sl.set j (some d2)).set i (some d1), ρ1.src⟩ := by rw [set_comm2 hij]
    rw [this]
    exact R3
theorem s_par3 (sd : Sd c X S Γ) (hh : Here X n) (hf : n.sc.kind = .function) {i j k : Nat} {e f h : E} {x y z : Str} {px py pz pt pt2 : Pos} {kt k2 : Nat} {a b d : Expr} (l1 : locP S n i x = true) (l2 : locP S n j y = true) (l3 : locP S n k z = true) (hij : i ≠ j) (hik : i ≠ k) (hjk : j ≠ k) (hxy : x ≠ y) (hxz : x ≠ z) (hyz : y ≠ z) (hl : py.line = px.line) (hl2 : pz.line = px.line)
    (h1 : [a, b, d].all (foldedForSure 8) = false) (h2 : [a, b, d].all (constantsAlone 8) = false) (hn : [e, f, h].all (fun e => !isBv e) = true) (hm : mV S [e, f, h] n K [a, b, d] = true) (hi : i < (kEs [e, f, h] K).length) (hj : j < (kEs [e, f, h] K).length) (hk : k < (kEs [e, f, h] K).length) :
    PS X (.Assign [.Tuple [.Name x px, .Name y py, .Name z pz] kt pt] (.Tuple [a, b, d] k2 pt2) pos) (tSF c rk K ((((kEs [e, f, h] K).set i (kdE S.rk e)).set j (kdE S.rk f)).set k (kdE S.rk h)) L (evS Γ (.par [i, j, k] [e, f, h]))) := by
  obtain ⟨n1, x1⟩ := locP_ok sd hh l1
  obtain ⟨n2, x2⟩ := locP_ok sd hh l2
  obtain ⟨n3, x3⟩ := locP_ok sd hh l3
  have hkind : X.env.scope.kind = .function := by rw [hh.sc]; exact hf
  have hns := mV_nos hm
  simp only [List.all_cons, List.all_nil, Bool.and_true, Bool.and_eq_true] at hns
  refine PS.imp (ps_par3 sd.ft.calm sd.nd n1 n2 n3 hij hik hjk x1 x2 x3 (PEs.paL (fr := false) sd hh hn hm) (swap3 hkind x1 x2 x3 hl hl2 hxy hxz hyz hns.1 hns.2.1 hns.2.2 h1 h2)) fun Dn σ H q => ?_
  obtain ⟨g, ρ, tms, ct, ρ', R, ev, q⟩ := q
  obtain ⟨⟨ds, ρ1⟩, e1, e2⟩ := Option.bind_eq_some_iff.mp ev
  obtain ⟨sl, e3, e4⟩ := Option.map_eq_some_iff.mp e2
  cases e4
  refine nestL_imp (fr := false) [e, f, h] K σ H _ hn ⟨g, ρ, tms, ds, ρ1, R, e1, fun g' vs H' R' q1 q2 => ?_⟩
  match ds, vs, q1, q2 with
  | [d1, d2, d3], [v1, v2, v3], _, _ =>
    have R' : Rel c g' (kEs [e, f, h] K) ρ1 (tms ++ [(kdE S.rk e, d1, v1)] ++ [(kdE S.rk f, d2, v2)] ++ [(kdE S.rk h, d3, v3)]) σ H' := by rw [List.append_assoc, List.append_assoc]; exact R'
    cases e3
    obtain ⟨g2, R2⟩ := R'.setKd (kd_ne sd.rk h) k hk
    obtain ⟨g3, R3⟩ := R2.setKd (kd_ne sd.rk f) j (by rw [List.length_set]; exact hj)
    obtain ⟨g4, R4⟩ := R3.setKd (kd_ne sd.rk e) i (by rw [List.length_set, List.length_set]; exact hi)
    refine ⟨v1, v2, v3, rfl, q g4 _ H' ?_⟩
    have ee : ∀ {α : Type} (l : List α) (a b d : α), ((l.set i a).set j b).set k d = ((l.set k d).set j b).set i a := fun l a b d => by
      rw [set_comm2 hij, set_comm2 (l := l.set j b) hik, set_comm2 (l := l) hjk]
    have es : ({ ρ1 with sl := ((ρ1.sl.set i (some d1)).set j (some d2)).set k (some d3) } : Ste) = ⟨((ρ1.sl.set k (some d3)).set j (some d2)).set i (some d1), ρ1.src⟩ := by rw [ee]
    rw [ee, ee (l := σ), es]
    exact R4
section
theorem tup_new {K : PySem.W.Frag} {H : Hp} {p : Addr} {xs : List V} : SqT K (upd H p (.tup xs)) p xs := .inl (.inl upd_same)
theorem s_parT (sd : Sd c X S Γ) (hh : Here X n) {is : List Nat} {es : List E} {ts vs : List Expr} {pt pt2 : Pos} {kt k2 : Nat} (h : parTB S n is es K ts vs = true) :
    PS X (.Assign [.Tuple ts kt pt] (.Tuple vs k2 pt2) pos) (tSF c rk K (setKs S.rk is es (kEs es K)) L (evS Γ (.par is es))) := by
  unfold parTB at h
  simp only [Bool.and_eq_true, decide_eq_true_eq, List.all_eq_true] at h
  obtain ⟨⟨⟨⟨⟨⟨⟨⟨hnd, h2⟩, h4⟩, hl⟩, ht⟩, hs⟩, hn⟩, hm⟩, hi⟩ := h
  have hn : es.all (fun e => !isBv e) = true := by simpa [List.all_eq_true] using hn
  have P : PE X (.Tuple vs k2 pt2) (tTup (tNestL c Γ S.rk false es K)) := pe_tup (PEs.paL (fr := false) sd hh hn hm)
  have hw : swappedStores [.Tuple ts kt pt] (.Tuple vs k2 pt2) X.env = pure none := by
    rw [Bool.or_eq_true] at hs
    rcases hs with hs | hs
    · exact noswap_const hs
    · obtain ⟨t, h1, h2⟩ := List.any_eq_true.mp hs
      exact noswap_odd h1 (by rw [hh.sc]; exact h2)
  have G := mT_ok sd hh (.tup (is.map .nm)) (.Tuple ts kt pt) (by simpa only [mT] using ht)
  refine PS.imp (ps_asg P G rfl hw) fun Dn σ H q => ?_
  obtain ⟨g, ρ, tms, ct, ρ', R, ev, q⟩ := q
  obtain ⟨⟨ds, ρ1⟩, e1, e2⟩ := Option.bind_eq_some_iff.mp ev
  obtain ⟨sl, e3, e4⟩ := Option.map_eq_some_iff.mp e2
  cases e4
  refine nestL_imp (fr := false) es K σ H _ hn ⟨g, ρ, tms, ds, ρ1, R, e1, fun g' vs H' R' q1 q2 => ?_⟩
  have q1 : ds.length = es.length := by rw [q1]; simp [kds]
  have q2 : vs.length = es.length := by rw [q2]; simp [kds]
  match is, es, ds, vs, hl, q1, q2 with
  | [i, j], [e, f], [d1, d2], [v1, v2], _, _, _ =>
    have hij : i ≠ j := by simp at hnd; exact hnd
    have hi1 : i < (kEs [e, f] K).length := hi i (by simp)
    have hj1 : j < (kEs [e, f] K).length := hi j (by simp)
    have R' : Rel c g' (kEs [e, f] K) ρ1 (tms ++ [(kdE S.rk e, d1, v1)] ++ [(kdE S.rk f, d2, v2)]) σ H' := by rw [List.append_assoc]; exact R'
    cases e3
    refine ⟨by rw [sizeLine_eq]; exact Nat.le_of_ble_eq_true rfl, fun p np => ?_⟩
    obtain ⟨g2, R2⟩ := (R'.newG (o := .tup [v1, v2]) np).setKd (kd_ne sd.rk f) j hj1
    obtain ⟨g3, R3⟩ := R2.setKd (kd_ne sd.rk e) i (by rw [List.length_set]; exact hi1)
    refine ⟨p, [v1, v2], rfl, tup_new, rfl, v1, [v2], rfl, v2, [], rfl, rfl, q g3 _ _ ?_⟩
    show Rel c g3 (((kEs [e, f] K).set i _).set j _) _ tms ((σ.set i _).set j _) _
    rw [set_comm2 hij, set_comm2 (l := σ) hij]
    have : ({ ρ1 with sl := (ρ1.sl.set i (some d1)).set j (some d2) } : Ste) = ⟨(ρ1.sl.set j (some d2)).set i (some d1), ρ1.src⟩ := by rw [set_comm2 hij]
    rw [this]
    exact R3
  | [i, j, k], [e, f, h], [d1, d2, d3], [v1, v2, v3], _, _, _ =>
    have hij : i ≠ j := by simp at hnd; exact hnd.1.1
    have hik : i ≠ k := by simp at hnd; exact hnd.1.2
    have hjk : j ≠ k := by simp at hnd; exact hnd.2
    have hi1 : i < (kEs [e, f, h] K).length := hi i (by simp)
    have hj1 : j < (kEs [e, f, h] K).length := hi j (by simp)
    have hk1 : k < (kEs [e, f, h] K).length := hi k (by simp)
    have R' : Rel c g' (kEs [e, f, h] K) ρ1 (tms ++ [(kdE S.rk e, d1, v1)] ++ [(kdE S.rk f, d2, v2)] ++ [(kdE S.rk h, d3, v3)]) σ H' := by rw [List.append_assoc, List.append_assoc]; exact R'
    cases e3
    refine ⟨by rw [sizeLine_eq]; exact Nat.le_of_ble_eq_true rfl, fun p np => ?_⟩
    obtain ⟨g2, R2⟩ := (R'.newG (o := .tup [v1, v2, v3]) np).setKd (kd_ne sd.rk h) k hk1
    obtain ⟨g3, R3⟩ := R2.setKd (kd_ne sd.rk f) j (by rw [List.length_set]; exact hj1)
    obtain ⟨g4, R4⟩ := R3.setKd (kd_ne sd.rk e) i (by rw [List.length_set, List.length_set]; exact hi1)
    refine ⟨p, [v1, v2, v3], rfl, tup_new, rfl, v1, [v2, v3], rfl, v2, [v3], rfl, v3, [], rfl, rfl, q g4 _ _ ?_⟩
    have ee : ∀ {α : Type} (l : List α) (a b d : α), ((l.set i a).set j b).set k d = ((l.set k d).set j b).set i a := fun l a b d => by
      rw [set_comm2 hij, set_comm2 (l := l.set j b) hik, set_comm2 (l := l) hjk]
    show Rel c g4 ((((kEs [e, f, h] K).set i _).set j _).set k _) _ tms (((σ.set i _).set j _).set k _) _
    have es : ({ ρ1 with sl := ((ρ1.sl.set i (some d1)).set j (some d2)).set k (some d3) } : Ste) = ⟨((ρ1.sl.set k (some d3)).set j (some d2)).set i (some d1), ρ1.src⟩ := by rw [ee]
    rw [ee, ee (l := σ), es]
    exact R4
  | [i, j, k, m], [e, f, h, w], [d1, d2, d3, d4], [v1, v2, v3, v4], _, _, _ =>
    have hij : i ≠ j := by simp at hnd; exact hnd.1.1
    have hik : i ≠ k := by simp at hnd; exact hnd.1.2.1
    have him : i ≠ m := by simp at hnd; exact hnd.1.2.2
    have hjk : j ≠ k := by simp at hnd; exact hnd.2.1.1
    have hjm : j ≠ m := by simp at hnd; exact hnd.2.1.2
    have hkm : k ≠ m := by simp at hnd; exact hnd.2.2
    have hi1 : i < (kEs [e, f, h, w] K).length := hi i (by simp)
    have hj1 : j < (kEs [e, f, h, w] K).length := hi j (by simp)
    have hk1 : k < (kEs [e, f, h, w] K).length := hi k (by simp)
    have hm1 : m < (kEs [e, f, h, w] K).length := hi m (by simp)
    have R' : Rel c g' (kEs [e, f, h, w] K) ρ1 (tms ++ [(kdE S.rk e, d1, v1)] ++ [(kdE S.rk f, d2, v2)] ++ [(kdE S.rk h, d3, v3)] ++ [(kdE S.rk w, d4, v4)]) σ H' := by rw [List.append_assoc, List.append_assoc, List.append_assoc]; exact R'
    cases e3
    refine ⟨by rw [sizeLine_eq]; exact Nat.le_of_ble_eq_true rfl, fun p np => ?_⟩
    obtain ⟨g2, R2⟩ := (R'.newG (o := .tup [v1, v2, v3, v4]) np).setKd (kd_ne sd.rk w) m hm1
    obtain ⟨g3, R3⟩ := R2.setKd (kd_ne sd.rk h) k (by rw [List.length_set]; exact hk1)
    obtain ⟨g4, R4⟩ := R3.setKd (kd_ne sd.rk f) j (by rw [List.length_set, List.length_set]; exact hj1)
    obtain ⟨g5, R5⟩ := R4.setKd (kd_ne sd.rk e) i (by rw [List.length_set, List.length_set, List.length_set]; exact hi1)
    refine ⟨p, [v1, v2, v3, v4], rfl, tup_new, rfl, v1, [v2, v3, v4], rfl, v2, [v3, v4], rfl, v3, [v4], rfl, v4, [], rfl, rfl, q g5 _ _ ?_⟩
    have ee : ∀ {α : Type} (l : List α) (a b d r : α), (((l.set i a).set j b).set k d).set m r = (((l.set m r).set k d).set j b).set i a := fun l a b d r => by
      rw [set_comm2 hij, set_comm2 (l := l.set j b) hik, set_comm2 (l := (l.set j b).set k d) him, set_comm2 (l := l) hjk, set_comm2 (l := l.set k d) hjm, set_comm2 (l := l) hkm]
    show Rel c g5 (((((kEs [e, f, h, w] K).set i _).set j _).set k _).set m _) _ tms ((((σ.set i _).set j _).set k _).set m _) _
    have es : ({ ρ1 with sl := (((ρ1.sl.set i (some d1)).set j (some d2)).set k (some d3)).set m (some d4) } : Ste) = ⟨(((ρ1.sl.set m (some d4)).set k (some d3)).set j (some d2)).set i (some d1), ρ1.src⟩ := by rw [ee]
    rw [ee, ee (l := σ), es]
    exact R5
  | [], _, _, _, _, _, _ => exact absurd h2 (by simp)
  | [_], _, _, _, _, _, _ => exact absurd h2 (by simp)
  | _ :: _ :: _ :: _ :: _ :: _, _, _, _, _, _, _ => exact absurd h4 (by simp)
end
end
end EvS
set_option linter.all false
set_option Elab.async false
set_option maxRecDepth 100000
set_option maxHeartbeats 16000000
/-! EvQ: statements: stores, loops, returns. -/
namespace EvS
open PySem PySem.Spec PyProof.Rows L2 EvK
open Ev (D E S Tgt Ste Src getS restore flatK tupK dget dset dsetAll okK lim isInts isBls seqD pairsD evE evV evAnd evOr evS evSs boolR Calls tyD asgT asgTs tnm tnms compL pureE pureEs Bi biD Bop Cop binD cmpD atD Ctl whileL forL setAll)
section
variable {c : Ct} {X : Cx} {S : SS} {Γ : Calls} {n : Cn} {K : List Kd} {rk : Kd} {L : LK} {x y z : Expr} {pos : Pos}
theorem s_aug (sd : Sd c X S Γ) (hh : Here X n) {i : Nat} {o : Bop} {e : E} {x : Str} {p : Pos} {v : Expr} (hl : locB S n i x = true) (ho : o = .add ∨ o = .sub) (hb : isBv e = false) (hm : mE S e n K v = true) (hk : K.getD i .fz ≠ .src) :
    PS X (.AugAssign (.Name x p) (opOf o) v pos) (tSF c rk K ((kE e K).set i .fz) L (evS Γ (.aug i o e))) := by
  obtain ⟨h1, h2, h3⟩ := locB_ok sd hh hl
  have P := PE.imp (sE e n K X v sd hh hb hm).1 fun σ H Q (q : tF c K (kE e K) .fz (evE Γ e) σ H Q) => q.toFz (kd_ne sd.rk e)
  have core : ∀ (f : Int → Int → Int), (∀ a b, binD o (.int a) (.int b) = some (.int (f a b))) → ∀ (Dn : Ends) σ H, tSF c rk K ((kE e K).set i .fz) L (evS Γ (.aug i o e)) Dn σ H → tAug i (tF c K (kE e K) .fz (evE Γ e)) (ipI f) Dn σ H := by
    intro f hf Dn σ H q
    obtain ⟨g, ρ, ts, ct, ρ', R, ev, q⟩ := q
    have ev : (match getS ρ.sl i with
      | none => none
      | some x => (evE Γ e ρ).bind fun (y, ρ') => match x, y with
        | .int _, .int _ => (binD o x y).map fun z => (Ctl.nx, { ρ' with sl := ρ'.sl.set i (some z) })
        | _, _ => none) = some (ct, ρ') := ev
    split at ev
    · cases ev
    · rename_i xd hx
      obtain ⟨⟨yd, ρ1⟩, e1, e2⟩ := Option.bind_eq_some_iff.mp ev
      dsimp only at e2
      split at e2
      · rename_i a b
        rw [hf] at e2
        cases e2
        obtain ⟨v, hv, vw⟩ := R.viewSl hx hk
        have hvi := vw.int
        subst hvi
        refine ⟨_, hv, g, ρ, ts, _, ρ1, R, e1, fun g' w H' R' => ?_⟩
        have hw : w = .int b := View.int (H := H') (Fz.view R'.last)
        subst hw
        exact ⟨a, b, rfl, rfl, q g' _ H' ((R'.drop.push (Fz.int (f a b))).setFz i)⟩
      · cases e2
  rcases ho with rfl | rfl
  · exact PS.imp (ps_aug sd.nd h1 h2 P ip_add h3) (core _ fun a b => rfl)
  · exact PS.imp (ps_aug sd.nd h1 h2 P ip_sub h3) (core _ fun a b => rfl)
/-- o[i] = v of an own list or dict -/
def setR (c : Ct) : TSet := fun o i v H Q => (∃ a vs k j, o = .ref a ∧ i = .int k ∧ H a = some (.lst vs) ∧ ixN vs.length k = some j ∧ Q (upd H a (.lst (vs.set j v)))) ∨
  ∃ a es k, o = .ref a ∧ DcO c.P c.w a (H a) es ∧ KeyFit c.K H es k i ∧ es.length < sizeLine ∧ Q (upd H a (putO c.P c.w a es k i v))
theorem setR_ok (ft : Fit c X) : PSet X (setR c) := by
  intro pins s σ H o i v ov iv u Q I ro ri rv h
  rcases h with ⟨a, vs, k, j, rfl, rfl, hH, hj, q⟩ | ⟨a, es, k, rfl, h, f, hl, q⟩
  · exact set_list pins s σ H _ _ v ov iv u Q I ro ri rv ⟨a, vs, k, j, rfl, rfl, hH, hj, q⟩
  · cases (show ov = Value.ref a from ro)
    rw [← ft.P, ← ft.w] at h q
    rw [← ft.K] at f
    exact g_set (by have := ft.units; omega) I h f hl ri rv fun s' I' => ⟨_, I', q⟩
theorem setIx_ok {o y : Expr} {p : Pos} {env : Env} (h : plainIx y = true) : ∀ v, assign (.Subscript o y p) env v = (do
      let ov ← holding [v] (eval o env)
      let iv ← holding [v, ov] (eval y env)
      standAt p
      holding [v, ov, iv] (setItem ov iv v)
      release [v, ov, iv] []) := by
  cases y <;> first | (intro _; rfl) | cases h
theorem s_setI (sd : Sd c X S Γ) (hh : Here X n) {i : Nat} {k e : E} {x : Str} {p p2 : Pos} {y v : Expr} (hx : nameB S n i x = true) (hbe : isBv e = false) (hbk : isBv k = false) (hm : mE S e n K v = true) (hmk : mE S k n (kE e K) y = true) (hp : plainIx y = true)
    (hk : (kE k (kE e K)).getD i .fz = .own) (hk0 : (kE e K).getD i .fz ≠ .src) : PS X (.Assign [.Subscript (.Name x p) y p2] v pos) (tSF c rk K (kE k (kE e K)) L (evS Γ (.setI i k e))) := by
  have Pv := PE.opd (kd_ne sd.rk e) hbe (sE e n K X v sd hh hbe hm).1
  have Pk := PE.opd (kd_ne sd.rk k) hbk (sE k n (kE e K) X y sd hh hbk hmk).1
  refine PS.imp (ps_asg Pv (pg_sub (pe_nameB (pos := p) sd hh hx) Pk (setR_ok sd.ft) (setIx_ok hp)) (by show swapsWith v (some (.Subscript (.Name x p) y p2)) pos.line X.env = pure false; exact sw_notName rfl) (noswap_tg rfl)) fun Dn σ H q => ?_
  obtain ⟨g, ρ, ts, ct, ρ', R, ev, q⟩ := q
  obtain ⟨⟨yd, ρ1⟩, e1, ev⟩ := Option.bind_eq_some_iff.mp ev
  obtain ⟨d1, hd1, ev⟩ := Option.bind_eq_some_iff.mp ev
  obtain ⟨⟨kd, ρ2⟩, e2, ev⟩ := Option.bind_eq_some_iff.mp ev
  show tO c Γ K e σ H _
  rw [tO_ne hbe]
  refine ⟨g, ρ, ts, yd, ρ1, R, e1, fun g1 vv H1 R1 => ?_⟩
  -- the object's name
  obtain ⟨w, hw, _⟩ := R1.viewSl hd1 hk0
  refine ⟨w, hw, ?_⟩
  show tO c Γ (kE e K) k σ H1 _
  rw [tO_ne hbk]
  refine ⟨g1, ρ1, _, kd, ρ2, R1, e2, fun g2 kv H2 R2 => ?_⟩
  have fy : Fz c.P c.w c.K g2.F vv yd := R2.drop.last
  have fk : Fz c.P c.w c.K g2.F kv kd := R2.last
  have R3 := R2.drop.drop
  dsimp only at ev
  split at ev
  · rename_i xs m hs
    obtain ⟨j, e3, e4⟩ := Option.map_eq_some_iff.mp ev
    cases e4
    obtain ⟨w', hw', vw⟩ := R3.sl i _ hs
    rw [hw] at hw'; cases hw'
    rw [hk] at vw
    obtain ⟨a, rfl, ho, hT⟩ := Vw.own vw rfl
    obtain ⟨vs, hH, f⟩ := hT.list
    have hkv : kv = .int m := View.int (H := H2) (Fz.view fk)
    subst hkv
    exact .inl ⟨a, vs, m, j, rfl, rfl, hH, by rw [f.length]; exact e3, q _ _ _ (R3.mut (d' := .list (xs.set j yd)) hk hs hw ho (.inl ⟨_, _, rfl, upd_same, FzA.set fy j f⟩))⟩
  · rename_i kvs hs
    split at ev
    · rename_i hc
      cases ev
      simp only [Bool.and_eq_true, decide_eq_true_eq] at hc
      obtain ⟨w', hw', vw⟩ := R3.sl i _ hs
      rw [hw] at hw'; cases hw'
      rw [hk] at vw
      obtain ⟨a, rfl, ho, hT⟩ := Vw.own vw rfl
      obtain ⟨ent, hD, fe⟩ := hT.dict
      have kf : KeyFit c.K H2 ent _ kv := (Fz.view fk).key R3 fe hc.1
      have hdc := putO_dc (P := c.P) (w := c.w) (a := a) (v := vv) kf
      exact .inr ⟨a, ent, _, rfl, hD, kf, by rw [fe.length, ← lim_line]; exact hc.2, q _ _ _ (R3.mut (d' := .dict (dset kvs _ yd)) hk hs hw ho (.inr ⟨_, _, rfl, by rw [upd_same]; exact hdc, fe.put fk fy⟩))⟩
    · cases ev
  · cases ev
theorem s_app (sd : Sd c X S Γ) (hh : Here X n) {i : Nat} {e : E} {x : Str} {p apos cpos : Pos} {y : Expr} (hx : nameB S n i x = true) (hb : isBv e = false) (hy : nos y = true) (hm : mE S e n K y = true) (hk0 : K.getD i .fz ≠ .src) (hk : (kE e K).getD i .fz = .own) (hline : (apos.endLine == cpos.line) = true) :
    PS X (.Expr (.Call (.Attribute (.Name x p) "append" apos) [y] [] cpos) pos) (tSF c rk K (kE e K) L (evS Γ (.app i e))) := by
  have Pe := PE.opd (kd_ne sd.rk e) hb (sE e n K X y sd hh hb hm).1
  refine PS.imp (ps_expr (pe_m PySem.F.plainAttrs_list PySem.F.slot_list_append PySem.F.type_list_append mt_append (pe_nameB (pos := p) sd hh hx) (pa_cons Pe pa_nil (star_nos hy)) rfl hline (by simp [hy]) (by simp)) (by rfl)) fun Dn σ H q => ?_
  obtain ⟨g, ρ, ts, ct, ρ', R, ev, q⟩ := q
  obtain ⟨d0, e0, ev⟩ := Option.bind_eq_some_iff.mp ev
  obtain ⟨⟨d, ρ1⟩, e1, ev⟩ := Option.bind_eq_some_iff.mp ev
  dsimp only at ev
  split at ev
  · rename_i xs hs
    split at ev
    · rename_i hc
      cases ev
      obtain ⟨w, hw, vw0⟩ := R.viewSl e0 hk0
      refine ⟨w, hw, tyB_list sd.ft (d := .list []) rfl g K ρ ts H w d0 hc.2 R vw0, ?_⟩
      show tO c Γ K e σ H _
      rw [tO_ne hb]
      refine ⟨g, ρ, ts, d, ρ1, R, e1, fun g1 v H1 R1 => ?_⟩
      have fd : Fz c.P c.w c.K g1.F v d := R1.last
      have R2 := R1.drop
      obtain ⟨w', hw', vw⟩ := R2.sl i _ hs
      rw [hw] at hw'; cases hw'
      rw [hk] at vw
      obtain ⟨a, rfl, ho, hT⟩ := Vw.own vw rfl
      obtain ⟨vs, hH, f⟩ := hT.list
      exact ⟨a, vs, v, rfl, rfl, hH, by rw [f.length, ← lim_line]; exact hc.1, q _ _ _ (R2.mut (d' := .list (xs ++ [d])) hk hs hw ho (.inl ⟨_, _, rfl, upd_same, f.append (.cons fd .nil)⟩))⟩
    · cases ev
  · cases ev
theorem s_ext (sd : Sd c X S Γ) (hh : Here X n) {i : Nat} {e : E} {x : Str} {p apos cpos : Pos} {y : Expr} (hx : nameB S n i x = true) (hb : bvOk [e] K = true) (hm : mV S [e] n K [y] = true) (hk0 : K.getD i .fz ≠ .src) (hk : (kEs [e] K).getD i .fz = .own) (hline : (apos.endLine == cpos.line) = true) :
    PS X (.Expr (.Call (.Attribute (.Name x p) "extend" apos) [y] [] cpos) pos) (tSF c rk K (kEs [e] K) L (evS Γ (.ext i e))) := by
  have Es := sV [e] n K X [y] sd hh hm
  have hy := Es.all
  refine PS.imp (ps_expr (pe_m PySem.F.plainAttrs_list PySem.F.slot_list_extend PySem.F.type_list_extend mt_extend (pe_nameB (pos := p) sd hh hx) Es.pa rfl hline hy (by simp)) (by rfl)) fun Dn σ H q => ?_
  obtain ⟨g, ρ, ts, ct, ρ', R, ev, q⟩ := q
  obtain ⟨d0, e0, ev⟩ := Option.bind_eq_some_iff.mp ev
  obtain ⟨⟨ds, ρ1⟩, e1, ev⟩ := Option.bind_eq_some_iff.mp ev
  dsimp only at ev
  split at ev
  · rename_i ys xs hs
    split at ev
    · rename_i hc
      cases ev
      obtain ⟨w, hw, vw0⟩ := R.viewSl e0 hk0
      refine ⟨w, hw, tyB_list sd.ft (d := .list []) rfl g K ρ ts H w d0 hc.2 R vw0, ?_⟩
      refine nest_imp [e] K σ H _ hb ⟨g, ρ, ts, _, ρ1, R, e1, fun g1 us H1 R1 ov => ?_⟩
      obtain ⟨u, rfl, v1⟩ := ov.one
      obtain ⟨b, zs, rfl, hB, fz⟩ := v1.list R1
      obtain ⟨w', hw', vw⟩ := R1.sl i _ hs
      rw [hw] at hw'; cases hw'
      rw [hk] at vw
      obtain ⟨a, rfl, ho, hT⟩ := Vw.own vw rfl
      obtain ⟨vs, hH, f⟩ := hT.list
      exact ⟨a, b, vs, zs, rfl, rfl, hH, hB, by rw [f.length, fz.length, ← lim_line]; exact hc.1, q _ _ _ (R1.mut (d' := .list (xs ++ ys)) hk hs hw ho (.inl ⟨_, _, rfl, upd_same, f.append fz⟩))⟩
    · cases ev
  · cases ev

/-! ### the end of a part, from that of the whole -/
theorem SEnd.low {Kn Kn' : List Kd} {ts : List Tm} {ρ' : Ste} {Dn : Ends} {ct : Ctl} (h : leK Kn' Kn = true) (q : SEnd c rk Kn' L ts ρ' Dn ct) : SEnd c rk Kn L ts ρ' Dn ct := by
  cases ct with
  | nx =>
    intro g' σ' H' R
    obtain ⟨g2, R2⟩ := R.low h
    exact q g2 σ' H' R2
  | rt d => exact q
  | bk => exact q
  | ct => exact q
theorem s_ite {t : E} {a b : List Ev.S} {as bs : List Stmt} {K1 K2 : List Kd} (ht : PT X x (tBF c K (kE t K) (evE Γ t))) (ha : PSs X as (tSF c rk (kE t K) K1 L (evSs Γ a))) (hb : PSs X bs (tSF c rk (kE t K) K2 L (evSs Γ b)))
    (l1 : leK (meetK K1 K2) K1 = true) (l2 : leK (meetK K1 K2) K2 = true) : PS X (.If x as bs pos) (tSF c rk K (meetK K1 K2) L (evS Γ (.ite t a b))) := by
  refine PS.imp (ps_if ht ha hb) fun Dn σ H q => ?_
  obtain ⟨g, ρ, ts, ct, ρ', R, ev, q⟩ := q
  obtain ⟨⟨c', ρ1⟩, e1, ev⟩ := Option.bind_eq_some_iff.mp ev
  have e1 := Ev.boolR_some e1
  refine ⟨g, ρ, ts, c', ρ1, R, e1, fun g' H' R' => ?_⟩
  dsimp only at ev
  cases c' with
  | true =>
    rw [if_pos rfl] at ev
    exact iteT ⟨g', ρ1, ts, ct, ρ', R', ev, q.low l1⟩
  | false =>
    rw [if_neg Bool.false_ne_true] at ev
    exact iteF ⟨g', ρ1, ts, ct, ρ', R', ev, q.low l2⟩
theorem s_while (hp : PassesOwn (model X.prog X.w) X.A X.env X.xe) {hd ex : List Nat} {t : E} {b : List Ev.S} {bs : List Stmt} {Kh Kx K1 : List Kd} (l0 : leK Kh K = true) (ht : PT X x (tBF c Kh (kE t Kh) (evE Γ t))) (hb : PSs X bs (tSF c rk (kE t Kh) K1 (some (Kx, Kh)) (evSs Γ b)))
    (l1 : leK Kh K1 = true) (l2 : leK Kx (kE t Kh) = true) : PS X (.While x bs [] pos) (tSF c rk K Kx L (evS Γ (.whil hd ex t b))) := by
  refine PS.imp (ps_while hp ht hb) fun Dn σ H q => ?_
  obtain ⟨g, ρ, ts, ct, ρ', R, ev, q⟩ := q
  have ev : whileL (evE Γ t) (evSs Γ b) Ev.turns ρ = some (ct, ρ') := ev
  obtain ⟨g0, R0⟩ := R.low l0
  refine ⟨fun m σ H => ∃ g ρ, Rel c g Kh ρ ts σ H ∧ whileL (evE Γ t) (evSs Γ b) m ρ = some (ct, ρ'), ⟨_, g0, ρ, R0, ev⟩, fun m σ H ⟨g, ρ, R, ev⟩ => ?_⟩
  cases m with
  | zero => cases ev
  | succ m =>
    unfold whileL at ev
    split at ev
    · cases ev
    · rename_i ρ1 e1
      cases ev
      have e1 := Ev.boolR_some e1
      refine ⟨g, ρ, ts, false, _, R, e1, fun g' H' R' => iteF ?_⟩
      obtain ⟨g2, R2⟩ := R'.low l2
      exact q g2 σ H' R2
    · rename_i ρ1 e1
      have e1 := Ev.boolR_some e1
      refine ⟨g, ρ, ts, true, ρ1, R, e1, fun g' H' R' => iteT ?_⟩
      refine ⟨fun σ' H' => ∃ g ρ, Rel c g Kh ρ ts σ' H' ∧ whileL (evE Γ t) (evSs Γ b) m ρ = some (ct, ρ'), fun σ' H' h => ⟨m, Nat.lt_succ_self m, h⟩, ?_⟩
      split at ev
      · cases ev
      · rename_i d ρ2 e2
        cases ev
        exact ⟨g', ρ1, ts, .rt d, _, R', e2, q⟩
      · rename_i ρ2 e2
        cases ev
        refine ⟨g', ρ1, ts, .bk, _, R', e2, fun Kb Kc hL g' σ' H' R2 => ?_⟩
        cases hL
        exact q g' σ' H' R2
      · rename_i ct2 ρ2 n1 n2 e2
        cases ct2 with
        | rt d => exact absurd rfl (n1 d)
        | bk => exact absurd rfl n2
        | nx =>
          refine ⟨g', ρ1, ts, .nx, ρ2, R', e2, fun g2 σ' H' R2 => ?_⟩
          obtain ⟨g3, R3⟩ := R2.low l1
          exact ⟨g3, ρ2, R3, ev⟩
        | ct =>
          refine ⟨g', ρ1, ts, .ct, ρ2, R', e2, fun Kb Kc hL g2 σ' H' R2 => ?_⟩
          cases hL
          exact ⟨g2, ρ2, R2, ev⟩
theorem s_for (hp : PassesOwn (model X.prog X.w) X.A X.env X.xe) (hc : X.calm = true) {hd ex : List Nat} {t : Tgt} {it : E} {b : List Ev.S} {tg iter : Expr} {bs : List Stmt} {Kh Kx K1 : List Kd} (hi : PI X tg iter (tIF c K (kE it K) it (evE Γ it))) (hv : itv it = none) (hg : PG X tg (gT c.K t)) (htp : itp it = true → tupT t = true)
    (l0 : leK Kh (kE it K) = true) (hb : PSs X bs (tSF c rk (kT t Kh) K1 (some (Kx, Kh)) (evSs Γ b))) (l1 : leK Kh K1 = true) (l2 : leK Kx Kh = true) (hs : noSet iter = true) : PS X (.For tg iter bs [] pos) (tSF c rk K Kx L (evS Γ (.forr hd ex t it b))) := by
  refine PS.imp (ps_for hp hc hi hg hb (noSet_ok hs X.env)) fun Dn σ H q => ?_
  obtain ⟨g, ρ, ts, ct, ρ', R, ev, q⟩ := q
  obtain ⟨⟨d, ρ1⟩, e1, ev⟩ := Option.bind_eq_some_iff.mp ev
  obtain ⟨xs, e2, ev⟩ := Option.bind_eq_some_iff.mp ev
  refine ⟨g, ρ, ts, d, ρ1, xs, R, e1, e2, fun J g1 tw H1 dd v R1 kp wk => ?_⟩
  obtain ⟨g0, R0⟩ := R1.low l0
  refine ⟨fun i m σ H => m = xs.length - i ∧ i ≤ xs.length ∧ ∃ g ρ, Rel c g Kh ρ (ts ++ tw) σ H ∧ forL t (evSs Γ b) (xs.drop i) ρ = some (ct, ρ'), ⟨xs.length, by omega, Nat.zero_le _, g0, ρ1, R0, by rw [List.drop_zero]; exact ev⟩, ?_⟩
  rintro i m σ H ⟨rfl, hle, g, ρ, R, ev⟩
  have gv : GV c dd v g H := ⟨_, _, _, _, R, kp g Kh _ [] _ H (by rw [List.append_nil]; exact R) fun j hj => by rw [hv] at hj; cases hj⟩
  by_cases hlt : i < xs.length
  · refine .inr ⟨wk.goes i g H hlt gv, fun σ' H' => i + 1 ≤ xs.length ∧ ∃ g ρ, Rel c g Kh ρ (ts ++ tw) σ' H' ∧ forL t (evSs Γ b) (xs.drop (i + 1)) ρ = some (ct, ρ'), fun σ' H' h => ⟨xs.length - (i + 1), by omega, rfl, h.1, h.2⟩, fun x H' y => ?_⟩
    have hx : xs[i]? = some xs[i] := List.getElem?_eq_getElem hlt
    rw [List.drop_eq_getElem_cons hlt] at ev
    have RI : Rel c g Kh ρ (ts ++ tw) σ H' ∧ ItV c g H' x xs[i] ∧ (tupT t = true ∨ Fz c.P c.w c.K g.F x xs[i]) := by
      rcases wk.yields i _ g H x H' hx gv y with ⟨rfl, hf⟩ | ⟨tp, T, v1, v2, d1', d2', rfl, hT, rfl, hd, f1, f2⟩
      · exact ⟨R, .inl hf, .inr hf⟩
      · exact ⟨R.newG hT, .inr ⟨T, v1, v2, d1', d2', rfl, upd_same, hd, f1, f2⟩, .inl (htp tp)⟩
    obtain ⟨R', iv, it'⟩ := RI
    unfold forL at ev
    split at ev
    · cases ev
    · rename_i sl ha
      refine gT_it R' iv it' ha fun σ2 _ R2 => ?_
      have fin : ∀ {ct2 ρ2}, SEnd c rk K1 (some (Kx, Kh)) (ts ++ tw) ρ2 { Dn with nx := fun σ' H' => i + 1 ≤ xs.length ∧ ∃ g ρ, Rel c g Kh ρ (ts ++ tw) σ' H' ∧ forL t (evSs Γ b) (xs.drop (i + 1)) ρ = some (ct, ρ'), ct := fun σ' H' => i + 1 ≤ xs.length ∧ ∃ g ρ, Rel c g Kh ρ (ts ++ tw) σ' H' ∧ forL t (evSs Γ b) (xs.drop (i + 1)) ρ = some (ct, ρ'), bk := Dn.nx } ct2 →
          evSs Γ b ⟨sl, ρ.src⟩ = some (ct2, ρ2) → tSF c rk (kT t Kh) K1 (some (Kx, Kh)) (evSs Γ b) { Dn with nx := fun σ' H' => i + 1 ≤ xs.length ∧ ∃ g ρ, Rel c g Kh ρ (ts ++ tw) σ' H' ∧ forL t (evSs Γ b) (xs.drop (i + 1)) ρ = some (ct, ρ'), ct := fun σ' H' => i + 1 ≤ xs.length ∧ ∃ g ρ, Rel c g Kh ρ (ts ++ tw) σ' H' ∧ forL t (evSs Γ b) (xs.drop (i + 1)) ρ = some (ct, ρ'), bk := Dn.nx } σ2 H' := fun {ct2 ρ2} hq he => ⟨g, _, _, ct2, ρ2, R2, he, hq⟩
      split at ev
      · cases ev
      · rename_i d2 ρ2 e3
        cases ev
        refine fin (ct2 := .rt d2) (fun g' K' ρ3 σ' H' v hs R3 => ?_) e3
        obtain ⟨g4, _, _, R4⟩ := R3.mid
        exact q g4 K' ρ3 σ' H' v hs R4
      · rename_i ρ2 e3
        cases ev
        refine fin (ct2 := .bk) (fun Kb Kc hL g' σ' H' R3 => ?_) e3
        cases hL
        exact q g' σ' H' R3.drop
      · rename_i ct2 ρ2 n1 n2 e3
        cases ct2 with
        | rt d => exact absurd rfl (n1 d)
        | bk => exact absurd rfl n2
        | nx =>
          refine fin (ct2 := .nx) (fun g' σ' H' R3 => ?_) e3
          obtain ⟨g4, R4⟩ := R3.low l1
          exact ⟨hlt, g4, ρ2, R4, ev⟩
        | ct =>
          refine fin (ct2 := .ct) (fun Kb Kc hL g' σ' H' R3 => ?_) e3
          cases hL
          exact ⟨hlt, g', ρ2, R3, ev⟩
  · have hie : i = xs.length := by omega
    subst hie
    rw [List.drop_length] at ev
    cases ev
    refine .inl ⟨wk.stops g H gv, ?_⟩
    obtain ⟨g2, R2⟩ := R.low l2
    exact q g2 σ H R2.drop
theorem s_ret {e : E} {kd : Kd} (hk : kd ≠ .src) (h : PE X x (tF c K (kE e K) kd (evE Γ e))) (hr : rk = .fz ∨ kd = rk) : PS X (.Return (some x) pos) (tSF c rk K K L (evS Γ (.ret e))) := by
  refine PS.imp (ps_ret h) fun Dn σ H q => ?_
  obtain ⟨g, ρ, ts, ct, ρ', R, ev, q⟩ := q
  obtain ⟨⟨d, ρ1⟩, e1, e2⟩ := Option.map_eq_some_iff.mp ev
  cases e2
  refine ⟨g, ρ, ts, d, _, R, e1, fun g' v H' R' => ?_⟩
  rcases hr with rfl | rfl
  · obtain ⟨g2, R2⟩ := R'.toFz hk
    exact q g2 _ _ σ H' v rfl R2
  · exact q g' _ _ σ H' v rfl R'
/-- a name's own thing goes out -/
theorem s_retV {i : Nat} (h : PE X x (tVar i)) (hr : rk = .own) (hk : K.getD i .fz = .own) : PS X (.Return (some x) pos) (tSF c rk K K L (evS Γ (.ret (.var i)))) := by
  refine PS.imp (ps_ret h) fun Dn σ H q => ?_
  obtain ⟨g, ρ, ts, ct, ρ', R, ev, q⟩ := q
  obtain ⟨⟨d, ρ1⟩, e1, e2⟩ := Option.map_eq_some_iff.mp ev
  cases e2
  obtain ⟨d', e3, e4⟩ := Option.map_eq_some_iff.mp e1
  cases e4
  obtain ⟨v, hv, R2⟩ := R.takeSl hk e3
  subst hr
  exact ⟨v, hv, q _ _ { sl := ρ.sl.set i none, src := ρ.src } σ H v rfl R2⟩
end
section
variable {c : Ct} {S : SS} {Γ : Calls} {rk : Kd}
/-- a statement's match, read -/
structure Sx (c : Ct) (X : Cx) (S : SS) (Γ : Calls) (n : Cn) (rk : Kd) : Prop where
  hsr : rk ≠ .src
  sd : Sd c X S Γ
  hh : Here X n
  hf : n.sc.kind = .function
  hp : PassesOwn (model X.prog X.w) X.A X.env X.xe
end
end EvS
set_option linter.all false
set_option Elab.async false
set_option maxRecDepth 100000
set_option maxHeartbeats 1000000
/-! EvO: statements: the match read backwards, and its soundness (printed by gen_stm.py). -/
namespace EvS
open PySem PySem.Spec PyProof.Rows L2 EvK
open Ev (D E Tgt Ste Src getS evE evV evAnd evOr evS evSs boolR Calls tyD Bop Cop Ctl)
section
variable {S : SS} {rk : Kd} {n : Cn} {K Kn : List Kd} {L : LK} {ast : Stmt}
theorem ivs_asgN {i : Nat} {e : E} (h : mS S rk n (.asg (.nm i) e) K L ast = some Kn) : ∃ x p v pos, ast = .Assign [.Name x p] v pos ∧ (locB S n i x && !isBv e && mE S e n K v && decide (i < (kE e K).length) && (isCompE e || !isComp v)) = true ∧ Kn = (kE e K).set i (kdE S.rk e) := by
  unfold mS at h
  split at h <;> first | (cases ‹Ev.S.asg _ _ = _›; done) | (cases ‹Ev.S.asg _ _ = _›; exact ⟨_, _, _, _, rfl, gd_some h⟩) | (cases h; done)
theorem ivs_asgT {l : List Tgt} {e : E} (h : mS S rk n (.asg (.tup l) e) K L ast = some Kn) : ∃ ts k p v pos, ast = .Assign [.Tuple ts k p] v pos ∧ (mT S n (.tup l) (.Tuple ts k p) && !isBv e && mE S e n K v && noSw n ts v) = true ∧ Kn = kT (.tup l) (kE e K) := by
  unfold mS at h
  split at h <;> first | (cases ‹Ev.S.asg _ _ = _›; done) | (cases ‹Ev.S.asg _ _ = _›; exact ⟨_, _, _, _, _, rfl, gd_some h⟩) | (cases h; done)
theorem ivs_aug {i : Nat} {o : Bop} {e : E} (h : mS S rk n (.aug i o e) K L ast = some Kn) : ∃ x p op v pos, ast = .AugAssign (.Name x p) op v pos ∧ (locB S n i x && decide (op = opOf o) && (decide (o = .add) || decide (o = .sub)) && !isBv e && mE S e n K v && decide (K.getD i .fz ≠ .src)) = true ∧ Kn = (kE e K).set i .fz := by
  unfold mS at h
  split at h <;> first | (cases ‹Ev.S.aug _ _ _ = _›; done) | (cases ‹Ev.S.aug _ _ _ = _›; exact ⟨_, _, _, _, _, rfl, gd_some h⟩) | (cases h; done)
theorem ivs_setI {i : Nat} {k e : E} (h : mS S rk n (.setI i k e) K L ast = some Kn) : ∃ x p y p2 v pos, ast = .Assign [.Subscript (.Name x p) y p2] v pos ∧ (nameB S n i x && !isBv e && !isBv k && mE S e n K v && mE S k n (kE e K) y && plainIx y && decide ((kE k (kE e K)).getD i .fz = .own) && decide ((kE e K).getD i .fz ≠ .src)) = true ∧ Kn = kE k (kE e K) := by
  unfold mS at h
  split at h <;> first | (cases ‹Ev.S.setI _ _ _ = _›; done) | (cases ‹Ev.S.setI _ _ _ = _›; exact ⟨_, _, _, _, _, _, rfl, gd_some h⟩) | (cases h; done)
theorem ivs_app {i : Nat} {e : E} (h : mS S rk n (.app i e) K L ast = some Kn) : ∃ x p nm apos y cpos pos, ast = .Expr (.Call (.Attribute (.Name x p) nm apos) [y] [] cpos) pos ∧ (nameB S n i x && decide (nm = Str.ofString "append") && (apos.endLine == cpos.line) && !isBv e && nos y && mE S e n K y && decide (K.getD i .fz ≠ .src) && decide ((kE e K).getD i .fz = .own)) = true ∧ Kn = kE e K := by
  unfold mS at h
  split at h <;> first | (cases ‹Ev.S.app _ _ = _›; done) | (cases ‹Ev.S.app _ _ = _›; exact ⟨_, _, _, _, _, _, _, rfl, gd_some h⟩) | (cases h; done)
theorem ivs_ext {i : Nat} {e : E} (h : mS S rk n (.ext i e) K L ast = some Kn) : ∃ x p nm apos y cpos pos, ast = .Expr (.Call (.Attribute (.Name x p) nm apos) [y] [] cpos) pos ∧ (nameB S n i x && decide (nm = Str.ofString "extend") && (apos.endLine == cpos.line) && bvOk [e] K && mV S [e] n K [y] && decide (K.getD i .fz ≠ .src) && decide ((kEs [e] K).getD i .fz = .own)) = true ∧ Kn = kEs [e] K := by
  unfold mS at h
  split at h <;> first | (cases ‹Ev.S.ext _ _ = _›; done) | (cases ‹Ev.S.ext _ _ = _›; exact ⟨_, _, _, _, _, _, _, rfl, gd_some h⟩) | (cases h; done)
theorem ivs_par {is : List Nat} {es : List E} (h : mS S rk n (.par is es) K L ast = some Kn) : ∃ ts p1 p2 vs p3 p4 pos, ast = .Assign [.Tuple ts p1 p2] (.Tuple vs p3 p4) pos ∧ (parB S n is es K ts vs || parTB S n is es K ts vs) = true ∧ Kn = setKs S.rk is es (kEs es K) := by
  unfold mS at h
  split at h <;> first | (cases ‹Ev.S.par _ _ = _›; done) | (cases ‹Ev.S.par _ _ = _›; exact ⟨_, _, _, _, _, _, _, rfl, gd_some h⟩) | (cases h; done)
theorem ivs_ite {t : E} {a b : List Ev.S} (h : mS S rk n (.ite t a b) K L ast = some Kn) : ∃ x as bs pos K1 K2, ast = .If x as bs pos ∧ (isTst t && !isBv t && mE S t n K x) = true ∧ mSs S rk n a (kE t K) L as = some K1 ∧ mSs S rk n b (kE t K) L bs = some K2 ∧ (leK (meetK K1 K2) K1 && leK (meetK K1 K2) K2) = true ∧ Kn = meetK K1 K2 := by
  unfold mS at h
  split at h <;> first | (cases ‹Ev.S.ite _ _ _ = _›; done) | (cases h; done) | skip
  cases ‹Ev.S.ite _ _ _ = _›
  split at h
  · rename_i hc
    split at h
    · rename_i K1 K2 h1 h2
      exact ⟨_, _, _, _, K1, K2, rfl, hc, h1, h2, gd_some h⟩
    · cases h
  · cases h
theorem ivs_whil {hd ex : List Nat} {t : E} {b : List Ev.S} (h : mS S rk n (.whil hd ex t b) K L ast = some Kn) : ∃ x bs pos K1, ast = .While x bs [] pos ∧ (leK (mkKs hd K) K && isTst t && !isBv t && mE S t n (mkKs hd K) x) = true ∧ mSs S rk n b (kE t (mkKs hd K)) (some (mkKs ex K, mkKs hd K)) bs = some K1 ∧ (leK (mkKs hd K) K1 && leK (mkKs ex K) (kE t (mkKs hd K))) = true ∧ Kn = mkKs ex K := by
  unfold mS at h
  split at h <;> first | (cases ‹Ev.S.whil _ _ _ _ = _›; done) | (cases h; done) | skip
  cases ‹Ev.S.whil _ _ _ _ = _›
  split at h
  · rename_i hc
    split at h
    · rename_i K1 h1
      exact ⟨_, _, _, K1, rfl, hc, h1, gd_some h⟩
    · cases h
  · cases h
theorem ivs_forr {hd ex : List Nat} {t : Tgt} {it : E} {b : List Ev.S} (h : mS S rk n (.forr hd ex t it b) K L ast = some Kn) : ∃ tg iter bs pos K1, ast = .For tg iter bs [] pos ∧ (noSet iter && decide (itv it = none) && mI S it n K tg iter && mT S n t tg && (!itp it || tupT t) && leK (mkKs hd K) (kE it K)) = true ∧
    mSs S rk n b (kT t (mkKs hd K)) (some (mkKs ex K, mkKs hd K)) bs = some K1 ∧ (leK (mkKs hd K) K1 && leK (mkKs ex K) (mkKs hd K)) = true ∧ Kn = mkKs ex K := by
  unfold mS at h
  split at h <;> first | (cases ‹Ev.S.forr _ _ _ _ _ = _›; done) | (cases h; done) | skip
  cases ‹Ev.S.forr _ _ _ _ _ = _›
  split at h
  · rename_i hc
    split at h
    · rename_i K1 h1
      exact ⟨_, _, _, _, K1, rfl, hc, h1, gd_some h⟩
    · cases h
  · cases h
theorem ivs_ret {e : E} (h : mS S rk n (.ret e) K L ast = some Kn) : (∃ i x p pos, e = .var i ∧ ast = .Return (some (.Name x p)) pos ∧ (nameB S n i x && (if rk = .own then decide (K.getD i .fz = .own) else decide (K.getD i .fz ≠ .src))) = true ∧ Kn = K) ∨
    ∃ v pos, ast = .Return (some v) pos ∧ (!isBv e && mE S e n K v && (decide (rk = .fz) || decide (kdE S.rk e = .own))) = true ∧ Kn = K := by
  unfold mS at h
  split at h <;> first | (cases ‹Ev.S.ret _ = _›; done) | (cases h; done) | (cases ‹Ev.S.ret _ = _›; exact .inl ⟨_, _, _, _, rfl, rfl, gd_some h⟩) | (cases ‹Ev.S.ret _ = _›; exact .inr ⟨_, _, rfl, gd_some h⟩)
theorem ivs_brk (h : mS S rk n .brk K L ast = some Kn) : ∃ Kb Kc pos, L = some (Kb, Kc) ∧ ast = .Break pos ∧ leK Kb K = true ∧ Kn = K := by
  unfold mS at h
  split at h <;> first | (cases ‹Ev.S.brk = _›; done) | (cases h; done) | (cases ‹Ev.S.brk = _›; exact ⟨_, _, _, rfl, rfl, gd_some h⟩)
theorem ivs_cont (h : mS S rk n .cont K L ast = some Kn) : ∃ Kb Kc pos, L = some (Kb, Kc) ∧ ast = .Continue pos ∧ leK Kc K = true ∧ Kn = K := by
  unfold mS at h
  split at h <;> first | (cases ‹Ev.S.cont = _›; done) | (cases h; done) | (cases ‹Ev.S.cont = _›; exact ⟨_, _, _, rfl, rfl, gd_some h⟩)
theorem ivs_upd {i : Nat} {e : E} (h : mS S rk n (.upd i e) K L ast = some Kn) : False := by
  unfold mS at h; cases h
theorem ivs_augI {i : Nat} {o : Bop} {k e : E} (h : mS S rk n (.augI i o k e) K L ast = some Kn) : False := by
  unfold mS at h; cases h
theorem ivs_mkSrc {i : Nat} {e : E} (h : mS S rk n (.mkSrc i e) K L ast = some Kn) : False := by
  unfold mS at h; cases h
end
section
variable {c : Ct} {X : Cx} {S : SS} {Γ : Calls} {n : Cn} {rk : Kd}
mutual
theorem sS (sx : Sx c X S Γ n rk) : ∀ (s : Ev.S) (K Kn : List Kd) (L : LK) (ast : Stmt), mS S rk n s K L ast = some Kn → PS X ast (tSF c rk K Kn L (evS Γ s))
  | .asg (.nm i) e, K, Kn, L, ast, h0 => by
    obtain ⟨x, p, v, pos, rfl, h, rfl⟩ := ivs_asgN h0
    simp only [Bool.and_eq_true, Bool.not_eq_true'] at h
    exact s_asgN sx.sd sx.hh sx.hf h.1.1.1.1 h.1.1.1.2 h.1.1.2 (of_decide_eq_true h.1.2) h.2
  | .asg (.tup l) e, K, Kn, L, ast, h0 => by
    obtain ⟨ts, k, p, v, pos, rfl, h, rfl⟩ := ivs_asgT h0
    simp only [Bool.and_eq_true, Bool.not_eq_true'] at h
    exact s_asgT sx.sd sx.hh h.1.1.1 h.1.1.2 h.1.2 h.2
  | .par is es, K, Kn, L, ast, h0 => by
    obtain ⟨ts, p1, p2, vs, p3, p4, pos, rfl, h, rfl⟩ := ivs_par h0
    rw [Bool.or_eq_true] at h
    rcases h with h | h
    rotate_left
    · exact s_parT sx.sd sx.hh h
    unfold parB at h
    split at h
    · rename_i i j x px y py a b hn
      have hn := names_eq hn
      subst hn
      unfold par2B at h
      simp only [Bool.and_eq_true, Bool.not_eq_true'] at h
      obtain ⟨⟨⟨⟨⟨⟨⟨⟨⟨⟨h1, h2⟩, h3⟩, h4⟩, h5⟩, h6⟩, h7⟩, h8⟩, h9⟩, h10⟩, h11⟩ := h
      obtain ⟨e, f, rfl, _, _⟩ := (sV es n K X [a, b] sx.sd sx.hh h9).two
      exact s_par2 sx.sd sx.hh sx.hf h1 h2 (of_decide_eq_true h3) (of_decide_eq_true h4) (of_decide_eq_true h5) h6 h7 h8 h9 (of_decide_eq_true h10) (of_decide_eq_true h11)
    · rename_i i j k x px y py z pz a b d hn
      have hn := names_eq hn
      subst hn
      unfold par3B at h
      simp only [Bool.and_eq_true, Bool.not_eq_true'] at h
      obtain ⟨⟨⟨⟨⟨⟨⟨⟨⟨⟨⟨⟨⟨⟨⟨⟨⟨h1, h2⟩, h3⟩, h4⟩, h5⟩, h6⟩, h7⟩, h8⟩, h9⟩, h10⟩, h11⟩, h12⟩, h13⟩, h14⟩, h15⟩, h16⟩, h17⟩, h18⟩ := h
      obtain ⟨e, f, g, rfl, _, _, _⟩ := (sV es n K X [a, b, d] sx.sd sx.hh h15).three
      exact s_par3 sx.sd sx.hh sx.hf h1 h2 h3 (of_decide_eq_true h4) (of_decide_eq_true h5) (of_decide_eq_true h6) (of_decide_eq_true h7) (of_decide_eq_true h8) (of_decide_eq_true h9) (of_decide_eq_true h10) (of_decide_eq_true h11) h12 h13 h14 h15 (of_decide_eq_true h16) (of_decide_eq_true h17) (of_decide_eq_true h18)
    · cases h
  | .aug i o e, K, Kn, L, ast, h0 => by
    obtain ⟨x, p, op, v, pos, rfl, h, rfl⟩ := ivs_aug h0
    simp only [Bool.and_eq_true, Bool.not_eq_true', Bool.or_eq_true] at h
    obtain ⟨⟨⟨⟨⟨h1, h2⟩, h3⟩, h4⟩, h5⟩, h6⟩ := h
    cases of_decide_eq_true h2
    exact s_aug sx.sd sx.hh h1 (h3.imp of_decide_eq_true of_decide_eq_true) h4 h5 (of_decide_eq_true h6)
  | .setI i k e, K, Kn, L, ast, h0 => by
    obtain ⟨x, p, y, p2, v, pos, rfl, h, rfl⟩ := ivs_setI h0
    simp only [Bool.and_eq_true, Bool.not_eq_true'] at h
    obtain ⟨⟨⟨⟨⟨⟨⟨h1, h2⟩, h3⟩, h4⟩, h5⟩, h6⟩, h7⟩, h8⟩ := h
    exact s_setI sx.sd sx.hh h1 h2 h3 h4 h5 h6 (of_decide_eq_true h7) (of_decide_eq_true h8)
  | .app i e, K, Kn, L, ast, h0 => by
    obtain ⟨x, p, nm, apos, y, cpos, pos, rfl, h, rfl⟩ := ivs_app h0
    simp only [Bool.and_eq_true, Bool.not_eq_true'] at h
    obtain ⟨⟨⟨⟨⟨⟨⟨h1, h2⟩, h3⟩, h4⟩, h5⟩, h6⟩, h7⟩, h8⟩ := h
    have e2 := str_eq h2
    subst e2
    exact s_app sx.sd sx.hh h1 h4 h5 h6 (of_decide_eq_true h7) (of_decide_eq_true h8) h3
  | .ext i e, K, Kn, L, ast, h0 => by
    obtain ⟨x, p, nm, apos, y, cpos, pos, rfl, h, rfl⟩ := ivs_ext h0
    simp only [Bool.and_eq_true] at h
    obtain ⟨⟨⟨⟨⟨⟨h1, h2⟩, h3⟩, h4⟩, h5⟩, h6⟩, h7⟩ := h
    have e2 := str_eq h2
    subst e2
    exact s_ext sx.sd sx.hh h1 h4 h5 (of_decide_eq_true h6) (of_decide_eq_true h7) h3
  | .ite t a b, K, Kn, L, ast, h0 => by
    obtain ⟨x, as, bs, pos, K1, K2, rfl, h, h1, h2, h3, rfl⟩ := ivs_ite h0
    simp only [Bool.and_eq_true, Bool.not_eq_true'] at h h3
    exact s_ite ((sE t n K X x sx.sd sx.hh h.1.2 h.2).2 h.1.1) (sSs sx a _ _ L as h1) (sSs sx b _ _ L bs h2) h3.1 h3.2
  | .whil hd ex t b, K, Kn, L, ast, h0 => by
    obtain ⟨x, bs, pos, K1, rfl, h, h1, h2, rfl⟩ := ivs_whil h0
    simp only [Bool.and_eq_true, Bool.not_eq_true'] at h h2
    obtain ⟨⟨⟨h3, h4⟩, h5⟩, h6⟩ := h
    exact s_while sx.hp h3 ((sE t n _ X x sx.sd sx.hh h5 h6).2 h4) (sSs sx b _ _ _ bs h1) h2.1 h2.2
  | .forr hd ex t it b, K, Kn, L, ast, h0 => by
    obtain ⟨tg, iter, bs, pos, K1, rfl, h, h1, h2, rfl⟩ := ivs_forr h0
    simp only [Bool.and_eq_true, Bool.or_eq_true, Bool.not_eq_true'] at h h2
    obtain ⟨⟨⟨⟨⟨h3, h4⟩, h5⟩, h6⟩, h7⟩, h8⟩ := h
    refine s_for sx.hp sx.sd.ft.calm (sI it n K X tg iter sx.sd sx.hh h5 fun hb hm => (sE it n K X iter sx.sd sx.hh hb hm).1) (of_decide_eq_true h4) (mT_ok sx.sd sx.hh t tg h6) (fun hp => ?_) h8 (sSs sx b _ _ _ bs h1) h2.1 h2.2 h3
    rcases h7 with h7 | h7
    · rw [hp] at h7; cases h7
    · exact h7
  | .ret e, K, Kn, L, ast, h0 => by
    rcases ivs_ret h0 with ⟨i, x, p, pos, rfl, rfl, h, rfl⟩ | ⟨v, pos, rfl, h, rfl⟩
    · simp only [Bool.and_eq_true] at h
      by_cases hr : rk = .own
      · rw [if_pos hr] at h
        exact s_retV (pe_nameB (pos := p) sx.sd sx.hh h.1) hr (of_decide_eq_true h.2)
      · rw [if_neg hr] at h
        have P := f_var (c := c) (Γ := Γ) (pe_nameB (pos := p) sx.sd sx.hh h.1) (of_decide_eq_true h.2)
        exact s_ret (kd := .fz) (by decide) P (.inr (by
          cases rk with
          | fz => rfl
          | own => exact absurd rfl hr
          | src => exact absurd rfl sx.hsr))
    · simp only [Bool.and_eq_true, Bool.or_eq_true, Bool.not_eq_true'] at h
      have P := (sE e n _ X v sx.sd sx.hh h.1.1 h.1.2).1
      rcases h.2 with h2 | h2
      · exact s_ret (kd_ne sx.sd.rk e) P (.inl (of_decide_eq_true h2))
      · have hk := of_decide_eq_true h2
        cases hrk : rk with
        | fz => exact s_ret (kd_ne sx.sd.rk e) P (.inl rfl)
        | own => exact s_ret (kd_ne sx.sd.rk e) P (.inr hk)
        | src => exact absurd hrk sx.hsr
  | .brk, K, Kn, L, ast, h0 => by
    obtain ⟨Kb, Kc, pos, rfl, rfl, h, rfl⟩ := ivs_brk h0
    refine PS.imp ps_break fun Dn σ H q => ?_
    obtain ⟨g, ρ, ts, ct, ρ', R, ev, q⟩ := q
    cases ev
    obtain ⟨g2, R2⟩ := R.low h
    exact q Kb Kc rfl g2 σ H R2
  | .cont, K, Kn, L, ast, h0 => by
    obtain ⟨Kb, Kc, pos, rfl, rfl, h, rfl⟩ := ivs_cont h0
    refine PS.imp ps_continue fun Dn σ H q => ?_
    obtain ⟨g, ρ, ts, ct, ρ', R, ev, q⟩ := q
    cases ev
    obtain ⟨g2, R2⟩ := R.low h
    exact q Kb Kc rfl g2 σ H R2
  | .upd i e, K, Kn, L, ast, h0 => (ivs_upd h0).elim
  | .augI i o k e, K, Kn, L, ast, h0 => (ivs_augI h0).elim
  | .mkSrc i e, K, Kn, L, ast, h0 => (ivs_mkSrc h0).elim
theorem sSs (sx : Sx c X S Γ n rk) : ∀ (ss : List Ev.S) (K Kn : List Kd) (L : LK) (as : List Stmt), mSs S rk n ss K L as = some Kn → PSs X as (tSF c rk K Kn L (evSs Γ ss))
  | [], K, Kn, L, [], h0 => by
    simp only [mSs] at h0
    cases h0
    refine PSs.imp pss_nil fun Dn σ H q => ?_
    obtain ⟨g, ρ, ts, ct, ρ', R, ev, q⟩ := q
    cases ev
    exact q g σ H R
  | [], K, Kn, L, _ :: _, h0 => by simp [mSs] at h0
  | _ :: _, K, Kn, L, [], h0 => by simp [mSs] at h0
  | s :: ss, K, Kn, L, a :: as, h0 => by
    simp only [mSs] at h0
    split at h0
    · rename_i K1 h1
      refine PSs.imp (pss_cons (sS sx s K K1 L a h1) (sSs sx ss K1 Kn L as h0)) fun Dn σ H q => ?_
      obtain ⟨g, ρ, ts, ct, ρ', R, ev, q⟩ := q
      have ev : (match evS Γ s ρ with
        | none => none
        | some (.nx, ρ') => evSs Γ ss ρ'
        | some (c, ρ') => some (c, ρ')) = some (ct, ρ') := ev
      split at ev
      · cases ev
      · rename_i ρ1 e1
        exact ⟨g, ρ, ts, .nx, ρ1, R, e1, fun g' σ' H' R' => ⟨g', ρ1, ts, ct, ρ', R', ev, q⟩⟩
      · rename_i c2 ρ1 hn e1
        cases ev
        cases ct with
        | nx => exact absurd rfl (hn)
        | rt d => exact ⟨g, ρ, ts, .rt d, _, R, e1, q⟩
        | bk => exact ⟨g, ρ, ts, .bk, _, R, e1, q⟩
        | ct => exact ⟨g, ρ, ts, .ct, _, R, e1, q⟩
    · cases h0
end
end
end EvS
set_option linter.all false
set_option Elab.async false
set_option maxRecDepth 100000
set_option maxHeartbeats 1000000
/-! EvDf: a def's promise from the match of its body. -/
namespace EvS
open PySem PySem.Spec PyProof.Rows L2 EvK
open Ev (D E S Tgt Ste Src getS Calls evSs startS runFn Ctl)
def startK (src : Bool) (m N : Nat) : List Kd := if src then .src :: List.replicate (N - 1) .fz else List.replicate N .fz
theorem FzA.getE {P : Program} {w : World} {K : PySem.W.Frag} {F : Hp} : ∀ {vs : List V} {ds : List D} {i : Nat} {d : D}, FzA P w K F vs ds → ds[i]? = some d → ∃ v, vs[i]? = some v ∧ Fz P w K F v d
  | _, _, _, _, .nil, e => by simp at e
  | _, _, 0, d, .cons (v := v) h t, e => by
    simp at e
    subst e
    exact ⟨_, by simp, h⟩
  | _, _, i + 1, d, .cons h t, e => by
    obtain ⟨v, h1, h2⟩ := FzA.getE t (i := i) (by simpa using e)
    exact ⟨v, by simpa using h1, h2⟩
theorem getS_rep {xs : List D} {k i : Nat} {d : D} (h : getS (xs.map some ++ List.replicate k none) i = some d) : xs[i]? = some d := by
  unfold getS at h
  rcases Nat.lt_or_ge i xs.length with hi | hi
  · rw [List.getElem?_append_left (by simpa using hi)] at h
    simpa [List.getElem?_map, hi] using h
  · rw [List.getElem?_append_right (by simpa using hi)] at h
    rw [List.getElem?_replicate] at h
    split at h <;> simp at h
theorem startK_src {i m N : Nat} : (startK true m N).getD i .fz = if i = 0 then .src else .fz := by
  unfold startK
  cases i with
  | zero => simp
  | succ i => simp [List.getD, List.getElem?_replicate]; split <;> rfl
theorem startK_nos {i m N : Nat} : (startK false m N).getD i .fz = .fz := by
  unfold startK
  simp [List.getD, List.getElem?_replicate]; split <;> rfl
section
variable {c : Ct} {s : Src} {H : Hp}
/-- the state at a def's entry -/
theorem Rel.start {N : List Str} {fl : Ev.Fn} {vs : List V} {ds : List D} {m : Nat} (R : Rel c ⟨c.F0, fun _ => none⟩ [] ⟨[], s⟩ [] [] H) (hs : c.hs = fl.src) (hn : fl.n = N.length) (hl : ((if fl.src then [V.ref c.aS] else []) ++ vs).length = m) (hm : m ≤ N.length) (hf : FzA c.P c.w c.K c.F0 vs ds) :
    Rel c ⟨c.F0, fun _ => none⟩ (startK fl.src m N.length) ⟨startS fl ds, s⟩ [] (L2.start N ((if fl.src then [V.ref c.aS] else []) ++ vs)) H := by
  have hlen := hf.length
  refine ⟨R.fh, R.bh, R.ff, R.fb, ?_, fun i d e => ?_, fun j t e => by simp at e, R.ow, R.src⟩
  · cases hb : fl.src <;> simp [startS, L2.start, hb, hn] at * <;> omega
  · cases hb : fl.src with
    | false =>
      simp only [startS, L2.start, hb] at e ⊢
      simp only [Bool.false_eq_true, if_false, List.nil_append] at e ⊢
      obtain ⟨v, h1, h2⟩ := FzA.getE hf (getS_rep e)
      refine ⟨v, ?_, ?_⟩
      · have hi : i < vs.length := by
          rcases Nat.lt_or_ge i vs.length with q | q
          · exact q
          · rw [List.getElem?_eq_none q] at h1; cases h1
        rw [List.getElem?_append_left (by simpa using hi), List.getElem?_map, h1]
        rfl
      · rw [startK_nos]
        exact h2
    | true =>
      simp only [startS, L2.start, hb] at e ⊢
      simp only [if_true] at e ⊢
      rw [startK_src]
      cases i with
      | zero =>
        simp [getS] at e
        subst e
        exact ⟨_, by simp, rfl, rfl, hs.trans hb⟩
      | succ i =>
        have e' : getS (ds.map some ++ List.replicate (fl.n - (ds.length + 1)) none) i = some d := by simpa [getS] using e
        obtain ⟨v, h1, h2⟩ := FzA.getE hf (getS_rep e')
        refine ⟨v, ?_, ?_⟩
        · have hi : i < vs.length := by
            rcases Nat.lt_or_ge i vs.length with q | q
            · exact q
            · rw [List.getElem?_eq_none q] at h1; cases h1
          simp only [List.map_append, List.map_cons, List.map_nil, List.cons_append, List.nil_append, List.getElem?_cons_succ]
          rw [List.getElem?_append_left (by simpa using hi), List.getElem?_map, h1]
          rfl
        · rw [if_neg (by omega)]
          exact h2
end
/-- a def's promise by the evaluation of its body -/
theorem fn_def {P : Program} {w : World} {K : PySem.W.Frag} {mg : Str → Option Value} {base : Heap} {x qual : Str} {st : Stmt} {f : Addr} {fd : FuncData} {N ps : List Str} {k : Nat} {Γ Γ' : Calls} {fl : Ev.Fn} {S : SS} {nm : String} {rk : Kd} {m : Nat} {Kn : List Kd}
    (F : Fun K x qual st f fd) (Sc : FnScope N ps (defScope st)) (hN : S.N = N) (hps : ps.length = m) (hn : fl.n = N.length) (hm : m ≤ N.length)
    (hbl : ∀ x ∈ S.bl, mg x = none) (hrk : ∀ f, S.rk f ≠ .src) (hr : rk ≠ .src) (hΓ : ∀ ds s, Γ' nm ds s = runFn Γ fl ds s)
    (hfs : ∀ f hs n, (f, hs, n) ∈ S.fs → ∃ (fa : Addr) (fd : FuncData) (ps : List Str), mg f = some (.ref fa) ∧ FnG P w K mg base k fa fd ps (spF P w K Γ f hs (S.rk f) (n + if hs then 1 else 0)) ∧ PySem.W.keepIn K (.ref fa) = true ∧ Binds K fd ps [])
    (hmatch : mSs S rk ⟨defScope st, fun _ => true⟩ fl.body (startK fl.src m N.length) none (defBody st) = some Kn) :
    FnG P w K mg base (k + 1) f fd ps (spF P w K Γ' nm fl.src rk m) := by
  refine FnG.of F Sc (fun vs H Q E ⟨_, _, _, _, _, _, _, _, _, _, _, _, hl, _⟩ => by rw [hl, hps]) fun cdv A outer s H vs Q E hg hro hsp => ?_
  obtain ⟨c', s0, vs', ds, d, s', hP, hw, hK, hhs, R, hv, hl, hf, ev, q⟩ := hsp
  subst hP; subst hw; subst hK
  have sx : Sx c' (cxOf CX0 c'.P c'.w c'.K mg base N qual (defScope st) f cdv A outer s H E).nox S Γ ⟨defScope st, fun _ => true⟩ rk :=
    ⟨hr, ⟨⟨hg, rfl, rfl, rfl, by have := hro.un; show (A.deeper _).units + 80 < cLine; omega, rfl⟩, hN.symm, Sc.nd, hbl, fun f hs n hmem => by
      obtain ⟨fa, fd2, ps2, e1, e2, e3, e4⟩ := hfs f hs n hmem
      exact ⟨⟨fa, fd2, ps2, k, e1, e2, hro, e3, e4⟩⟩, hrk⟩, ⟨rfl, rfl⟩, Sc.kind, PassesOwn.never⟩
  refine ⟨_, sSs sx fl.body _ Kn none _ hmatch, ?_⟩
  rw [hΓ] at ev
  unfold runFn at ev
  subst hv
  have R0 := R.start hhs hn hl hm hf
  have fixS : ∀ {s1 : Src} {g Ks ts σ H'} {ρ : Ste}, Rel c' g Ks ρ ts σ H' → ρ.src = s1 → ρ.src = (if fl.src then s1 else s0) ∨ Rel c' g Ks ⟨ρ.sl, s0⟩ ts σ H' := fun {s1 g Ks ts σ H' ρ} R e => by
    cases hb : fl.src with
    | true => exact .inl (by simpa using e)
    | false => exact .inr ⟨R.fh, R.bh, R.ff, R.fb, R.len, R.sl, R.tm, R.ow, fun z => by rw [hhs, hb] at z; cases z⟩
  have R1 : Rel c' ⟨c'.F0, fun _ => none⟩ (startK fl.src m N.length) ⟨startS fl ds, if fl.src then s0 else {}⟩ [] (L2.start N ((if fl.src then [V.ref c'.aS] else []) ++ vs')) H := by
    cases hb : fl.src with
    | true => rw [hb] at R0; exact R0
    | false =>
      rw [hb] at R0
      exact ⟨R0.fh, R0.bh, R0.ff, R0.fb, R0.len, R0.sl, R0.tm, R0.ow, fun z => by rw [hhs, hb] at z; cases z⟩
  have fin : ∀ {g : Gh} {Ks : List Kd} {ρ : Ste} {σ : L2.St} {H' : Hp} {v : V} , Rel c' g Ks ρ [(rk, d, v)] σ H' → ρ.src = s' → Q v H' := fun {g Ks ρ σ H' v} R2 e => by
    cases hb : fl.src with
    | true => exact q g Ks ρ σ H' v R2 (by rw [hb]; simpa using e)
    | false => exact q g Ks ⟨ρ.sl, s0⟩ σ H' v ⟨R2.fh, R2.bh, R2.ff, R2.fb, R2.len, R2.sl, R2.tm, R2.ow, fun z => by rw [hhs, hb] at z; cases z⟩ (by rw [hb]; rfl)
  split at ev
  · rename_i dd ρ' he
    cases ev
    refine ⟨_, _, [], _, ρ', R1, he, fun g' K' ρ'' σ' H' v e R2 => ?_⟩
    exact fin R2 e
  · rename_i ρ' he
    cases ev
    refine ⟨_, _, [], _, ρ', R1, he, fun g' σ' H' R2 => ?_⟩
    have R3 : Rel c' g' Kn ρ' [(rk, .none, .non)] σ' H' := by
      cases rk with
      | fz => exact R2.push .non
      | own => exact R2.pushN .non rfl
      | src => exact absurd rfl hr
    exact fin R3 rfl
  · cases ev
end EvS
set_option linter.all false
set_option Elab.async false
set_option maxRecDepth 100000
set_option maxHeartbeats 1000000
/-! EvLw: the end of a law's row where the law's def is known with no guards. -/
namespace EvS
open PySem PySem.Spec PyProof.Rows L2 EvK
/-- the abstract heap at the top: the script, unless the module owns it -/
def topH (K : PySem.W.Frag) (a : Addr) (vs : List Value) (xs : List V) : Hp := fun b => if b = a ∧ K.lookup a = none then some (.frz { cls := .type "list", data := .seq vs.toArray } (.lst xs)) else none
theorem topH_some {K : PySem.W.Frag} {a b : Addr} {vs : List Value} {xs : List V} {u : HO} (h : topH K a vs xs b = some u) : b = a ∧ K.lookup a = none ∧ u = .frz { cls := .type "list", data := .seq vs.toArray } (.lst xs) := by
  unfold topH at h
  split at h
  · rename_i q
    cases h
    exact ⟨q.1, q.2, rfl⟩
  · cases h
theorem topH_only {K : PySem.W.Frag} {a : Addr} {vs : List Value} {xs : List V} : Only (topH K a vs xs) := fun b => by
  cases e : topH K a vs xs b with
  | none => exact .inl rfl
  | some u => exact .inr ⟨_, _, congrArg some (topH_some e).2.2⟩
theorem law_callG {P : Program} {w : World} {K : PySem.W.Frag} {mg mb : Str → Option Value} {k : Nat} {fa a : Addr} {fd : FuncData} {x : Str} {sp : Sp} {s₁ : Shared} {vs : List Value} {ns : List Int}
    (KX : K.In s₁.heap) (hns : s₁.heap.Ns mainGlobals mg) (hb : s₁.heap.Ns builtinsNs mb) (hbb : ∀ x : Str, x ≠ "__name__" → mb x = bootBuiltins x) (hlim : s₁.heap.NoLimit) (hg : s₁.gens = #[])
    (ha : s₁.heap.get? a = some { cls := .type "list", data := .seq vs.toArray }) (hi : IntsAre vs ns) (hl : ns.length ≤ sizeLine) (hr : Room k callerA)
    (F : ∀ base : Heap, K.In base → base.Ns mainGlobals mg → FnG P w K mg base k fa fd [x] sp) (hbind : ∀ (s : Shared) (u : Value), BindsTo s fd ⟨[u], []⟩ [(x, u)])
    (hsp : ∀ H : Hp, Only H → SqL K H a (ns.map V.int) → sp [.ref a] H (fun v _ => v = .bl true) fun _ _ _ => False) :
    codeAny (model P w) callerA (.call (.ref fa) ⟨[.ref a], []⟩) (fun r s' => r = .ok (.ret (.bool true)) ∧ OldK s₁.heap s'.heap ∧ s'.os = s₁.os ∧ AllBare s'.gens) s₁ := by
  have rv := vals_ints hi
  let H := topH K a vs (ns.map V.int)
  have hS : SqL K H a (ns.map V.int) := by
    cases hk : K.lookup a with
    | none => exact .inl (.inr ⟨_, if_pos ⟨rfl, hk⟩⟩)
    | some o =>
      have e := KX a o hk
      rw [ha] at e
      cases e
      exact .inr ⟨_, vs.toArray, _, hk, rfl, rfl, rfl, by rw [List.size_toArray, hi.length]; exact hl, by simpa using rv⟩
  have ok : HOk P w H s₁.heap := fun b u z => by
    obtain ⟨rfl, _, rfl⟩ := topH_some z
    exact ⟨ha, by rw [List.length_map]; exact hl, vs, _, rv, ha⟩
  have nsH : ∀ {b : Addr} {m : Str → Option Value}, s₁.heap.Ns b m → (hidT s₁.heap H).Ns b m := fun {b m} ⟨o, es, ep, e, d, r⟩ => by
    refine ⟨o, es, ep, hidT_get e ?_, d, r⟩
    cases q : H b with
    | none => rfl
    | some u =>
      obtain ⟨rfl, _, _⟩ := topH_some q
      rw [ha] at e
      cases e
      cases d
  have KH : K.In (hidT s₁.heap H) := fun b o e => by
    refine hidT_get (KX b o e) ?_
    cases q : H b with
    | none => rfl
    | some u =>
      obtain ⟨rfl, z, _⟩ := topH_some q
      rw [z] at e
      cases e
  obtain ⟨mc, l1, l2⟩ := hlim
  have e0 : Env0 P w K mg (hidT s₁.heap H) callerA [] s₁ H :=
    ⟨rfl, ⟨KH, nsH hns, ⟨mb, nsH hb, hbb⟩, ⟨mc, nsH l1, l2⟩⟩, fun b o e => of_hidT e, Nat.le_of_eq (hidT_size _ _), trivial, fun b hb => absurd (show b ∈ ([] : List Addr) from hb) (by simp), ok, .of_eq hg⟩
  refine codeAny_mono ((F _ KH (nsH hns)).run callerA [] s₁ H ⟨[.ref a], []⟩ [.ref a] [.ref a] _ _ rfl hr e0 (hbind s₁ (.ref a)) (.cons rfl .nil) (hsp H topH_only hS)) fun r s' h => ?_
  match r, h with
  | .error _, h => exact False.elim h
  | .ok .next, h => exact False.elim h
  | .ok .brk, h => exact False.elim h
  | .ok .cont, h => exact False.elim h
  | .ok (.ret u), h =>
    obtain ⟨v, H', os, bare, un, hok', r', q⟩ := h
    obtain rfl : v = .bl true := q
    obtain rfl : u = Value.bool true := r'
    refine ⟨rfl, OldK.of_keep fun b o e => ?_, os, bare⟩
    cases q : H b with
    | none => exact un.keep b o e q (by intro z; exact absurd (show b ∈ ([] : List Addr) from z) (by simp)) (by simp)
    | some u =>
      obtain ⟨rfl, _, rfl⟩ := topH_some q
      have e2 := (hok' _ _ (un.frzs _ _ _ q)).1
      rw [ha] at e
      cases e
      exact e2
theorem walk_ofG {l : PySem.W.OpenLaw} {n k : Nat} {q : Program} {loose : List Str} {XP : (Str → Option Value) → Heap → Prop} {YP : World → Heap → Prop} {d : DefRec} {K : Params → PySem.W.Frag} {sp : World → Sp} {x : Str}
    (hn : l.most = some n) (hn2 : n ≤ sizeLine) (hdf : d.params.defaults = []) (hr : Room k callerA)
    (hY : ∀ (w : World) (h : Heap), YP w h → (K w.params).In h)
    (F : ∀ (w : World) (mg : Str → Option Value) (fa : Addr) (h : Heap), (K w.params).In h → h.Ns mainGlobals mg → mg d.name = some (.ref fa) →
      ∃ fd : FuncData, (∀ (s : Shared) (u : Value), BindsTo s fd ⟨[u], []⟩ [(x, u)]) ∧
        ∀ base : Heap, (K w.params).In base → base.Ns mainGlobals mg → FnG l.prog w (K w.params) mg base k fa fd [x] (sp w))
    (hsp : ∀ (w : World) (H : Hp) (a : Addr) (ns : List Int), ns.length ≤ n → Only H → SqL (K w.params) H a (ns.map V.int) → sp w [.ref a] H (fun v _ => v = .bl true) fun _ _ _ => False) :
    PySem.W.WalkO q loose XP YP l.row.toRowW d [] (fun f vs => PySem.call f vs) := by
  refine Att.attach_call hn hdf fun w s₀ s₁ mg mb fa o pm cd doc a vs ns G Y ho hd hcd hmg hobj hints hlen hg => ?_
  have KX := hY w _ Y
  obtain ⟨fd, hb, hF⟩ := F w mg fa _ KX G.T.g hmg
  exact law_callG KX G.T.g G.T.b G.T.builtins G.T.nolimit hg hobj hints (Nat.le_trans hlen hn2) hr hF hb fun H hO hS => hsp w H a ns hlen hO hS
end EvS
set_option linter.all false
set_option Elab.async false
set_option maxRecDepth 100000
set_option maxHeartbeats 1000000
/-! Er: rules by which the evaluator is run by hand. -/
namespace Ev
open PySem
section
variable {Γ : Calls} {ρ ρ' ρ1 ρ2 : Ste} {s s' : Src} {sl : Slots}
theorem evSs_nx {st : S} {ss : List S} (h : evS Γ st ρ = some (.nx, ρ')) : evSs Γ (st :: ss) ρ = evSs Γ ss ρ' := by simp [evSs, h]
theorem evSs_rt {st : S} {ss : List S} {d : D} (h : evS Γ st ρ = some (.rt d, ρ')) : evSs Γ (st :: ss) ρ = some (.rt d, ρ') := by simp [evSs, h]
@[simp] theorem boolR_bool {b : Bool} : boolR (some (.bool b, ρ)) = some (b, ρ) := rfl
/-- a comprehension that keeps the state: its elements -/
theorem compL_pure {own : List Nat} {t : Tgt} {c f : R D} {α : Type} (enc : α → D) (p : α → Bool) (g : α → D) : ∀ (xs : List α),
    (∀ x ∈ xs, ∃ sl', asgT t (enc x) sl = some sl' ∧ c ⟨sl', s⟩ = some (.bool (p x), ⟨sl', s⟩) ∧ (p x = true → f ⟨sl', s⟩ = some (g x, ⟨sl', s⟩)) ∧ wipe sl' own = sl) → xs.length ≤ lim →
    compL own t c f (xs.map enc) ⟨sl, s⟩ = some ((xs.filter p).map g, ⟨sl, s⟩)
  | [], _, _ => rfl
  | x :: xs, h, hl => by
    obtain ⟨sl', h1, h2, h3, h4⟩ := h x (by simp)
    have ih := compL_pure enc p g xs (fun y hy => h y (by simp [hy])) (by simp at hl; omega)
    have hf : ((xs.filter p).map g).length < lim := by
      have := List.length_filter_le p xs
      simp at hl ⊢; omega
    rw [List.map_cons, compL, h1]
    simp only [h2, boolR_bool]
    cases hp : p x with
    | false => simp only [h4, ih, List.filter_cons, hp]; rfl
    | true => simp only [h3 hp, h4, ih, List.filter_cons, hp, hf, if_true, List.map_cons]
/-- a loop over items by what holds behind each -/
theorem forL_inv {t : Tgt} {b : R Ctl} {α : Type} (enc : α → D) (I : List α → Ste → Prop) (xs : List α)
    (hs : ∀ (done : List α) (x : α) (rest : List α) (ρ : Ste), xs = done ++ x :: rest → I done ρ → ∃ sl ρ', asgT t (enc x) ρ.sl = some sl ∧ b ⟨sl, ρ.src⟩ = some (.nx, ρ') ∧ I (done ++ [x]) ρ')
    (h0 : I [] ρ) : ∃ ρ', forL t b (xs.map enc) ρ = some (.nx, ρ') ∧ I xs ρ' := by
  have aux : ∀ (rest done : List α) (ρ : Ste), xs = done ++ rest → I done ρ → ∃ ρ', forL t b (rest.map enc) ρ = some (.nx, ρ') ∧ I xs ρ' := by
    intro rest
    induction rest with
    | nil => intro done ρ e h; exact ⟨ρ, rfl, by rw [e]; simpa using h⟩
    | cons x rest ih =>
      intro done ρ e h
      obtain ⟨sl, ρ', h1, h2, h3⟩ := hs done x rest ρ e h
      obtain ⟨ρ'', h4, h5⟩ := ih (done ++ [x]) ρ' (by simp [e]) h3
      refine ⟨ρ'', ?_, h5⟩
      rw [List.map_cons, forL, h1]
      simp only [h2, h4]
  exact aux xs [] ρ rfl h0
/-- a while by a measure -/
theorem whileL_inv {t : R D} {b : R Ctl} (I : Nat → Ste → Prop) (Q : Ste → Prop)
    (hs : ∀ m ρ, I m ρ → (∃ ρ1, t ρ = some (.bool false, ρ1) ∧ Q ρ1) ∨ ∃ ρ1 ρ2 m', t ρ = some (.bool true, ρ1) ∧ b ρ1 = some (.nx, ρ2) ∧ m' < m ∧ I m' ρ2) :
    ∀ (m n : Nat) (ρ : Ste), m < n → I m ρ → ∃ ρ', whileL t b n ρ = some (.nx, ρ') ∧ Q ρ'
  | m, 0, ρ, hn, h => absurd hn (Nat.not_lt_zero _)
  | m, n + 1, ρ, hn, h => by
    rcases hs m ρ h with ⟨ρ1, h1, h2⟩ | ⟨ρ1, ρ2, m', h1, h2, h3, h4⟩
    · exact ⟨ρ1, by rw [whileL, h1]; rfl, h2⟩
    · obtain ⟨ρ', h5, h6⟩ := whileL_inv I Q hs m' n ρ2 (by omega) h4
      exact ⟨ρ', by rw [whileL, h1]; simp only [boolR_bool, h2, h5], h6⟩
/-- a comprehension's value where the state is kept -/
theorem evE_comp {own : List Nat} {t : Tgt} {it : E} {cond : List E} {elt : E} {sl0 : Slots} {d : D} {α : Type} (enc : α → D) (p : α → Bool) (g : α → D) (xs : List α)
    (hit : evE Γ it ⟨sl0, s⟩ = some (d, ⟨sl0, s⟩)) (hd : seqD d = some (xs.map enc)) (hw : wipe sl0 own = sl)
    (h : ∀ x ∈ xs, ∃ sl', asgT t (enc x) sl = some sl' ∧ evAnd Γ cond ⟨sl', s⟩ = some (.bool (p x), ⟨sl', s⟩) ∧ (p x = true → evE Γ elt ⟨sl', s⟩ = some (g x, ⟨sl', s⟩)) ∧ wipe sl' own = sl) (hl : xs.length ≤ lim) (hr : restore sl0 sl own = sl0) :
    evE Γ (.comp own t it cond elt) ⟨sl0, s⟩ = some (.list ((xs.filter p).map g), ⟨sl0, s⟩) := by
  simp only [evE, hit, Option.bind_some, hd, hw]
  rw [compL_pure enc p g xs h hl]
  simp only [Option.map_some, hr]
theorem evE_compA {own : List Nat} {t : Tgt} {it : E} {elt : E} {sl0 : Slots} {d : D} {α : Type} (enc : α → D) (g : α → D) (xs : List α)
    (hit : evE Γ it ⟨sl0, s⟩ = some (d, ⟨sl0, s⟩)) (hd : seqD d = some (xs.map enc)) (hw : wipe sl0 own = sl)
    (h : ∀ x ∈ xs, ∃ sl', asgT t (enc x) sl = some sl' ∧ evE Γ elt ⟨sl', s⟩ = some (g x, ⟨sl', s⟩) ∧ wipe sl' own = sl) (hl : xs.length ≤ lim) (hr : restore sl0 sl own = sl0) :
    evE Γ (.comp own t it [] elt) ⟨sl0, s⟩ = some (.list (xs.map g), ⟨sl0, s⟩) := by
  have := evE_comp (cond := []) (own := own) (t := t) (it := it) (elt := elt) (Γ := Γ) enc (fun _ => true) g xs hit hd hw (fun x hx => by
    obtain ⟨sl', h1, h2, h3⟩ := h x hx
    exact ⟨sl', h1, rfl, fun _ => h2, h3⟩) hl hr
  rwa [List.filter_eq_self.mpr (fun _ _ => rfl)] at this
theorem evV_cons {e : E} {es : List E} {d : D} {ds : List D} (h : evE Γ e ρ = some (d, ρ1)) (h2 : evV Γ es ρ1 = some (ds, ρ')) (hb : ∀ i, e ≠ .bv i := by nofun) : evV Γ (e :: es) ρ = some (d :: ds, ρ') := by
  cases e <;> first | exact absurd rfl (hb _) | simp [evV, h, h2]
theorem evV_nil : evV Γ [] ρ = some ([], ρ) := rfl
theorem evE_bi1 {f : Bi} {e : E} {d z : D} (h : evE Γ e ρ = some (d, ρ') ) (h2 : biD f [d] = some z) (hb : ∀ i, e ≠ .bv i := by nofun) : evE Γ (.bi f [e]) ρ = some (z, ρ') := by
  simp only [evE, evV_cons h evV_nil hb, Option.bind_some, h2, Option.map_some]
theorem evS_for {hd ex : List Nat} {t : Tgt} {it : E} {b : List S} {α : Type} (enc : α → D) (xs : List α) {d : D} (hit : evE Γ it ρ = some (d, ρ1)) (hq : seqD d = some (xs.map enc)) (I : List α → Ste → Prop) (h0 : I [] ρ1)
    (hs : ∀ (done : List α) (x : α) (rest : List α) (ρ : Ste), xs = done ++ x :: rest → I done ρ → ∃ sl ρ', asgT t (enc x) ρ.sl = some sl ∧ evSs Γ b ⟨sl, ρ.src⟩ = some (.nx, ρ') ∧ I (done ++ [x]) ρ') :
    ∃ ρ', evS Γ (.forr hd ex t it b) ρ = some (.nx, ρ') ∧ I xs ρ' := by
  simp only [evS, hit, Option.bind_some, hq]
  exact forL_inv enc I xs hs h0
/-- a loop that is left by a return -/
theorem evS_forR {hd ex : List Nat} {t : Tgt} {it : E} {b : List S} {α : Type} (enc : α → D) (pre : List α) (x : α) (post : List α) {d r : D} (hit : evE Γ it ρ = some (d, ρ1)) (hq : seqD d = some ((pre ++ x :: post).map enc)) (I : List α → Ste → Prop) (h0 : I [] ρ1)
    (hs : ∀ (done : List α) (x : α) (rest : List α) (ρ : Ste), pre = done ++ x :: rest → I done ρ → ∃ sl ρ', asgT t (enc x) ρ.sl = some sl ∧ evSs Γ b ⟨sl, ρ.src⟩ = some (.nx, ρ') ∧ I (done ++ [x]) ρ')
    (hx : ∀ ρ, I pre ρ → ∃ sl ρ', asgT t (enc x) ρ.sl = some sl ∧ evSs Γ b ⟨sl, ρ.src⟩ = some (.rt r, ρ')) :
    ∃ ρ', evS Γ (.forr hd ex t it b) ρ = some (.rt r, ρ') := by
  simp only [evS, hit, Option.bind_some, hq]
  have aux : ∀ (rest done : List α) (ρ : Ste), pre = done ++ rest → I done ρ → ∃ ρ', forL t (evSs Γ b) ((rest ++ x :: post).map enc) ρ = some (.rt r, ρ') := by
    intro rest
    induction rest with
    | nil =>
      intro done ρ e h
      have e : pre = done := by simpa using e
      obtain ⟨sl, ρ', h1, h2⟩ := hx ρ (e ▸ h)
      refine ⟨ρ', ?_⟩
      rw [List.nil_append, List.map_cons, forL, h1]
      simp only [h2]
    | cons y rest ih =>
      intro done ρ e h
      obtain ⟨sl, ρ', h1, h2, h3⟩ := hs done y rest ρ e h
      obtain ⟨ρ'', h4⟩ := ih (done ++ [y]) ρ' (by simp [e]) h3
      refine ⟨ρ'', ?_⟩
      rw [List.cons_append, List.map_cons, forL, h1]
      simp only [h2, h4]
  exact aux pre [] ρ1 rfl h0
theorem evS_while {hd ex : List Nat} {t : E} {b : List S} (I : Nat → Ste → Prop) (Q : Ste → Prop) (m : Nat) (hm : m < turns) (h0 : I m ρ)
    (hs : ∀ m ρ, I m ρ → (∃ ρ1, evE Γ t ρ = some (.bool false, ρ1) ∧ Q ρ1) ∨ ∃ ρ1 ρ2 m', evE Γ t ρ = some (.bool true, ρ1) ∧ evSs Γ b ρ1 = some (.nx, ρ2) ∧ m' < m ∧ I m' ρ2) :
    ∃ ρ', evS Γ (.whil hd ex t b) ρ = some (.nx, ρ') ∧ Q ρ' := by
  simp only [evS]
  exact whileL_inv I Q hs m turns ρ hm h0
theorem atD_nat {xs : List D} {i : Nat} (h : i < xs.length) : atD (.list xs) (.int i) = some (xs.getD i .none) := by
  simp [atD, ixD, h, List.getD]
theorem atD_natT {xs : List D} {i : Nat} (h : i < xs.length) : atD (.tuple xs) (.int i) = some (xs.getD i .none) := by
  simp [atD, ixD, h, List.getD]
theorem runFn_of {fl : Fn} {args : List D} {d : D} (sl : Slots) (hs : startS fl args = sl) (h : evSs Γ fl.body ⟨sl, s⟩ = some (.rt d, ρ')) (e : ρ'.src = s') : runFn Γ fl args s = some (d, s') := by
  unfold runFn
  rw [hs, h, ← e]
theorem rngD_map : ∀ (n : Nat) (lo : Int), rngD lo n = (List.range n).map fun i : Nat => PyData.int (lo + i)
  | 0, _ => rfl
  | n + 1, lo => by
    rw [rngD, rngD_map n, List.range_succ_eq_map, List.map_cons, List.map_map]
    simp
    intro a ha; omega
theorem rngD0 {n : Nat} : rngD 0 n = (List.range n).map fun i : Nat => PyData.int i := by simp [rngD_map]
theorem evE_chain {o o' : Cop} {es : List E} {c : E} {x y z : D} {b b' : Bool} {ρ2 : Ste} (h : evV Γ es ρ = some ([x, y], ρ1)) (h1 : cmpD o x y = some b) (h2 : evE Γ c ρ1 = some (z, ρ2)) (h3 : cmpD o' y z = some b') (he : ρ2 = ρ1) : evE Γ (.chain o o' es c) ρ = some (.bool (b && b'), ρ1) := by
  subst he
  cases b <;> simp [evE, h, h1, h2, h3]
theorem evE_rng1 {a : E} {n : Nat} (h : evE Γ a ρ = some (.int n, ρ')) (hn : n < 1073741824) : evE Γ (.rng1 a) ρ = some (.list ((List.range n).map fun i : Nat => PyData.int i), ρ') := by
  simp [evE, h, hn, rngD0]
theorem enumD_map : ∀ (xs : List D) (k : Nat), enumD k xs = (List.range xs.length).map fun i : Nat => PyData.tuple [.int ((k + i : Nat) : Int), xs.getD i .none]
  | [], _ => rfl
  | x :: xs, k => by
    rw [enumD, enumD_map xs, List.length_cons, List.range_succ_eq_map, List.map_cons, List.map_map]
    simp
    intro a ha; omega
theorem isInts_map : ∀ {ns : List Int}, isInts (ns.map .int) = some ns
  | [] => rfl
  | n :: ns => by rw [List.map_cons, isInts, isInts_map]; rfl

theorem evE_tup {es : List E} {ds : List D} (h : evV Γ es ρ = some (ds, ρ')) : evE Γ (.tup es) ρ = some (.tuple ds, ρ') := by
  simp [evE, h]
theorem evV_bv {i : Nat} {es : List E} {d : D} {ds : List D} (h : getS ρ.sl i = some d) (h2 : evV Γ es ρ = some (ds, ρ')) (h3 : getS ρ'.sl i = some d) : evV Γ (.bv i :: es) ρ = some (d :: ds, ρ') := by
  simp [evV, h, h2, h3]
theorem evE_cmp {o : Cop} {es : List E} {x y : D} {b : Bool} (h : evV Γ es ρ = some ([x, y], ρ')) (h2 : cmpD o x y = some b) : evE Γ (.cmp o es) ρ = some (.bool b, ρ') := by
  simp [evE, h, h2]
theorem evE_bin {o : Bop} {es : List E} {x y z : D} (h : evV Γ es ρ = some ([x, y], ρ')) (h2 : binD o x y = some z) : evE Γ (.bin o es) ρ = some (z, ρ') := by
  simp [evE, h, h2]
theorem evE_idx {es : List E} {x y z : D} (h : evV Γ es ρ = some ([x, y], ρ')) (h2 : atD x y = some z) : evE Γ (.idx es) ρ = some (z, ρ') := by
  simp [evE, h, h2]
theorem evE_bi {f : Bi} {es : List E} {ds : List D} {z : D} (h : evV Γ es ρ = some (ds, ρ')) (h2 : biD f ds = some z) : evE Γ (.bi f es) ρ = some (z, ρ') := by
  simp [evE, h, h2]
theorem evE_lst {es : List E} {ds : List D} (h : evV Γ es ρ = some (ds, ρ')) : evE Γ (.lst es) ρ = some (.list ds, ρ') := by
  simp [evE, h]
theorem evE_call {f : String} {es : List E} {ds : List D} {z : D} {s1 : Src} (h : evV Γ es ρ = some (ds, ρ')) (h2 : Γ f ds {} = some (z, s1)) : evE Γ (.call f none es) ρ = some (z, ρ') := by
  simp [evE, h, h2]
theorem evE_callS {f : String} {es : List E} {ds : List D} {i : Nat} {z d0 : D} {s1 : Src} (h0 : getS ρ.sl i = some d0) (h : evV Γ es ρ = some (ds, ρ')) (h2 : Γ f ds ρ'.src = some (z, s1)) : evE Γ (.call f (some i) es) ρ = some (z, { ρ' with src := s1 }) := by
  simp [evE, h0, h, h2]
theorem evS_iteT {t : E} {a b : List S} (h : evE Γ t ρ = some (.bool true, ρ')) : evS Γ (.ite t a b) ρ = evSs Γ a ρ' := by
  simp [evS, h]
theorem evS_iteF {t : E} {a b : List S} (h : evE Γ t ρ = some (.bool false, ρ')) : evS Γ (.ite t a b) ρ = evSs Γ b ρ' := by
  simp [evS, h]
theorem evSs_one {st : S} : evSs Γ [st] ρ = evS Γ st ρ := by
  simp only [evSs]
  cases h : evS Γ st ρ with
  | none => rfl
  | some p => obtain ⟨c, r⟩ := p; cases c <;> rfl
theorem evE_iteT {t a b : E} (h : evE Γ t ρ = some (.bool true, ρ1)) : evE Γ (.ite t a b) ρ = evE Γ a ρ1 := by
  simp [evE, h]
theorem evE_iteF {t a b : E} (h : evE Γ t ρ = some (.bool false, ρ1)) : evE Γ (.ite t a b) ρ = evE Γ b ρ1 := by
  simp [evE, h]
theorem evAnd_T {e : E} {es : List E} (h : evE Γ e ρ = some (.bool true, ρ1)) : evAnd Γ (e :: es) ρ = evAnd Γ es ρ1 := by
  simp [evAnd, h]
theorem evAnd_F {e : E} {es : List E} (h : evE Γ e ρ = some (.bool false, ρ1)) : evAnd Γ (e :: es) ρ = some (.bool false, ρ1) := by
  simp [evAnd, h]
theorem evAnd_1 {e : E} {b : Bool} (h : evE Γ e ρ = some (.bool b, ρ1)) : evAnd Γ [e] ρ = some (.bool b, ρ1) := by
  cases b <;> simp [evAnd, h]
theorem evAnd_nil : evAnd Γ [] ρ = some (.bool true, ρ) := by simp [evAnd]
theorem evOr_T {e : E} {es : List E} (h : evE Γ e ρ = some (.bool true, ρ1)) : evOr Γ (e :: es) ρ = some (.bool true, ρ1) := by
  simp [evOr, h]
theorem evOr_F {e : E} {es : List E} (h : evE Γ e ρ = some (.bool false, ρ1)) : evOr Γ (e :: es) ρ = evOr Γ es ρ1 := by
  simp [evOr, h]
theorem evOr_1 {e : E} {b : Bool} (h : evE Γ e ρ = some (.bool b, ρ1)) : evOr Γ [e] ρ = some (.bool b, ρ1) := by
  cases b <;> simp [evOr, h]
theorem evE_and {es : List E} : evE Γ (.and es) ρ = evAnd Γ es ρ := by simp [evE]
theorem evE_or {es : List E} : evE Γ (.or es) ρ = evOr Γ es ρ := by simp [evE]
theorem evE_not {e : E} {b : Bool} (h : evE Γ e ρ = some (.bool b, ρ1)) : evE Γ (.not e) ρ = some (.bool (!b), ρ1) := by
  simp [evE, h]
theorem evS_ret {e : E} {d : D} (h : evE Γ e ρ = some (d, ρ')) : evS Γ (.ret e) ρ = some (.rt d, ρ') := by
  simp [evS, h]
theorem evS_asg1 {i : Nat} {e : E} {d : D} (h : evE Γ e ρ = some (d, ρ')) : evS Γ (.asg (.nm i) e) ρ = some (.nx, { ρ' with sl := ρ'.sl.set i (some d) }) := by
  simp [evS, h, asgT]
/-- a builtin over a borrowed name -/
theorem evE_bi1' {f : Bi} {i : Nat} {d z : D} (h : getS ρ.sl i = some d) (h2 : biD f [d] = some z) : evE Γ (.bi f [.bv i]) ρ = some (z, ρ) := by
  simp [evE, evV, h, h2]
theorem evE_setd_old {i : Nat} {es : List E} {x y z d0 : D} {kvs : List (D × D)} (h0 : getS ρ.sl i = some d0) (ht : tyD d0 = 3) (h : evV Γ es ρ = some ([x, y], ρ')) (h1 : getS ρ'.sl i = some (.dict kvs)) (hk : okK kvs x = true) (hl : kvs.length < lim) (hz : dget kvs x = some z) :
    evE Γ (.setd i es) ρ = some (z, ρ') := by
  simp [evE, h0, h, h1, hk, hl, ht, hz]
theorem evE_setd_new {i : Nat} {es : List E} {x y d0 : D} {kvs : List (D × D)} (h0 : getS ρ.sl i = some d0) (ht : tyD d0 = 3) (h : evV Γ es ρ = some ([x, y], ρ')) (h1 : getS ρ'.sl i = some (.dict kvs)) (hk : okK kvs x = true) (hl : kvs.length < lim) (hz : dget kvs x = none) :
    evE Γ (.setd i es) ρ = some (y, { ρ' with sl := ρ'.sl.set i (some (.dict (dset kvs x y))) }) := by
  simp [evE, h0, h, h1, hk, hl, ht, hz]
theorem evS_setI {i j : Nat} {k e : E} {y d0 : D} {n : Int} {xs : List D} (h1 : evE Γ e ρ = some (y, ρ1)) (h0 : getS ρ1.sl i = some d0) (h2 : evE Γ k ρ1 = some (.int n, ρ2)) (h3 : getS ρ2.sl i = some (.list xs)) (h4 : ixD xs.length n = some j) :
    evS Γ (.setI i k e) ρ = some (.nx, { ρ2 with sl := ρ2.sl.set i (some (.list (xs.set j y))) }) := by
  simp [evS, h0, h1, h2, h3, h4]
theorem evE_rev {es : List E} {x z : D} (h : evV Γ es ρ = some ([x], ρ')) (h2 : revD x = some z) : evE Γ (.rev es) ρ = some (z, ρ') := by
  simp [evE, h, h2]
theorem evE_slc {lo hi : Bool} {es : List E} {ds : List D} {z : D} (h : evV Γ es ρ = some (ds, ρ')) (h2 : slcV lo hi ds = some z) : evE Γ (.slc lo hi es) ρ = some (z, ρ') := by
  simp [evE, h, h2]
theorem evS_par {is : List Nat} {es : List E} {ds : List D} {sl : Slots} (h : evV Γ es ρ = some (ds, ρ')) (h2 : setAll is ds ρ'.sl = some sl) : evS Γ (.par is es) ρ = some (.nx, ⟨sl, ρ'.src⟩) := by
  simp [evS, h, h2]
theorem evS_app {i : Nat} {e : E} {d d0 : D} {xs : List D} (h0 : getS ρ.sl i = some d0) (ht : tyD d0 = 1) (h : evE Γ e ρ = some (d, ρ')) (h1 : getS ρ'.sl i = some (.list xs)) (hl : xs.length < lim) :
    evS Γ (.app i e) ρ = some (.nx, { ρ' with sl := ρ'.sl.set i (some (.list (xs ++ [d]))) }) := by
  simp [evS, h0, h, h1, hl, ht]
end

/-! ### the random source of the laws -/
def drain (many : Int) : Nat → Src → Src
  | 0, s => s
  | n + 1, s => if 1 < many ∧ s.left < 2 then (match s.cells[s.cells.length - 1]? with
      | some x => drain many n { s with left := x, cells := s.cells.dropLast }
      | none => s) else s
def pickS (many : Int) (s0 : Src) : Int × Src :=
  let s := drain many s0.cells.length s0
  if many < 2 ∨ 1 < s.left then (s.left % max 1 many, { s with left := s.left / max 1 many })
  else ((((s.mixed + (s.turn + 1) * 104729) % 998244353 * ((s.mixed + (s.turn + 1) * 104729) % 998244353) + (s.turn + 1) * 17) % 2147483647 / 16) % many,
    { s with turn := s.turn + 1, mixed := ((s.mixed + (s.turn + 1) * 104729) % 998244353 * ((s.mixed + (s.turn + 1) * 104729) % 998244353) + (s.turn + 1) * 17) % 2147483647 })
/-- the slots of a law behind its first row -/
def lawS (n : Nat) : Slots := none :: some .none :: List.replicate n none
def pick : List D → Src → Option (D × Src)
  | [.int many], s => if many < 1073741824 then some (.int (pickS many s).1, (pickS many s).2) else none
  | _, _ => none
def mixOf (ns : List Int) : Int := ns.foldl (fun m x => (m * 69069 + x * 31 + 5) % 2147483629) 11
def absI (i : Int) : Int := if i < 0 then -i else i
def srcOf (ns : List Int) : Src := ⟨(ns.map absI).reverse, 1, mixOf ns, 0⟩
/-! ### places -/
section
variable {α : Type} [DecidableEq α]
/-- the place of a thing in a list -/
def idx : List α → α → Nat
  | [], _ => 0
  | y :: ys, x => if y = x then 0 else idx ys x + 1
theorem idx_lt : ∀ {xs : List α} {x : α}, x ∈ xs → idx xs x < xs.length
  | y :: ys, x, h => by
    unfold idx
    split
    · simp
    · rename_i e
      have := idx_lt (xs := ys) (x := x) (by simpa [Ne.symm e] using h)
      simp; omega
theorem idx_get : ∀ {xs : List α} {x : α} (h : x ∈ xs), xs[idx xs x]'(idx_lt h) = x
  | y :: ys, x, h => by
    by_cases e : y = x
    · simp [idx, e]
    · have := idx_get (xs := ys) (x := x) (by simpa [Ne.symm e] using h)
      simp [idx, e, this]
theorem idx_append_mem : ∀ {xs ys : List α} {x : α}, x ∈ xs → idx (xs ++ ys) x = idx xs x
  | z :: xs, ys, x, h => by
    rw [List.cons_append]
    unfold idx
    split
    · rfl
    · rename_i e
      rw [idx_append_mem (by simpa [Ne.symm e] using h)]
theorem idx_append_not : ∀ {xs ys : List α} {x : α}, x ∉ xs → idx (xs ++ ys) x = xs.length + idx ys x
  | [], ys, x, _ => by simp
  | z :: xs, ys, x, h => by
    simp only [List.mem_cons, not_or] at h
    rw [List.cons_append, idx, if_neg (Ne.symm h.1), idx_append_not h.2]
    simp; omega
theorem idx_nodup : ∀ {xs : List α} {i : Nat} (h : i < xs.length), xs.Nodup → idx xs xs[i] = i
  | y :: ys, 0, _, _ => by simp [idx]
  | y :: ys, i + 1, h, nd => by
    rw [List.nodup_cons] at nd
    have hi : i < ys.length := by simpa using h
    have : y ≠ ys[i] := fun e => nd.1 (e ▸ List.getElem_mem hi)
    simp [idx, this, idx_nodup hi nd.2]
end
/-! ### first appearances -/
section dd
variable {α β : Type} [DecidableEq α] [DecidableEq β]
/-- the members as they first appear, behind those that are known -/
def ddFrom : List α → List α → List α
  | kn, [] => kn
  | kn, x :: xs => if x ∈ kn then ddFrom kn xs else ddFrom (kn ++ [x]) xs
def dd (xs : List α) : List α := ddFrom [] xs
theorem mem_ddFrom : ∀ {xs kn : List α} {x : α}, x ∈ ddFrom kn xs ↔ x ∈ kn ∨ x ∈ xs
  | [], kn, x => by simp [ddFrom]
  | y :: ys, kn, x => by
    unfold ddFrom
    split
    · rename_i h
      rw [mem_ddFrom]
      constructor
      · rintro (a | a)
        · exact .inl a
        · exact .inr (List.mem_cons_of_mem _ a)
      · rintro (a | a)
        · exact .inl a
        · rcases List.mem_cons.mp a with rfl | a
          · exact .inl h
          · exact .inr a
    · rw [mem_ddFrom]
      simp [or_assoc]
theorem mem_dd {xs : List α} {x : α} : x ∈ dd xs ↔ x ∈ xs := by simp [dd, mem_ddFrom]
theorem nodup_ddFrom : ∀ {xs kn : List α}, kn.Nodup → (ddFrom kn xs).Nodup
  | [], kn, h => h
  | y :: ys, kn, h => by
    unfold ddFrom
    split
    · exact nodup_ddFrom h
    · rename_i hy
      refine nodup_ddFrom ?_
      rw [List.nodup_append]
      exact ⟨h, by simp, fun a ha b hb => by simp at hb; subst hb; exact fun e => hy (e ▸ ha)⟩
theorem nodup_dd {xs : List α} : (dd xs).Nodup := nodup_ddFrom List.nodup_nil
theorem ddFrom_nodup : ∀ {xs kn : List α}, (kn ++ xs).Nodup → ddFrom kn xs = kn ++ xs
  | [], kn, _ => by simp [ddFrom]
  | y :: ys, kn, h => by
    unfold ddFrom
    rw [if_neg]
    · rw [ddFrom_nodup] <;> simpa using h
    · intro z
      rw [List.nodup_append] at h
      exact h.2.2 y z y (by simp) rfl
theorem dd_nodup {xs : List α} (h : xs.Nodup) : dd xs = xs := by
  unfold dd
  rw [ddFrom_nodup (by simpa using h)]
  rfl
theorem length_le_of_subset : ∀ {xs ys : List α}, xs.Nodup → (∀ x ∈ xs, x ∈ ys) → xs.length ≤ ys.length
  | [], _, _, _ => Nat.zero_le _
  | x :: xs, ys, h, s => by
    rw [List.nodup_cons] at h
    have hx := s x (by simp)
    have : xs.length ≤ (ys.erase x).length := length_le_of_subset h.2 fun z hz => by
      rw [List.mem_erase_of_ne (fun e => h.1 (by rw [← e]; exact hz))]
      exact s z (by simp [hz])
    rw [List.length_erase_of_mem hx] at this
    have := List.length_pos_of_mem hx
    simp; omega
theorem dd_length_le {xs : List α} : (dd xs).length ≤ xs.length := length_le_of_subset nodup_dd fun _ h => mem_dd.mp h
/-- where the images of the first appearances are as many as these, members of one image are one -/
theorem inj_of_dd {xs : List α} {g : α → β} (h : (dd xs).length ≤ (dd (xs.map g)).length) {x y : α} (hx : x ∈ xs) (hy : y ∈ xs) (e : g x = g y) : x = y := by
  refine Decidable.byContradiction fun ne => ?_
  have : (dd (xs.map g)).length ≤ (((dd xs).erase x).map g).length := length_le_of_subset nodup_dd fun z hz => by
    rw [mem_dd] at hz
    obtain ⟨w, hw, rfl⟩ := List.mem_map.mp hz
    by_cases hwx : w = x
    · subst hwx
      rw [e]
      exact List.mem_map_of_mem (by rw [List.mem_erase_of_ne (Ne.symm ne)]; exact mem_dd.mpr hy)
    · exact List.mem_map_of_mem (by rw [List.mem_erase_of_ne hwx]; exact mem_dd.mpr hw)
  rw [List.length_map, List.length_erase_of_mem (mem_dd.mpr hx)] at this
  have := List.length_pos_of_mem (mem_dd.mpr hx)
  omega
theorem idx_inj {xs : List α} {x y : α} (hx : x ∈ xs) (hy : y ∈ xs) (e : idx xs x = idx xs y) : x = y := by
  have h1 := idx_get hx
  have h2 := idx_get hy
  rw [← h1, ← h2]
  simp only [e]
theorem dd_map_len {xs : List α} {g : α → β} (h : ∀ x ∈ xs, ∀ y ∈ xs, g x = g y → x = y) : (dd (xs.map g)).length = (dd xs).length := by
  apply Nat.le_antisymm
  · have : (dd (xs.map g)).length ≤ ((dd xs).map g).length := length_le_of_subset nodup_dd fun z hz => by
      obtain ⟨w, hw, rfl⟩ := List.mem_map.mp (mem_dd.mp hz)
      exact List.mem_map_of_mem (mem_dd.mpr hw)
    simpa using this
  · have : ((dd xs).map g).length ≤ (dd (xs.map g)).length := by
      refine length_le_of_subset ?_ fun z hz => ?_
      · rw [List.nodup_iff_pairwise_ne, List.pairwise_map]
        exact (nodup_dd (xs := xs)).imp_of_mem fun ha hb ne e => ne (h _ (mem_dd.mp ha) _ (mem_dd.mp hb) e)
      · obtain ⟨w, hw, rfl⟩ := List.mem_map.mp hz
        exact mem_dd.mpr (List.mem_map_of_mem (mem_dd.mp hw))
    simpa using this
/-- numbers as things first appear -/
def numer : List α → List α → List Nat
  | _, [] => []
  | kn, x :: xs => if x ∈ kn then idx kn x :: numer kn xs else kn.length :: numer (kn ++ [x]) xs
theorem ddFrom_pre : ∀ {xs kn : List α}, ∃ r, ddFrom kn xs = kn ++ r
  | [], kn => ⟨[], by simp [ddFrom]⟩
  | x :: xs, kn => by
    unfold ddFrom
    split
    · exact ddFrom_pre
    · obtain ⟨r, h⟩ := ddFrom_pre (xs := xs) (kn := kn ++ [x])
      exact ⟨x :: r, by rw [h]; simp⟩
theorem numer_eq : ∀ {xs kn : List α}, numer kn xs = xs.map fun x => idx (ddFrom kn xs) x
  | [], kn => rfl
  | x :: xs, kn => by
    unfold numer ddFrom
    split
    · rename_i h
      rw [numer_eq, List.map_cons]
      obtain ⟨r, e⟩ := ddFrom_pre (xs := xs) (kn := kn)
      congr 1
      rw [e, idx_append_mem h]
    · rename_i h
      rw [numer_eq, List.map_cons]
      obtain ⟨r, e⟩ := ddFrom_pre (xs := xs) (kn := kn ++ [x])
      congr 1
      rw [e, List.append_assoc, idx_append_not h]
      simp [idx]
end dd

section
variable {α : Type} [DecidableEq α]
theorem ddFrom_snoc : ∀ {xs kn : List α} {x : α}, ddFrom kn (xs ++ [x]) = if x ∈ ddFrom kn xs then ddFrom kn xs else ddFrom kn xs ++ [x]
  | [], kn, x => by
    simp only [List.nil_append, ddFrom]
    split <;> rename_i h <;> simp [h]
  | y :: ys, kn, x => by
    rw [List.cons_append]
    by_cases h : y ∈ kn
    · simp only [ddFrom, if_pos h]; exact ddFrom_snoc
    · simp only [ddFrom, if_neg h]; exact ddFrom_snoc
theorem dd_snoc {xs : List α} {x : α} : dd (xs ++ [x]) = if x ∈ dd xs then dd xs else dd xs ++ [x] := ddFrom_snoc
theorem numer_snoc : ∀ {xs kn : List α} {x : α}, numer kn (xs ++ [x]) = numer kn xs ++ [if x ∈ ddFrom kn xs then idx (ddFrom kn xs) x else (ddFrom kn xs).length]
  | [], kn, x => by
    simp only [List.nil_append, numer, ddFrom]
    split <;> rename_i h <;> simp [h]
  | y :: ys, kn, x => by
    rw [List.cons_append]
    by_cases h : y ∈ kn
    · simp only [numer, ddFrom, if_pos h, List.cons_append]; rw [numer_snoc]
    · simp only [numer, ddFrom, if_neg h, List.cons_append]; rw [numer_snoc]
theorem numer_len : ∀ {xs kn : List α}, (numer kn xs).length = xs.length
  | [], _ => rfl
  | x :: xs, kn => by
    unfold numer
    split <;> simp [numer_len]
theorem dd_numer {xs : List α} : (dd (numer [] xs)).length = (dd xs).length := by
  rw [numer_eq]
  refine dd_map_len fun x hx y hy e => ?_
  exact idx_inj (mem_dd.mpr hx) (mem_dd.mpr hy) e
theorem dd_idx {xs : List α} : (dd (xs.map fun x => idx xs x)).length = (dd xs).length := dd_map_len fun x hx y hy e => idx_inj hx hy e
end
/-! ### dicts whose keys are of one written sort -/
section dct
variable {κ : Type} [DecidableEq κ] {enc : κ → D}
structure KEnc (enc : κ → D) : Prop where
  eqv : ∀ a b, PyData.eqv (enc a) (enc b) = decide (a = b)
  ok : (∀ a, flatK (enc a) = true) ∨ ∀ a, tupK (enc a) = true
def dmap (enc : κ → D) (l : List (κ × D)) : List (D × D) := l.map fun p => (enc p.1, p.2)
def aget : List (κ × D) → κ → Option D
  | [], _ => none
  | (k, v) :: r, x => if k = x then some v else aget r x
def aset : List (κ × D) → κ → D → List (κ × D)
  | [], x, y => [(x, y)]
  | (k, v) :: r, x, y => if k = x then (k, y) :: r else (k, v) :: aset r x y
theorem dget_dmap (K : KEnc enc) : ∀ (l : List (κ × D)) (x : κ), dget (dmap enc l) (enc x) = aget l x
  | [], _ => rfl
  | (k, v) :: r, x => by
    have := dget_dmap K r x
    simp only [dmap, List.map_cons, dget, aget, K.eqv] at this ⊢
    rw [this]
    by_cases h : k = x <;> simp [h]
theorem dset_dmap (K : KEnc enc) : ∀ (l : List (κ × D)) (x : κ) (y : D), dset (dmap enc l) (enc x) y = dmap enc (aset l x y)
  | [], _, _ => rfl
  | (k, v) :: r, x, y => by
    have := dset_dmap K r x y
    simp only [dmap, List.map_cons, dset, aset, K.eqv] at this ⊢
    rw [this]
    by_cases h : k = x <;> simp [h]
theorem okK_dmap (K : KEnc enc) (l : List (κ × D)) (x : κ) : okK (dmap enc l) (enc x) = true := by
  unfold okK dmap
  rcases K.ok with h | h <;> simp [h]
theorem lenB_dmap (K : KEnc enc) (l : List (κ × D)) : lenB [.dict (dmap enc l)] = some (.int l.length) := by
  unfold lenB dmap
  rcases K.ok with h | h <;> simp [h]
def asetAll (l m : List (κ × D)) : List (κ × D) := m.foldl (fun l p => aset l p.1 p.2) l
theorem dsetAll_dmap (K : KEnc enc) : ∀ (m l : List (κ × D)), dsetAll (dmap enc l) (dmap enc m) = some (dmap enc (asetAll l m))
  | [], _ => rfl
  | (k, v) :: r, l => by
    show dsetAll (dmap enc l) ((enc k, v) :: dmap enc r) = _
    rw [dsetAll, okK_dmap K, if_pos rfl, dset_dmap K, dsetAll_dmap K r]
    rfl
theorem pairsD_map {α : Type} (k v : α → D) : ∀ xs : List α, pairsD (xs.map fun x => PyData.tuple [k x, v x]) = some (xs.map fun x => (k x, v x))
  | [] => rfl
  | x :: xs => by rw [List.map_cons, pairsD, pairsD_map]; rfl
theorem aget_mem {l : List (κ × D)} {x : κ} {v : D} (nd : (l.map (·.1)).Nodup) (h : (x, v) ∈ l) : aget l x = some v := by
  induction l with
  | nil => simp at h
  | cons p l ih =>
    obtain ⟨k, w⟩ := p
    simp only [List.map_cons, List.nodup_cons] at nd
    unfold aget
    rcases List.mem_cons.mp h with e | h
    · cases e; simp
    · rw [if_neg, ih nd.2 h]
      intro e
      subst e
      exact nd.1 (List.mem_map_of_mem (f := (·.1)) h)
theorem aget_none {l : List (κ × D)} {x : κ} (h : x ∉ l.map (·.1)) : aget l x = none := by
  induction l with
  | nil => rfl
  | cons p l ih =>
    obtain ⟨k, w⟩ := p
    simp only [List.map_cons, List.mem_cons, not_or] at h
    unfold aget
    rw [if_neg (fun e => h.1 e.symm), ih h.2]
theorem aset_new {l : List (κ × D)} {x : κ} {v : D} (h : x ∉ l.map (·.1)) : aset l x v = l ++ [(x, v)] := by
  induction l with
  | nil => rfl
  | cons p l ih =>
    obtain ⟨k, w⟩ := p
    simp only [List.map_cons, List.mem_cons, not_or] at h
    unfold aset
    rw [if_neg (fun e => h.1 e.symm), ih h.2]
    rfl
theorem asetAll_nodup : ∀ {m l : List (κ × D)}, ((l ++ m).map (·.1)).Nodup → asetAll l m = l ++ m
  | [], l, _ => by simp [asetAll]
  | (k, v) :: r, l, h => by
    have hk : k ∉ l.map (·.1) := by
      simp only [List.map_append, List.map_cons, List.nodup_append] at h
      intro z
      exact h.2.2 k z k (by simp) rfl
    show asetAll (aset l k v) r = _
    rw [aset_new hk, asetAll_nodup] <;> simp at h ⊢
    exact h
/-- a dict of pairs whose keys are told once -/
theorem dictB_nodup (K : KEnc enc) {α : Type} (k : α → κ) (v : α → D) (xs : List α) (nd : (xs.map k).Nodup) : (pairsD (xs.map fun x => PyData.tuple [enc (k x), v x])).bind (fun ps => (dsetAll [] ps).map PyData.dict) = some (.dict (dmap enc (xs.map fun x => (k x, v x)))) := by
  rw [pairsD_map, Option.bind_some]
  have := dsetAll_dmap K (xs.map fun x => (k x, v x)) []
  rw [asetAll_nodup (by rw [List.nil_append, List.map_map]; exact nd)] at this
  simp only [dmap, List.map_nil, List.map_map, List.nil_append] at this ⊢
  rw [show (xs.map fun x => (enc (k x), v x)) = List.map ((fun p => (enc p.1, p.2)) ∘ fun x => (k x, v x)) xs from rfl, this]
  rfl
end dct

/-! ### what may be compared -/
def Sh (k : Nat) (d : D) : Prop := d.canLay0 = true ∧ d.depth ≤ k
theorem Sh.int {k : Nat} {i : Int} : Sh k (.int i) := ⟨rfl, Nat.zero_le _⟩
theorem Sh.bool {k : Nat} {i : Bool} : Sh k (.bool i) := ⟨rfl, Nat.zero_le _⟩
theorem Sh.none {k : Nat} : Sh k .none := ⟨rfl, Nat.zero_le _⟩
theorem Sh.all {k : Nat} : ∀ {xs : List D}, (∀ x ∈ xs, Sh k x) → PyData.canLayAll0 xs = true ∧ PyData.depthAll xs ≤ k
  | [], _ => ⟨rfl, Nat.zero_le _⟩
  | x :: xs, h => by
    have h1 := h x (by simp)
    have h2 := Sh.all (xs := xs) fun y hy => h y (by simp [hy])
    refine ⟨by rw [PyData.canLayAll0, h1.1, h2.1]; rfl, ?_⟩
    rw [PyData.depthAll]
    exact Nat.max_le.mpr ⟨h1.2, h2.2⟩
theorem Sh.tup {k : Nat} {xs : List D} (h : ∀ x ∈ xs, Sh k x) : Sh (k + 1) (.tuple xs) := by
  have := Sh.all h
  exact ⟨by simpa [PyData.canLay0] using this.1, by simpa [PyData.depth] using this.2⟩
theorem Sh.lst {k : Nat} {xs : List D} (h : ∀ x ∈ xs, Sh k x) : Sh (k + 1) (.list xs) := by
  have := Sh.all h
  exact ⟨by simpa [PyData.canLay0] using this.1, by simpa [PyData.depth] using this.2⟩
theorem Sh.ok {k : Nat} {d : D} (h : Sh k d) (hk : k ≤ 64) : SeqAt.shaped d = true := by
  unfold SeqAt.shaped
  simp [h.1]
  exact Nat.le_trans h.2 hk
theorem Sh.mono {j k : Nat} {d : D} (h : Sh j d) (hk : j ≤ k) : Sh k d := ⟨h.1, Nat.le_trans h.2 hk⟩
theorem eqv_tup {xs ys : List D} : PyData.eqv (.tuple xs) (.tuple ys) = PyData.eqvAll xs ys := by rw [PyData.eqv]
theorem eqv_lst {xs ys : List D} : PyData.eqv (.list xs) (.list ys) = PyData.eqvAll xs ys := by rw [PyData.eqv]
theorem eqv_int {i j : Int} : PyData.eqv (.int i) (.int j) = decide (i = j) := by
  rw [PyData.eqv]
  by_cases h : i = j <;> simp [h]
theorem eqvAll_cons {x y : D} {xs ys : List D} : PyData.eqvAll (x :: xs) (y :: ys) = (PyData.eqv x y && PyData.eqvAll xs ys) := by rw [PyData.eqvAll]
theorem eqvAll_map {α : Type} [DecidableEq α] {enc : α → D} (h : ∀ a b, PyData.eqv (enc a) (enc b) = decide (a = b)) : ∀ xs ys : List α, PyData.eqvAll (xs.map enc) (ys.map enc) = decide (xs = ys)
  | [], [] => rfl
  | [], _ :: _ => rfl
  | _ :: _, [] => rfl
  | x :: xs, y :: ys => by
    rw [List.map_cons, List.map_cons, eqvAll_cons, h, eqvAll_map h]
    by_cases h1 : x = y <;> by_cases h2 : xs = ys <;> simp [h1, h2]
theorem eqvAll_len : ∀ {xs ys : List D}, xs.length ≠ ys.length → PyData.eqvAll xs ys = false
  | [], [], h => absurd rfl h
  | [], _ :: _, _ => rfl
  | _ :: _, [], _ => rfl
  | x :: xs, y :: ys, h => by
    rw [eqvAll_cons, eqvAll_len (xs := xs) (ys := ys) (by simpa using h), Bool.and_false]
theorem indexD_map {α : Type} [DecidableEq α] {enc : α → D} (h : ∀ a b, PyData.eqv (enc a) (enc b) = decide (a = b)) : ∀ (xs : List α) (x : α) (n : Nat), x ∈ xs → indexD (xs.map enc) (enc x) n = some (.int ((n + idx xs x : Nat) : Int))
  | [], x, n, hx => by simp at hx
  | y :: ys, x, n, hx => by
    rw [List.map_cons, indexD, h]
    by_cases e : y = x
    · subst e; simp [idx]
    · have hx : x ∈ ys := by simpa [Ne.symm e] using hx
      simp only [e, decide_false, Bool.false_eq_true, if_false]
      rw [indexD_map h ys x (n + 1) hx, idx, if_neg e]
      congr 2
      omega
theorem any_map {α : Type} [DecidableEq α] {enc : α → D} (h : ∀ a b, PyData.eqv (enc a) (enc b) = decide (a = b)) (xs : List α) (x : α) : ((xs.map enc).any fun z => PyData.eqv z (enc x)) = decide (x ∈ xs) := by
  rw [List.any_map]
  apply Bool.eq_iff_iff.mpr
  simp [h]
end Ev
set_option linter.all false
set_option Elab.async false
set_option maxRecDepth 100000
set_option maxHeartbeats 1000000
/-! EvPk: the laws' random source: the next number. -/
namespace EvS
open PySem PySem.Spec PyProof.Rows L2 EvK
open Ev (D E S Tgt Ste Src getS Calls evSs startS runFn Ctl drain pickS pick)
section
variable {c : Ct} {H : Hp} {s : Src}
theorem SrcOk.cells (h : SrcOk c s H) : DGet H c.aS (.str "cells") (some (.ref c.aC)) := DGet.k (k := .inr "cells") h.1
theorem SrcOk.left (h : SrcOk c s H) : DGet H c.aS (.str "left") (some (.int s.left)) := DGet.k (k := .inr "left") h.1
theorem SrcOk.mixed (h : SrcOk c s H) : DGet H c.aS (.str "mixed") (some (.int s.mixed)) := DGet.k (k := .inr "mixed") h.1
theorem SrcOk.turn (h : SrcOk c s H) : DGet H c.aS (.str "turn") (some (.int s.turn)) := DGet.k (k := .inr "turn") h.1
/-- nothing but the source is changed -/
def SrcSame (c : Ct) (H H' : Hp) : Prop := ∀ a, a ≠ c.aS → a ≠ c.aC → H' a = H a
theorem SrcOk.putLeft (h : SrcOk c s H) (n : c.aS ≠ c.aC) (v : Int) : ∃ H', DPut H c.aS (.str "left") (.int v) H' ∧ SrcOk c { s with left := v } H' ∧ SrcSame c H H' :=
  ⟨_, DPut.k (k := .inr "left") h.1 (by simp [sizeLine_eq]), ⟨upd_same, (upd_ne n.symm).trans h.2⟩, fun a h1 _ => upd_ne h1⟩
theorem SrcOk.putMixed (h : SrcOk c s H) (n : c.aS ≠ c.aC) (v : Int) : ∃ H', DPut H c.aS (.str "mixed") (.int v) H' ∧ SrcOk c { s with mixed := v } H' ∧ SrcSame c H H' :=
  ⟨_, DPut.k (k := .inr "mixed") h.1 (by simp [sizeLine_eq]), ⟨upd_same, (upd_ne n.symm).trans h.2⟩, fun a h1 _ => upd_ne h1⟩
theorem SrcOk.putTurn (h : SrcOk c s H) (n : c.aS ≠ c.aC) (v : Int) : ∃ H', DPut H c.aS (.str "turn") (.int v) H' ∧ SrcOk c { s with turn := v } H' ∧ SrcSame c H H' :=
  ⟨_, DPut.k (k := .inr "turn") h.1 (by simp [sizeLine_eq]), ⟨upd_same, (upd_ne n.symm).trans h.2⟩, fun a h1 _ => upd_ne h1⟩
theorem SrcSame.trans {H1 H2 : Hp} (a : SrcSame c H H1) (b : SrcSame c H1 H2) : SrcSame c H H2 := fun x h1 h2 => (b x h1 h2).trans (a x h1 h2)
theorem Rel.srcTo {g : Gh} {H' : Hp} {s' : Src} (R : Rel c g [] ⟨[], s⟩ [] [] H) (hs : c.hs = true) (h : SrcOk c s' H') (e : SrcSame c H H') : Rel c g [] ⟨[], s'⟩ [] [] H' := by
  obtain ⟨h0, h1, h2, h3, h4, h5, h6, h7⟩ := R.src hs
  refine ⟨fun a x z => ?_, fun a x z => ?_, R.ff, R.fb, rfl, fun i d z => by simp [getS] at z, fun j t z => by simp at z, fun a o z => ?_, fun _ => ⟨h, h1, h2, h3, h4, h5, h6, h7⟩⟩
  · rw [e a (fun q => by rw [q, h2] at z; cases z) (fun q => by rw [q, h3] at z; cases z)]
    exact R.fh a x z
  · rw [e a (fun q => by rw [q, h4] at z; cases z) (fun q => by rw [q, h5] at z; cases z)]
    exact R.bh a x z
  · obtain ⟨q1, q2, q3⟩ := R.ow a o z
    exact ⟨q1, q2, by rw [e a (fun q => by rw [q, h6] at z; cases z) (fun q => by rw [q, h7] at z; cases z)]; exact q3⟩
end
abbrev sPick : Stmt := PySem.Challenge.pw_touchingtiles_k48_pieces_counted.main.body.getD 16 (.Pass ⟨0, 0, 0, 0⟩)
theorem scPick : FnScope ["source", "many", "left", "mixed"] ["source", "many"] (defScope sPick) := ⟨rfl, rfl, rfl, by decide +kernel, rfl, by decide +kernel, by decide +kernel⟩
section
variable {X : Cx} {u : Unit}
def tSrc (k : Str) : TE := tDGet (tVar 0) (tC (.str k))
theorem pe_src (hu : X.A.units + 1 < cLine) {x : Str} {k : Str} {p pos q : Pos} {j : Nat} (h : PE X (.Name x p) (tVar 0)) : PE X (.Subscript (.Name x p) (.Constant (.str k) j q) pos) (tSrc k) := pe_dget hu h pe_str (fun _ _ => rfl)
end
theorem tSeq_intro {t u : TS} {D : Ends} {σ : L2.St} {H : Hp} (P : L2.St → Hp → Prop) (h : ∀ nx, (∀ σ H, P σ H → nx σ H) → t { D with nx := nx } σ H) (hu : ∀ σ H, P σ H → u D σ H) : tSeq t u D σ H := h (u D) hu
theorem tIfS_intro {c : TT} {t u : TS} {D : Ends} {σ : L2.St} {H : Hp} (p : Prop) (hc : ∀ Q : Bool → Hp → Prop, (p → Q true H) → (¬ p → Q false H) → c σ H Q) (h1 : p → t D σ H) (h2 : ¬ p → u D σ H) : tIfS c t u D σ H := by
  refine hc _ (fun hp => ?_) fun hp => ?_
  · show (if true = true then t D σ H else u D σ H)
    rw [if_pos rfl]
    exact h1 hp
  · show (if false = true then t D σ H else u D σ H)
    rw [if_neg (by decide)]
    exact h2 hp
theorem tSeq_set {te : TE} {i : Nat} {u : TS} {D : Ends} {σ : L2.St} {H : Hp} (h : te σ H fun x H1 => u D (σ.set i (some x)) H1) : tSeq (tAsg te (gName i)) u D σ H := h
theorem tSeq_if {c : TT} {t t' u : TS} {D : Ends} {σ : L2.St} {H : Hp} (h : tIfS c t t' { D with nx := u D } σ H) : tSeq (tIfS c t t') u D σ H := h
theorem drain_stop {many : Int} {n : Nat} {s : Src} (h : ¬ (1 < many ∧ s.left < 2)) : drain many n s = s := by
  cases n with
  | zero => rfl
  | succ n => simp only [drain, if_neg h]
theorem ok_pick {P : Program} {w : World} {K : PySem.W.Frag} {mg : Str → Option Value} {base : Heap} {f : Addr} {fd : FuncData} {k : Nat} {Γ : Calls} (F : Fun K "_law_pick" "_law_pick" sPick f fd) (ml : mg "len" = none) (mm : mg "max" = none) (mi : mg "int" = none) (hΓ : ∀ ds s, Γ "_law_pick" ds s = pick ds s) :
    FnG P w K mg base (k + 1) f fd ["source", "many"] (spF P w K Γ "_law_pick" true .fz 2) := by
  refine FnG.of F scPick (fun vs H Q E ⟨_, _, _, _, _, _, _, _, _, _, _, _, hl, _⟩ => hl) fun cdv A outer s H vs Q E hg hro hsp => ?_
  obtain ⟨c', s0, vs', ds, d, s', hP, hw, hK, hhs, R, hv, hl, hf, ev, q⟩ := hsp
  subst hP; subst hw; subst hK
  have hu : (A.deeper (envOfC "_law_pick" (defScope sPick) s.heap.objs.size f cdv)).units + 1 < cLine := by have := hro.un; omega
  have hu' : (cxOf CX0 c'.P c'.w c'.K mg base ["source", "many", "left", "mixed"] "_law_pick" (defScope sPick) f cdv A outer s H E).nox.A.units + 1 < cLine := hu
  refine ⟨_, pss_cons (ps_while PassesOwn.never (PW.pt (pw_and (pt_cmp (pc_gt (pv 1) pe_int)) (pw_and (pt_cmp (pc_lt (pe_src hu' (pv 0)) pe_int)) (pw_and1 (pt_cmp (pc_gt (pe_callB call_len_seq (by rfl) ml PySem.boot_len (pa_cons (pe_src hu' (pv 0)) pa_nil)) pe_int))))))
        (pss_one (ps_dput hu' (pv 0) pe_str (pe_m0 PySem.F.plainAttrs_list PySem.F.slot_list_pop PySem.F.type_list_pop mt_pop (pe_src hu' (pv 0)) rfl rfl) (sw_notComp rfl))))
      (pss_cons (ps_set (i := 2) scPick.nd rfl (.inl rfl) (pe_src hu' (pv 0)))
      (pss_cons (ps_if (PW.pt (pw_or (pt_cmp (pc_lt (pv 1) pe_int)) (pw_or1 (pt_cmp (pc_gt (pv 2) pe_int)))))
        (pss_cons (ps_dput hu' (pv 0) pe_str (pe_op op_fdiv (pv 2) (pe_callB (call_max2 rfl) (by rfl) mm (by decide +kernel) (pa_cons pe_int (pa_cons (pv 1) pa_nil)))) (sw_notComp rfl))
          (pss_one (ps_ret (pe_op op_mod (pe_callTy call_int1 (by rfl) mi PySem.Pv.boot_int (pa_cons (pv 2) pa_nil)) (pe_callB (call_max2 rfl) (by rfl) mm (by decide +kernel) (pa_cons pe_int (pa_cons (pv 1) pa_nil))))))) pss_nil)
      (pss_cons (ps_dput hu' (pv 0) pe_str (pe_op op_add (pe_src hu' (pv 0)) pe_int) (sw_notComp rfl))
      (pss_cons (ps_set (i := 3) scPick.nd rfl (.inl rfl) (pe_op op_mod (pe_callTy call_int1 (by rfl) mi PySem.Pv.boot_int (pa_cons (pe_op op_add (pe_src hu' (pv 0)) (pe_op op_mul (pe_src hu' (pv 0)) pe_int)) pa_nil)) pe_int))
      (pss_cons (ps_set (i := 3) scPick.nd rfl (.inl rfl) (pe_op op_mod (pe_callTy call_int1 (by rfl) mi PySem.Pv.boot_int (pa_cons (pe_op op_add (pe_op op_mul (pv 3) (pv 3)) (pe_op op_mul (pe_src hu' (pv 0)) pe_int)) pa_nil)) pe_int))
      (pss_cons (ps_dput hu' (pv 0) pe_str (pv 3) (sw_notComp rfl))
      (pss_one (ps_ret (pe_op op_mod (pe_callTy call_int1 (by rfl) mi PySem.Pv.boot_int (pa_cons (pe_op op_fdiv (pv 3) pe_int) pa_nil)) (pv 1)))))))))), ?_⟩
  rw [hΓ] at ev
  have e0 : (if true = true then s0 else ({} : Src)) = s0 := rfl
  rw [e0] at ev
  obtain ⟨many, rfl, hm, rfl, rfl⟩ : ∃ many, ds = [.int many] ∧ many < 1073741824 ∧ d = .int (pickS many s0).1 ∧ s' = (pickS many s0).2 := by
    unfold pick at ev
    split at ev
    · split at ev
      · cases ev
        exact ⟨_, rfl, ‹_›, rfl, rfl⟩
      · cases ev
    · cases ev
  obtain rfl : vs' = [.int many] := by
    cases hf with
    | cons h t =>
      cases t
      cases h
      rfl
  subst hv
  obtain ⟨hs, ne, _⟩ := R.src hhs
  have fin : ∀ {H' : Hp}, SrcOk c' (pickS many s0).2 H' → SrcSame c' H H' → Q (.int (pickS many s0).1) H' := fun {H'} h1 h2 => q _ [] ⟨[], _⟩ [] H' _ ((R.srcTo hhs h1 h2).push (.int _)) rfl
  clear q
  have mxe : (if many > 1 then many else 1) = max 1 many := by split <;> omega
  refine tSeq_intro (fun σ H1 => ∃ s1, σ = [some (.ref c'.aS), some (.int many), none, none] ∧ SrcOk c' s1 H1 ∧ SrcSame c' H H1 ∧ s1 = drain many s0.cells.length s0) (fun nx hn => ?_) fun σ H1 hP => ?_
  · refine ⟨fun m σ H1 => ∃ s1, σ = [some (.ref c'.aS), some (.int many), none, none] ∧ SrcOk c' s1 H1 ∧ SrcSame c' H H1 ∧ s1.cells.length = m ∧ drain many m s1 = drain many s0.cells.length s0, ⟨_, s0, rfl, hs, fun _ _ _ => rfl, rfl, rfl⟩, fun m σ H1 hW => ?_⟩
    obtain ⟨s1, rfl, h1, sm, hl1, hd⟩ := hW
    refine ⟨.int many, rfl, many, 1, rfl, rfl, _, rfl, ite2 (fun c1 => ?_) fun c1 => ?_⟩
    · refine ⟨.ref c'.aS, rfl, c'.aS, _, rfl, h1.left, s1.left, 2, rfl, rfl, _, rfl, ite2 (fun c2 => ?_) fun c2 => ?_⟩
      · refine ⟨.ref c'.aS, rfl, c'.aS, _, rfl, h1.cells, c'.aC, s1.cells.map V.int, rfl, .inl (.inl (.inl h1.2)), _, 0, rfl, rfl, _, rfl, ite2 (fun c3 => ?_) fun c3 => ?_⟩
        · have c3 := of_decide_eq_true c3
          rw [List.length_map] at c3
          obtain ⟨n, rfl⟩ : ∃ n, m = n + 1 := ⟨m - 1, by omega⟩
          have hlt : s1.cells.length - 1 < s1.cells.length := by omega
          have hx : s1.cells[s1.cells.length - 1]? = some s1.cells[s1.cells.length - 1] := List.getElem?_eq_getElem hlt
          have h2 : SrcOk c' { s1 with cells := s1.cells.dropLast } (upd H1 c'.aC (.lst (s1.cells.map V.int).dropLast)) := ⟨(upd_ne ne).trans h1.1, by rw [upd_same, List.map_dropLast]⟩
          obtain ⟨H4, p4, h4, sm4⟩ := h2.putLeft ne s1.cells[s1.cells.length - 1]
          rw [drain, if_pos ⟨of_decide_eq_true c1, of_decide_eq_true c2⟩, hx] at hd
          refine ⟨fun σ' H' => ∃ s2, σ' = [some (.ref c'.aS), some (.int many), none, none] ∧ SrcOk c' s2 H' ∧ SrcSame c' H H' ∧ s2.cells.length = n ∧ drain many n s2 = drain many s0.cells.length s0, fun σ' H' ⟨s2, e1, e2, e3, e4, e5⟩ => ⟨n, by omega, s2, e1, e2, e3, e4, e5⟩, ?_⟩
          refine ⟨.ref c'.aS, rfl, c'.aS, .ref c'.aC, rfl, h1.cells, fun pins s σ' u I r => tyV_is I r (.inl ⟨rfl, _, .inl (.inl h1.2)⟩), c'.aC, _, .int s1.cells[s1.cells.length - 1], rfl, rfl, h1.2, by rw [List.getElem?_map, List.length_map, hx]; rfl, .ref c'.aS, rfl, c'.aS, H4, rfl, p4, _, rfl, h4, ?_, ?_, hd⟩
          · exact (sm.trans fun a _ h => upd_ne h).trans sm4
          · show s1.cells.dropLast.length = n
            rw [List.length_dropLast]
            omega
        · have c3' : ¬ (0 : Int) < ((s1.cells.map V.int).length : Int) := fun z => c3 (decide_eq_true z)
          rw [List.length_map] at c3'
          have hm0 : m = 0 := by omega
          subst hm0
          exact hn _ _ ⟨s1, rfl, h1, sm, hd⟩
      · refine ite2 (fun z => absurd z (by decide)) fun _ => hn _ _ ⟨s1, rfl, h1, sm, ?_⟩
        rw [← hd]
        exact (drain_stop fun z => c2 (decide_eq_true z.2)).symm
    · refine ite2 (fun z => absurd z (by decide)) fun _ => hn _ _ ⟨s1, rfl, h1, sm, ?_⟩
      rw [← hd]
      exact (drain_stop fun z => c1 (decide_eq_true z.1)).symm
  · obtain ⟨s1, rfl, h1, sm, hd⟩ := hP
    refine tSeq_set ⟨.ref c'.aS, rfl, c'.aS, .int s1.left, rfl, h1.left, ?_⟩
    refine tSeq_if (tIfS_intro (many < 2 ∨ 1 < s1.left) (fun Q' q1 q2 => ?_) (fun hy => ?_) fun hy => ?_)
    · refine ⟨.int many, rfl, many, 2, rfl, rfl, _, rfl, ite2 (fun c1 => q1 (.inl (of_decide_eq_true c1))) fun c1 => ?_⟩
      refine ⟨.int s1.left, rfl, s1.left, 1, rfl, rfl, decide (1 < s1.left), rfl, ?_⟩
      by_cases c2 : 1 < s1.left
      · rw [decide_eq_true c2]
        exact q1 (.inr c2)
      · rw [decide_eq_false c2]
        exact q2 fun z => z.elim (fun z => c1 (decide_eq_true z)) c2
    · obtain ⟨H4, p4, h4, sm4⟩ := h1.putLeft ne (s1.left / (if many > 1 then many else 1))
      have pos : 0 < (if many > 1 then many else 1) := by split <;> omega
      have lt : (if many > 1 then many else 1) < 1073741824 := by split <;> omega
      have e : pickS many s0 = (s1.left % max 1 many, { s1 with left := s1.left / max 1 many }) := by
        unfold pickS
        simp only [← hd, if_pos hy]
      refine ⟨.int s1.left, rfl, .int many, rfl, 1, many, rfl, s1.left, _, rfl, rfl, ⟨pos, lt⟩, .ref c'.aS, rfl, c'.aS, H4, rfl, p4, ?_⟩
      refine ⟨.int s1.left, rfl, .inl ⟨s1.left, rfl, .int many, rfl, 1, many, rfl, s1.left, _, rfl, rfl, pos, ?_⟩⟩
      have f := fin (H' := H4) (by rw [e, ← mxe]; exact h4) (sm.trans sm4)
      rw [e, ← mxe] at f
      exact f
    · obtain ⟨H2, p2, h2, sm2⟩ := h1.putTurn ne (s1.turn + 1)
      obtain ⟨H3, p3, h3, sm3⟩ := h2.putMixed ne (((s1.mixed + (s1.turn + 1) * 104729) % 998244353 * ((s1.mixed + (s1.turn + 1) * 104729) % 998244353) + (s1.turn + 1) * 17) % 2147483647)
      have hb1 : (0 : Int) ≤ (s1.mixed + (s1.turn + 1) * 104729) % 998244353 := by omega
      have hb2 : (s1.mixed + (s1.turn + 1) * 104729) % 998244353 < 998244353 := by omega
      have e : pickS many s0 = ((((s1.mixed + (s1.turn + 1) * 104729) % 998244353 * ((s1.mixed + (s1.turn + 1) * 104729) % 998244353) + (s1.turn + 1) * 17) % 2147483647 / 16) % many,
          { s1 with turn := s1.turn + 1, mixed := ((s1.mixed + (s1.turn + 1) * 104729) % 998244353 * ((s1.mixed + (s1.turn + 1) * 104729) % 998244353) + (s1.turn + 1) * 17) % 2147483647 }) := by
        unfold pickS
        simp only [← hd, if_neg hy]
      have pos : 0 < many := by omega
      refine ⟨.ref c'.aS, rfl, c'.aS, .int s1.turn, rfl, h1.turn, s1.turn, 1, rfl, rfl, .ref c'.aS, rfl, c'.aS, H2, rfl, p2, ?_⟩
      refine ⟨.ref c'.aS, rfl, c'.aS, .int s1.mixed, rfl, h2.mixed, .ref c'.aS, rfl, c'.aS, .int (s1.turn + 1), rfl, h2.turn, s1.turn + 1, 104729, rfl, rfl, .inr ⟨by decide, by decide⟩, s1.mixed, _, rfl, rfl, .inl ⟨_, rfl, _, 998244353, rfl, rfl, (by show (0 : Int) < 998244353; decide), ?_⟩⟩
      refine ⟨.int ((s1.mixed + (s1.turn + 1) * 104729) % 998244353), rfl, .int ((s1.mixed + (s1.turn + 1) * 104729) % 998244353), rfl, _, _, rfl, rfl, .inl ⟨by omega, by omega⟩, .ref c'.aS, rfl, c'.aS, .int (s1.turn + 1), rfl, h2.turn, s1.turn + 1, 17, rfl, rfl, .inr ⟨by decide, by decide⟩, _, _, rfl, rfl, .inl ⟨_, rfl, _, 2147483647, rfl, rfl, (by show (0 : Int) < 2147483647; decide), ?_⟩⟩
      refine ⟨.int (((s1.mixed + (s1.turn + 1) * 104729) % 998244353 * ((s1.mixed + (s1.turn + 1) * 104729) % 998244353) + (s1.turn + 1) * 17) % 2147483647), rfl, .ref c'.aS, rfl, c'.aS, H3, rfl, p3, ?_⟩
      refine ⟨.int (((s1.mixed + (s1.turn + 1) * 104729) % 998244353 * ((s1.mixed + (s1.turn + 1) * 104729) % 998244353) + (s1.turn + 1) * 17) % 2147483647), rfl, _, 16, rfl, rfl, ⟨by decide, by decide⟩, .inl ⟨_, rfl, .int many, rfl, _, many, rfl, rfl, pos, ?_⟩⟩
      have f := fin (H' := H3) (by rw [e]; exact h3) ((sm.trans sm2).trans sm3)
      rw [e] at f
      exact f
end EvS
set_option linter.all false
set_option Elab.async false
set_option maxRecDepth 100000
set_option maxHeartbeats 1000000
/-! EvSr: the laws' random source: how it is made. -/
namespace EvS
open PySem PySem.Spec PyProof.Rows L2 EvK
open Ev (D E S Tgt Ste Src getS Calls mixOf absI srcOf)
abbrev sSource : Stmt := PySem.Challenge.pw_touchingtiles_k48_pieces_counted.main.body.getD 15 (.Pass ⟨0, 0, 0, 0⟩)
theorem scSource : FnScope ["script", "mixed", "cell"] ["script"] (defScope sSource) := ⟨rfl, rfl, rfl, by decide +kernel, rfl, by decide +kernel, by decide +kernel⟩
def spSource (K : PySem.W.Frag) : Sp := fun vs H Q _ => ∃ (a : Addr) (ns : List Int), vs = [.ref a] ∧ SqL K H a (ns.map V.int) ∧ ns.length ≤ 1000 ∧
  ∀ H' p c, Same H H' → H p = none → H c = none → p ≠ c → H' p = some (.dK [(.inr "cells", .ref c), (.inr "left", .int (srcOf ns).left), (.inr "mixed", .int (srcOf ns).mixed), (.inr "turn", .int (srcOf ns).turn)]) → H' c = some (.lst ((srcOf ns).cells.map V.int)) → Q (.ref p) H'
theorem ok_source {P : Program} {w : World} {K : PySem.W.Frag} {mg : Str → Option Value} {base : Heap} {f : Addr} {fd : FuncData} {k : Nat} (F : Fun K "_law_source" "_law_source" sSource f fd) (ma : mg "abs" = none) (mi : mg "int" = none) :
    FnOk P w K mg base CX0 (k + 1) f fd ["script"] (spSource K) := by
  refine F.ok scSource (fun vs H Q E ⟨a, ns, h, _⟩ => by rw [h]; rfl) (fun cdv A outer s H vs Q E hr h => ?_)
  obtain ⟨a, ns, rfl, hS, hlen, q⟩ := h
  refine ⟨_, pss_cons (ps_set (i := 1) scSource.nd rfl (.inl rfl) pe_int)
      (pss_cons (ps_for PassesOwn.never rfl (pi_list (pv 0)) (pg_name (i := 2) scSource.nd rfl (.inl rfl))
        (pss_one (ps_set (i := 1) scSource.nd rfl (.inl rfl) (pe_op op_mod (pe_callTy call_int1 (by rfl) mi PySem.Pv.boot_int (pa_cons (pe_op op_add (pe_op op_add (pe_op op_mul (pv 1) pe_int) (pe_op op_mul (pv 2) pe_int)) pe_int) pa_nil)) pe_int))))
      (pss_one (ps_ret (pe_disp (pps_cons pe_str (pe_rev (pe_lc (own := [("cell", 2)]) rfl scSource.nd (pi_list (pv 0)) (show BlkOk ["script", "mixed", "cell"] (defScope sSource) _ [("cell", 2)] from ⟨rfl, by decide +kernel, by decide +kernel, by decide +kernel, by decide +kernel⟩)
          (fun s H C cl fp => pg_name (i := 2) scSource.nd rfl (.inl rfl)) (fun s H C cl fp => pts_nil) (fun s H C cl fp => pe_callB call_abs (by rfl) ma (by decide +kernel) (pa_cons (pv 2) pa_nil))))
        (pps_cons pe_str pe_int (pps_cons pe_str (pv 1) (pps_cons pe_str pe_int pps_nil)))) rfl rfl (by simp) (by decide))))), ?_⟩
  refine tSeq_set ?_
  refine ⟨.ref a, rfl, a, rfl, ⟨_, hS⟩, for_list (fun i σ H1 => ∃ y, σ = [some (.ref a), some (.int (mixOf (ns.take i))), y] ∧ H1 = H) ⟨none, rfl, rfl⟩ (fun i σ H1 _ ⟨_, _, e⟩ => e ▸ hS) (fun i x σ H1 hx ⟨y, e1, e2⟩ => ?_) fun σ H1 ⟨y, e1, e2⟩ => ?_⟩
  · subst e1; subst e2
    rw [List.getElem?_map] at hx
    obtain ⟨z, hz, rfl⟩ := Option.map_eq_some_iff.mp hx
    refine ⟨.int (mixOf (ns.take i)), rfl, _, 69069, rfl, rfl, .inr ⟨by decide, by decide⟩, .int z, rfl, z, 31, rfl, rfl, .inr ⟨by decide, by decide⟩, _, _, rfl, rfl, _, 5, rfl, rfl, .inl ⟨_, rfl, _, 2147483629, rfl, rfl, (by show (0 : Int) < 2147483629; decide), ?_⟩⟩
    refine ⟨some (.int z), ?_, rfl⟩
    rw [List.take_add_one, hz]
    unfold mixOf
    rw [List.foldl_append]
    rfl
  · rw [List.length_map, List.take_length] at e1
    subst e1; subst e2
    intro p np
    have sp : Same H1 (upd H1 p (.dK [])) := fun b x e => by
      rw [upd_ne (ne_of_none e np)]
      exact e
    refine ⟨.ref a, rfl, a, rfl, ⟨_, sp.seq hS⟩, fun D nD => lc_list (xs := ns.map V.int) (fun i H2 => H2 D = some (.lst (((ns.take i).map absI).map V.int)) ∧ ∀ b, b ≠ D → H2 b = upd H1 p (.dK []) b) ⟨upd_same, fun b hb => upd_ne hb⟩ (fun i H2 _ ⟨_, h2⟩ => ?_) (fun i x H2 hx ⟨h1, h2⟩ => ?_) fun H2 ⟨h1, h2⟩ => ?_⟩
    · have s2 : Same H1 H2 := fun b x e => by
        have e' := sp b x e
        rw [h2 b fun q => by rw [q, nD] at e'; cases e']
        exact e'
      exact s2.seq hS
    · rw [List.getElem?_map] at hx
      obtain ⟨z, hz, rfl⟩ := Option.map_eq_some_iff.mp hx
      refine ⟨rfl, .int z, rfl, z, rfl, _, h1, ?_, ?_⟩
      · rw [List.length_map, List.length_map, List.length_take]
        exact Nat.lt_of_le_of_lt (Nat.min_le_right _ _) (small1000 hlen)
      · refine ⟨?_, fun b hb => (upd_ne hb).trans (h2 b hb)⟩
        rw [upd_same, List.take_add_one, hz, List.map_append, List.map_append]
        rfl
    · rw [List.length_map, List.take_length] at h1
      have npD : p ≠ D := fun z => by rw [← z, upd_same] at nD; cases nD
      refine .inl ⟨D, _, rfl, .inl (.inl h1), fun c nc => ?_⟩
      have ncD : c ≠ D := fun z => by rw [z, h1] at nc; cases nc
      have ncp : c ≠ p := fun z => by rw [z, h2 p npD, upd_same] at nc; cases nc
      have hD0 : H1 D = none := (upd_ne npD.symm).symm.trans nD
      have hc0 : H1 c = none := by rw [h2 c ncD, upd_ne ncp] at nc; exact nc
      refine ⟨.int (mixOf ns), rfl, (upd_ne ncp.symm).trans ((h2 p npD).trans upd_same), [(.inr "cells", .ref c), (.inr "left", .int 1), (.inr "mixed", .int (mixOf ns)), (.inr "turn", .int 0)], rfl, by simp, ?_⟩
      refine q _ p c (fun b x e => ?_) np hc0 ncp.symm upd_same ?_
      · have b1 := ne_of_none e np
        have b2 := ne_of_none e hD0
        have b3 := ne_of_none e hc0
        rw [upd_ne b1, upd_ne b3, h2 b b2, upd_ne b1]
        exact e
      · rw [upd_ne ncp, upd_same]
        show some (HO.lst ((ns.map absI).map V.int).reverse) = some (.lst ((ns.map absI).reverse.map V.int))
        rw [List.map_reverse]
end EvS
set_option linter.all false
set_option Elab.async false
set_option maxRecDepth 100000
set_option maxHeartbeats 1000000
/-! EvLf: the law's own def: its first statement makes the source, the rest is matched. -/
namespace EvS
open PySem PySem.Spec PyProof.Rows L2 EvK
open Ev (D E S Tgt Ste Src getS Calls evSs srcOf Ctl lawS)
def spLawG (K : PySem.W.Frag) : Sp := fun vs H Q _ => ∃ (a : Addr) (ns : List Int), vs = [.ref a] ∧ SqL K H a (ns.map V.int) ∧ ns.length ≤ 63 ∧ ∀ H', Q (.bl true) H'
def lawK (n : Nat) : List Kd := .fz :: .src :: List.replicate n .fz
theorem ok_lawG {P : Program} {w : World} {K : PySem.W.Frag} {mg : Str → Option Value} {base : Heap} {st : Stmt} {f fS : Addr} {fd fdS : FuncData} {N' : List Str} {k : Nat} {Γ : Calls} {S : SS} {ss : List Ev.S} {rest : List Stmt} {Kn : List Kd} {x qual : Str} {p1 p2 p3 p4 p5 : Pos}
    (F : Fun K x qual st f fd) (Sc : FnScope (("script" : Str) :: ("source" : Str) :: N') ["script"] (defScope st)) (hN : S.N = ("script" : Str) :: ("source" : Str) :: N')
    (hb : defBody st = .Assign [.Name "source" p1] (.Call (.Name "_law_source" p2) [.Name "script" p3] [] p4) p5 :: rest)
    (h0 : (defScope st).names.lookup ("script" : Str) = some .local) (h1 : (defScope st).names.lookup ("source" : Str) = some .local ∨ (defScope st).names.lookup ("source" : Str) = some .cell) (h2 : (defScope st).names.lookup ("_law_source" : Str) = some .globalImplicit)
    (FS : Fun K "_law_source" "_law_source" sSource fS fdS) (bS : Binds K fdS ["script"] []) (gS : mg "_law_source" = some (.ref fS)) (ma : mg "abs" = none) (mi : mg "int" = none)
    (hbl : ∀ x ∈ S.bl, mg x = none) (hrk : ∀ f, S.rk f ≠ .src)
    (hfs : ∀ f hs n, (f, hs, n) ∈ S.fs → ∃ (fa : Addr) (fd : FuncData) (ps : List Str), mg f = some (.ref fa) ∧ FnG P w K mg base (k + 1) fa fd ps (spF P w K Γ f hs (S.rk f) (n + if hs then 1 else 0)) ∧ PySem.W.keepIn K (.ref fa) = true ∧ Binds K fd ps [])
    (hmatch : mSs S .fz ⟨defScope st, fun _ => true⟩ ss (lawK N'.length) none rest = some Kn)
    (hlaw : ∀ ns : List Int, ns.length ≤ 63 → ∃ ρ', evSs Γ ss ⟨lawS N'.length, srcOf ns⟩ = some (.rt (.bool true), ρ')) :
    FnG P w K mg base (k + 2) f fd ["script"] (spLawG K) := by
  refine FnG.of F Sc (fun vs H Q E ⟨a, ns, h, _⟩ => by rw [h]; rfl) fun cdv A outer s H vs Q E hg hro hsp => ?_
  obtain ⟨a, ns, rfl, hS, hlen, q⟩ := hsp
  have GS := ok_source (P := P) (w := w) (base := base) (k := k) FS ma mi
  -- the parts of the state behind the first statement do not hang on the judgement's context
  have sx : ∀ c' : Ct, c'.P = P → c'.w = w → c'.K = K → Sx c' (cxOf CX0 P w K mg base (("script" : Str) :: ("source" : Str) :: N') qual (defScope st) f cdv A outer s H E).nox S Γ ⟨defScope st, fun _ => true⟩ .fz := fun c' hP hw hK => by
    subst hP; subst hw; subst hK
    exact ⟨by decide, ⟨⟨hg, rfl, rfl, rfl, by have := hro.un; show (A.deeper _).units + 80 < cLine; omega, rfl⟩, hN.symm, Sc.nd, hbl, fun f hs n hmem => by
      obtain ⟨fa, fd2, ps2, e1, e2, e3, e4⟩ := hfs f hs n hmem
      exact ⟨⟨fa, fd2, ps2, k + 1, e1, e2, hro, e3, e4⟩⟩, hrk⟩, ⟨rfl, rfl⟩, Sc.kind, PassesOwn.never⟩
  obtain ⟨ρ', hev⟩ := hlaw ns hlen
  rw [hb]
  -- the context's addresses come with the first statement's heap, so that the rest is read under them
  refine ⟨tSeq (tAsg _ (gName 1)) fun Dn σ H' => ∃ c' : Ct, c'.P = P ∧ c'.w = w ∧ c'.K = K ∧ tSF c' .fz (lawK N'.length) Kn none (evSs Γ ss) Dn σ H', pss_cons (ps_set (i := 1) Sc.nd rfl h1 (pe_call GS hro ?_ gS FS.kp bS .nil pass0 (pa_cons (pe_var (i := 0) rfl (.inl h0)) pa_nil))) ?_, ?_⟩
  · exact h2
  · refine ⟨fun pins s1 σ H1 D I ⟨c', hP, hw, hK, h⟩ => (sSs (sx c' hP hw hK) ss _ Kn none _ hmatch).run pins s1 σ H1 D I h⟩
  · refine tSeq_set ⟨.ref a, rfl, a, ns, rfl, hS, by omega, fun H1 p c sm np nc npc e1 e2 => ?_⟩
    refine ⟨⟨P, w, K, H, H, true, p, c⟩, rfl, rfl, rfl, ⟨H, fun _ => none⟩, ⟨lawS N'.length, srcOf ns⟩, [], _, ρ', ?_, hev, fun g' K' ρ'' σ' H' v _ R => ?_⟩
    · refine ⟨sm, sm, Same.refl _, fun a _ => rfl, ?_, fun i d e => ?_, fun j t e => by simp at e, fun a o e => (nomatch e), fun _ => ⟨⟨e1, e2⟩, npc, np, nc, np, nc, rfl, rfl⟩⟩
      · simp [lawS, L2.start]
      · match i, e with
        | 0, e => simp [getS, lawS] at e
        | 1, e =>
          simp [getS, lawS] at e
          subst e
          exact ⟨_, rfl, rfl, rfl, rfl⟩
        | i + 2, e =>
          simp [getS, lawS, List.getElem?_replicate] at e
          split at e <;> simp at e
    · have := R.tm 0 _ rfl
      cases this
      exact q _
end EvS
set_option linter.all false
set_option Elab.async false
set_option maxRecDepth 100000
set_option maxHeartbeats 1000000
/-! EvLx: the end of a law's row over a head by facts; bundles of called defs. -/
namespace EvS
open PySem PySem.Spec PyProof.Rows L2 EvK
open Ev (D E S Tgt Ste Src Calls runFn)
theorem FunD.fun {K : PySem.W.Frag} {x qual : Str} {st : Stmt} {f : Addr} {fd : FuncData} (F : FunD K x qual (defArgs st) (defBody st) (defScope st) [] [] f fd) : Fun K x qual st f fd := by
  obtain ⟨oc, od, dV, kV, doc, pm, an, cdv, ct, osl, rfl, lk, hcd, hD, hK⟩ := F.ex
  rcases hD with ⟨_, rfl⟩ | ⟨e, _⟩
  · exact ⟨⟨oc, od, kV, doc, pm, an, cdv, ct, osl, rfl, lk, hcd⟩, F.kp⟩
  · exact absurd rfl e
theorem spF_congr {P : Program} {w : World} {K : PySem.W.Frag} {Γ Γ' : Calls} {f : String} {hs : Bool} {rk : Kd} {n : Nat} (h : Γ f = Γ' f) : spF P w K Γ f hs rk n = spF P w K Γ' f hs rk n := by
  unfold spF; rw [h]
/-- a def that may be called -/
structure Cl (P : Program) (w : World) (K : PySem.W.Frag) (mg : Str → Option Value) (base : Heap) (Γ : Calls) (rk : String → Kd) (k : Nat) (g : String) (hs : Bool) (n : Nat) : Prop where
  ex : ∃ (fa : Addr) (fd : FuncData) (ps : List Str), mg g = some (.ref fa) ∧ FnG P w K mg base k fa fd ps (spF P w K Γ g hs (rk g) (n + if hs then 1 else 0)) ∧ PySem.W.keepIn K (.ref fa) = true ∧ Binds K fd ps []
theorem Cl.mono {P : Program} {w : World} {K : PySem.W.Frag} {mg : Str → Option Value} {base : Heap} {Γ : Calls} {rk : String → Kd} {j k : Nat} {g : String} {hs : Bool} {n : Nat} (c : Cl P w K mg base Γ rk j g hs n) (h : j ≤ k) : Cl P w K mg base Γ rk k g hs n := by
  obtain ⟨fa, fd, ps, h1, h2, h3, h4⟩ := c.ex
  exact ⟨⟨fa, fd, ps, h1, h2.mono h, h3, h4⟩⟩
theorem Cl.congr {P : Program} {w : World} {K : PySem.W.Frag} {mg : Str → Option Value} {base : Heap} {Γ Γ' : Calls} {rk : String → Kd} {k : Nat} {g : String} {hs : Bool} {n : Nat} (c : Cl P w K mg base Γ rk k g hs n) (h : Γ g = Γ' g) : Cl P w K mg base Γ' rk k g hs n := by
  obtain ⟨fa, fd, ps, h1, h2, h3, h4⟩ := c.ex
  exact ⟨⟨fa, fd, ps, h1, (spF_congr h) ▸ h2, h3, h4⟩⟩
/-- a def of the text, matched -/
theorem cl_def {P : Program} {w : World} {K : PySem.W.Frag} {mg : Str → Option Value} {base : Heap} {st : Stmt} {a : Addr} {fd : FuncData} {N ps : List Str} {k : Nat} {Γ Γ' : Calls} {fl : Ev.Fn} {S : SS} {nm : String} {n : Nat} {BL : List Str}
    (F : Fun K (nm : Str) (nm : Str) st a fd) (hg : mg nm = some (.ref a)) (hb : Binds K fd ps []) (Sc : FnScope N ps (defScope st)) (hN : S.N = N) (hps : ps.length = n + if fl.src then 1 else 0) (hn : fl.n = N.length) (hm : n + (if fl.src then 1 else 0) ≤ N.length)
    (hBL : ∀ x ∈ BL, mg x = none) (hbl : (S.bl.all fun x => BL.contains x) = true) (hrk : ∀ f, S.rk f ≠ .src) (hΓ : Γ' nm = runFn Γ fl)
    (hfs : ∀ f hs n, (f, hs, n) ∈ S.fs → Cl P w K mg base Γ S.rk k f hs n)
    (hmatch : (mSs S (S.rk nm) ⟨defScope st, fun _ => true⟩ fl.body (startK fl.src (n + if fl.src then 1 else 0) N.length) none (defBody st)).isSome = true) :
    Cl P w K mg base Γ' S.rk (k + 1) nm fl.src n := by
  obtain ⟨Kn, hK⟩ := Option.isSome_iff_exists.mp hmatch
  refine ⟨⟨a, fd, ps, hg, fn_def F Sc hN hps hn hm (fun x hx => hBL x ?_) hrk (hrk nm) (fun ds s => by rw [hΓ]) (fun f hs n hm => (hfs f hs n hm).ex) hK, F.kp, hb⟩⟩
  have := List.all_eq_true.mp hbl x hx
  simpa using this
/-- a law: F gives the written part, the function object, the promise over every base -/
theorem walk_ofEG {l : PySem.W.OpenLaw} {n k : Nat} {q : Program} {loose : List Str} {XP : (Str → Option Value) → Heap → Prop} {YP : World → Heap → Prop} {d : DefRec} {x : Str}
    (hn : l.most = some n) (hn2 : n ≤ sizeLine) (hdf : d.params.defaults = []) (hr : Room k callerA)
    (F : ∀ (w : World) (mg : Str → Option Value) (fa : Addr) (h : Heap), YP w h → h.Ns mainGlobals mg → mg d.name = some (.ref fa) →
      ∃ (K : PySem.W.Frag) (fd : FuncData) (sp : Sp), K.In h ∧ (∀ (s : Shared) (u : Value), BindsTo s fd ⟨[u], []⟩ [(x, u)]) ∧
        (∀ (H : Hp) (a : Addr) (ns : List Int), ns.length ≤ n → Only H → SqL K H a (ns.map V.int) → sp [.ref a] H (fun v _ => v = .bl true) fun _ _ _ => False) ∧
        ∀ base : Heap, K.In base → base.Ns mainGlobals mg → FnG l.prog w K mg base k fa fd [x] sp) :
    PySem.W.WalkO q loose XP YP l.row.toRowW d [] (fun f vs => PySem.call f vs) := by
  refine Att.attach_call hn hdf fun w s₀ s₁ mg mb fa o pm cd doc a vs ns G Y ho hd hcd hmg hobj hints hlen hg => ?_
  obtain ⟨K, fd, sp, KX, hb, hsp, hF⟩ := F w mg fa _ Y G.T.g hmg
  exact law_callG KX G.T.g G.T.b G.T.builtins G.T.nolimit hg hobj hints (Nat.le_trans hlen hn2) hr hF hb fun H hO hS => hsp H a ns hlen hO hS
end EvS
set_option linter.all false
set_option Elab.async false
set_option maxRecDepth 100000
set_option maxHeartbeats 1000000
/-! Esh: texts of data (repr): how long they are; unlike data have unlike texts. -/
namespace Ev
open PySem
/-- a text's signs -/
def cs (s : Str) : List Nat := s.cps.toList
theorem cs_append (a b : Str) : cs (a ++ b) = cs a ++ cs b := by
  show (a.cps ++ b.cps).toList = _
  simp [cs]
theorem cs_len (a : Str) : (cs a).length = a.length := by simp [cs, Str.length]
theorem cs_inj {a b : Str} (h : cs a = cs b) : a = b := by
  obtain ⟨a⟩ := a
  obtain ⟨b⟩ := b
  unfold cs at h
  congr 1
  exact Array.toList_inj.mp h
theorem cs_ofString (s : String) : cs (Str.ofString s) = s.toList.map Char.toNat := by
  rw [Str.ofString_eq_toList]; rfl
/-- the middle of a text of things -/
def bdy : List (List Nat) → List Nat
  | [] => []
  | [x] => x
  | x :: xs => x ++ 44 :: 32 :: bdy xs
theorem cs_join : ∀ ts : List Str, cs (Str.join ", " ts) = bdy (ts.map cs)
  | [] => rfl
  | [x] => rfl
  | x :: y :: r => by
    have ih := cs_join (y :: r)
    show cs (x ++ ", " ++ Str.join ", " (y :: r)) = cs x ++ 44 :: 32 :: bdy ((y :: r).map cs)
    rw [cs_append, cs_append, ih, List.append_assoc]
    have : cs (", " : String) = [44, 32] := by rw [cs_ofString]; rfl
    rw [this]
    rfl
def tlT (n : Nat) : List Nat := if n = 1 then [44, 41] else [41]
theorem cs_tuple (ts : List Str) : cs (tupleText ts) = 40 :: (bdy (ts.map cs) ++ tlT ts.length) := by
  unfold tupleText
  rw [cs_append, cs_append, cs_join]
  have h1 : cs ("(" : String) = [40] := by rw [cs_ofString]; rfl
  have h2 : cs ((if ts.length == 1 then ",)" else ")" : String) : Str) = tlT ts.length := by
    unfold tlT
    by_cases h : ts.length = 1
    · have : (ts.length == 1) = true := by simpa using h
      rw [this, if_pos h, if_pos rfl, cs_ofString]; rfl
    · have : (ts.length == 1) = false := by simpa using h
      rw [this, if_neg h, if_neg (by decide), cs_ofString]; rfl
  rw [h1, h2]
  simp
theorem cs_textFrom : ∀ (ts : List Str) (k : Nat) (acc : Str), cs (textFrom (k + 1) acc ts) = cs acc ++ (ts.flatMap fun t => 44 :: 32 :: cs t)
  | [], k, acc => by simp [textFrom]
  | t :: ts, k, acc => by
    rw [textFrom, cs_textFrom ts (k + 1), cs_append, cs_append]
    have : cs ((if k + 1 > 0 then ", " else "" : String) : Str) = [44, 32] := by rw [if_pos (Nat.succ_pos k), cs_ofString]; rfl
    rw [this]
    simp
theorem bdy_cons (x : List Nat) : ∀ xs : List (List Nat), bdy (x :: xs) = x ++ (xs.flatMap fun t => 44 :: 32 :: t)
  | [] => by simp [bdy]
  | y :: ys => by
    rw [bdy, bdy_cons y ys, List.flatMap_cons]
    · simp
    · nofun
theorem cs_list (ts : List Str) : cs (listText ts) = 91 :: (bdy (ts.map cs) ++ [93]) := by
  unfold listText
  have h1 : cs ("[" : String) = [91] := by rw [cs_ofString]; rfl
  have h2 : cs ("]" : String) = [93] := by rw [cs_ofString]; rfl
  cases ts with
  | nil =>
    show cs (textFrom 0 "[" [] ++ ("]" : String)) = _
    rw [cs_append, h2]
    show cs ("[" : String) ++ [93] = _
    rw [h1]; rfl
  | cons t ts =>
    rw [cs_append, h2, textFrom, cs_textFrom, cs_append, cs_append, h1]
    have : cs ((if 0 > 0 then ", " else "" : String) : Str) = [] := by rw [if_neg (Nat.lt_irrefl 0), cs_ofString]; rfl
    rw [this, List.map_cons, bdy_cons]
    simp [List.flatMap_map]
/-- digits of a number -/
def dgs (n : Nat) : List Nat := (Nat.toDigits 10 n).map Char.toNat
def txI (i : Int) : List Nat := if 0 ≤ i then dgs i.toNat else 45 :: dgs (-i).toNat
theorem cs_int (i : Int) : cs (Str.ofString (toString i)) = txI i := by
  rw [cs_ofString, Int.toString_eq_repr, Int.repr_eq_if]
  unfold txI dgs
  split
  · rw [Nat.toList_repr]
  · rw [String.toList_append, Nat.toList_repr]
    rfl
mutual
def tx : D → List Nat
  | .none => [78, 111, 110, 101]
  | .bool b => if b then [84, 114, 117, 101] else [70, 97, 108, 115, 101]
  | .int i => txI i
  | .str x => cs (reprText x)
  | .list xs => 91 :: (bdy (txs xs) ++ [93])
  | .tuple xs => 40 :: (bdy (txs xs) ++ tlT xs.length)
  | .dict kvs => cs (PyData.shown (.dict kvs))
def txs : List D → List (List Nat)
  | [] => []
  | x :: xs => tx x :: txs xs
end
theorem shownAll_len : ∀ xs : List D, (PyData.shownAll xs).length = xs.length
  | [] => rfl
  | x :: xs => by rw [PyData.shownAll, List.length_cons, shownAll_len]; rfl
mutual
theorem cs_shown : ∀ d : D, cs d.shown = tx d
  | .none => by
    rw [PyData.shown, tx, cs_ofString]; rfl
  | .bool b => by
    rw [PyData.shown, tx]
    cases b
    · show cs (Str.ofString "False") = _
      rw [cs_ofString]; rfl
    · show cs (Str.ofString "True") = _
      rw [cs_ofString]; rfl
  | .int i => by
    rw [PyData.shown, tx]
    exact cs_int i
  | .str x => by rw [PyData.shown, tx]
  | .list xs => by rw [PyData.shown, tx, cs_list, cs_shownAll]
  | .tuple xs => by rw [PyData.shown, tx, cs_tuple, cs_shownAll, shownAll_len]
  | .dict kvs => by rw [tx]
theorem cs_shownAll : ∀ xs : List D, (PyData.shownAll xs).map cs = txs xs
  | [] => rfl
  | x :: xs => by rw [PyData.shownAll, List.map_cons, cs_shown x, cs_shownAll xs, txs]
end
theorem txs_map : ∀ xs : List D, txs xs = xs.map tx
  | [] => rfl
  | x :: xs => by rw [txs, txs_map]; rfl

/-! ### reading back -/
def digC (c : Nat) : Prop := 48 ≤ c ∧ c ≤ 57
theorem dgs_dig (n : Nat) : ∀ c ∈ dgs n, digC c := fun c hc => by
  obtain ⟨ch, h, rfl⟩ := List.mem_map.mp hc
  have := Nat.isDigit_of_mem_toDigits (by decide) (by decide) h
  simp [Char.isDigit] at this
  unfold digC
  have h1 := this.1
  have h2 := this.2
  simp [UInt32.le_iff_toNat_le] at h1 h2
  exact ⟨h1, h2⟩
theorem dgs_ne (n : Nat) : dgs n ≠ [] := by
  unfold dgs
  simp [Nat.toDigits_ne_nil]
theorem dgs_inj {n m : Nat} (h : dgs n = dgs m) : n = m := by
  unfold dgs at h
  have : Nat.toDigits 10 n = Nat.toDigits 10 m := by
    have hi : ∀ (a b : List Char), a.map Char.toNat = b.map Char.toNat → a = b := fun a => by
      induction a with
      | nil => intro b h; cases b <;> simp at h ⊢
      | cons x a ih =>
        intro b h
        cases b with
        | nil => simp at h
        | cons y b =>
          simp only [List.map_cons, List.cons.injEq] at h ⊢
          exact ⟨Char.toNat_inj.mp h.1, ih b h.2⟩
    exact hi _ _ h
  rw [← Nat.ofDigitChars_toDigits (b := 10) (n := n) (by decide) (by decide), this, Nat.ofDigitChars_toDigits (by decide) (by decide)]
/-- what follows a thing -/
def stp : List Nat → Prop
  | [] => True
  | c :: _ => c = 44 ∨ c = 41 ∨ c = 93
theorem dig_cut : ∀ {a b r r' : List Nat}, (∀ c ∈ a, digC c) → (∀ c ∈ b, digC c) → stp r → stp r' → a ++ r = b ++ r' → a = b ∧ r = r'
  | [], [], r, r', _, _, _, _, e => ⟨rfl, e⟩
  | [], y :: b, r, r', _, hb, hr, _, e => by
    simp at e
    subst e
    have := hb y (by simp)
    simp [stp, digC] at *
    omega
  | x :: a, [], r, r', ha, _, _, hr, e => by
    simp at e
    subst e
    have := ha x (by simp)
    simp [stp, digC] at *
    omega
  | x :: a, y :: b, r, r', ha, hb, hr, hr', e => by
    simp only [List.cons_append, List.cons.injEq] at e
    obtain ⟨h1, h2⟩ := dig_cut (fun c hc => ha c (by simp [hc])) (fun c hc => hb c (by simp [hc])) hr hr' e.2
    exact ⟨by rw [e.1, h1], h2⟩
theorem txI_cut {i j : Int} {r r' : List Nat} (hr : stp r) (hr' : stp r') (e : txI i ++ r = txI j ++ r') : i = j ∧ r = r' := by
  have neg : ∀ {n : Nat} {a b : List Nat}, 45 :: a = dgs n ++ b → False := fun {n a b} h => by
    cases hd : dgs n with
    | nil => exact dgs_ne n hd
    | cons c l =>
      rw [hd] at h
      simp at h
      have := dgs_dig n c (by rw [hd]; simp)
      unfold digC at this
      omega
  unfold txI at e
  split at e <;> split at e
  · obtain ⟨h1, h2⟩ := dig_cut (dgs_dig _) (dgs_dig _) hr hr' e
    have := dgs_inj h1
    exact ⟨by omega, h2⟩
  · exact (neg (by simpa using e.symm)).elim
  · exact (neg (by simpa using e)).elim
  · simp only [List.cons_append, List.cons.injEq, true_and] at e
    obtain ⟨h1, h2⟩ := dig_cut (dgs_dig _) (dgs_dig _) hr hr' e
    have := dgs_inj h1
    exact ⟨by omega, h2⟩
/-- data of numbers, truths, nothing, lists and tuples -/
def rdb : Nat → D → Prop
  | _, .none | _, .bool _ | _, .int _ => True
  | n + 1, .list xs | n + 1, .tuple xs => ∀ x ∈ xs, rdb n x
  | 0, .list _ | 0, .tuple _ => False
  | _, .str _ | _, .dict _ => False
/-- how a thing's text begins -/
def hdOk : List Nat → Prop
  | [] => False
  | c :: _ => c ≠ 44 ∧ c ≠ 41 ∧ c ≠ 93
theorem txI_hd (i : Int) : ∃ c l, txI i = c :: l ∧ (c = 45 ∨ digC c) := by
  unfold txI
  split
  · cases hd : dgs i.toNat with
    | nil => exact absurd hd (dgs_ne _)
    | cons c l => exact ⟨c, l, rfl, .inr (dgs_dig i.toNat c (by rw [hd]; simp))⟩
  · exact ⟨45, _, rfl, .inl rfl⟩
theorem tx_hd {n : Nat} {d : D} (h : rdb n d) : hdOk (tx d) := by
  cases d with
  | none => rw [tx]; exact ⟨by decide, by decide, by decide⟩
  | bool b => rw [tx]; cases b <;> exact ⟨by decide, by decide, by decide⟩
  | int i =>
    rw [tx]
    obtain ⟨c, l, e, h⟩ := txI_hd i
    rw [e]
    unfold digC at h
    exact ⟨by omega, by omega, by omega⟩
  | list xs => rw [tx]; exact ⟨by decide, by decide, by decide⟩
  | tuple xs => rw [tx]; exact ⟨by decide, by decide, by decide⟩
  | str x => cases n <;> exact h.elim
  | dict x => cases n <;> exact h.elim
/-- what stands behind things -/
def endOk : List Nat → Prop
  | c :: r => c = 41 ∨ c = 93 ∨ (c = 44 ∧ ∃ q, r = 41 :: q)
  | [] => False
theorem endOk.stp {z : List Nat} (h : endOk z) : stp z := by
  cases z with
  | nil => trivial
  | cons c r =>
    rcases h with h | h | ⟨h, _⟩
    · exact .inr (.inl h)
    · exact .inr (.inr h)
    · exact .inl h
theorem hd_end {a b z : List Nat} (h1 : hdOk a) (h2 : endOk z) (e : z = a ++ b) : False := by
  cases a with
  | nil => exact h1
  | cons c a =>
    subst e
    obtain ⟨q1, q2, q3⟩ := h1
    rcases h2 with h | h | ⟨h, _⟩
    · exact q2 h
    · exact q3 h
    · exact q1 h
theorem body_cut {n : Nat} (ih : ∀ d d' : D, rdb n d → rdb n d' → ∀ r r', stp r → stp r' → tx d ++ r = tx d' ++ r' → d = d' ∧ r = r') :
    ∀ xs ys : List D, (∀ x ∈ xs, rdb n x) → (∀ x ∈ ys, rdb n x) → ∀ z z', endOk z → endOk z' → bdy (txs xs) ++ z = bdy (txs ys) ++ z' → xs = ys ∧ z = z'
  | [], [], _, _, z, z', _, _, e => ⟨rfl, by simpa [txs, bdy] using e⟩
  | [], y :: ys, _, hy, z, z', h1, h2, e => by
    rw [txs, txs, bdy_cons, List.append_assoc] at e
    exact (hd_end (tx_hd (hy y (by simp))) h1 (by simpa [bdy] using e)).elim
  | x :: xs, [], hx, _, z, z', h1, h2, e => by
    rw [txs, txs, bdy_cons, List.append_assoc] at e
    exact (hd_end (tx_hd (hx x (by simp))) h2 (by simpa [bdy] using e.symm)).elim
  | x :: xs, y :: ys, hx, hy, z, z', h1, h2, e => by
    rw [txs, txs, bdy_cons, bdy_cons, List.append_assoc, List.append_assoc] at e
    have st : ∀ (ws : List D) (q : List Nat), endOk q → stp (((txs ws).flatMap fun t => 44 :: 32 :: t) ++ q) := fun ws q hq => by
      cases ws with
      | nil => simpa [txs] using hq.stp
      | cons w ws => rw [txs, List.flatMap_cons]; exact .inl rfl
    obtain ⟨e1, e2⟩ := ih x y (hx x (by simp)) (hy y (by simp)) _ _ (st xs z h1) (st ys z' h2) e
    cases xs with
    | nil =>
      cases ys with
      | nil => exact ⟨by rw [e1], by simpa [txs] using e2⟩
      | cons w ys =>
        rw [txs, txs, List.flatMap_nil, List.flatMap_cons, List.nil_append] at e2
        subst e2
        rcases h1 with h | h | ⟨_, q, h⟩
        · exact absurd h (by decide)
        · exact absurd h (by decide)
        · simp at h
    | cons v xs =>
      cases ys with
      | nil =>
        rw [txs, txs, List.flatMap_nil, List.flatMap_cons, List.nil_append] at e2
        subst e2
        rcases h2 with h | h | ⟨_, q, h⟩
        · exact absurd h (by decide)
        · exact absurd h (by decide)
        · simp at h
      | cons w ys =>
        have e3 : bdy (txs (v :: xs)) ++ z = bdy (txs (w :: ys)) ++ z' := by
          rw [txs, txs, bdy_cons, bdy_cons, List.append_assoc, List.append_assoc]
          rw [txs, txs, List.flatMap_cons, List.flatMap_cons] at e2
          simpa using e2
        obtain ⟨e4, e5⟩ := body_cut ih (v :: xs) (w :: ys) (fun a ha => hx a (by simp at ha ⊢; exact .inr ha)) (fun a ha => hy a (by simp at ha ⊢; exact .inr ha)) z z' h1 h2 e3
        exact ⟨by rw [e1, e4], e5⟩
theorem tlT_end (n : Nat) (r : List Nat) : endOk (tlT n ++ r) := by
  unfold tlT
  split
  · exact .inr (.inr ⟨rfl, r, rfl⟩)
  · exact .inl rfl
def kd : D → Nat
  | .none => 0
  | .bool _ => 1
  | .int _ => 2
  | .list _ => 3
  | .tuple _ => 4
  | .str _ => 5
  | .dict _ => 6
def cls (c : Nat) : Nat := if c = 78 then 0 else if c = 84 ∨ c = 70 then 1 else if c = 91 then 3 else if c = 40 then 4 else 2
theorem tx_cls {n : Nat} {d : D} (h : rdb n d) : ∃ c l, tx d = c :: l ∧ cls c = kd d := by
  cases d with
  | none => exact ⟨_, _, by rw [tx], rfl⟩
  | bool b => cases b <;> exact ⟨_, _, by rw [tx]; rfl, rfl⟩
  | int i =>
    obtain ⟨c, l, e, h⟩ := txI_hd i
    refine ⟨c, l, by rw [tx, e], ?_⟩
    unfold digC at h
    unfold cls kd
    rw [if_neg (by omega), if_neg (by omega), if_neg (by omega), if_neg (by omega)]
  | list xs => exact ⟨_, _, by rw [tx], rfl⟩
  | tuple xs => exact ⟨_, _, by rw [tx], rfl⟩
  | str x => cases n <;> exact h.elim
  | dict x => cases n <;> exact h.elim
theorem tx_kd {n : Nat} {d d' : D} (h : rdb n d) (h' : rdb n d') {r r' : List Nat} (e : tx d ++ r = tx d' ++ r') : kd d = kd d' := by
  obtain ⟨c, l, e1, h1⟩ := tx_cls h
  obtain ⟨c', l', e2, h2⟩ := tx_cls h'
  rw [e1, e2] at e
  simp at e
  rw [← h1, ← h2, e.1]
theorem tx_cut : ∀ (n : Nat) (d d' : D), rdb n d → rdb n d' → ∀ r r', stp r → stp r' → tx d ++ r = tx d' ++ r' → d = d' ∧ r = r' := by
  intro n
  induction n with
  | zero =>
    intro d d' h h' r r' hr hr' e
    have hk := tx_kd h h' e
    cases d <;> cases d' <;> first | exact h.elim | exact h'.elim | (simp [kd] at hk; done) | skip
    · exact ⟨rfl, List.append_cancel_left e⟩
    · rename_i a b
      rw [tx, tx] at e
      cases a <;> cases b <;> simp at e <;> exact ⟨rfl, e⟩
    · rw [tx, tx] at e
      obtain ⟨h1, h2⟩ := txI_cut hr hr' e
      exact ⟨by rw [h1], h2⟩
  | succ n ih =>
    intro d d' h h' r r' hr hr' e
    have hk := tx_kd h h' e
    cases d <;> cases d' <;> first | exact h.elim | exact h'.elim | (simp [kd] at hk; done) | skip
    · exact ⟨rfl, List.append_cancel_left e⟩
    · rename_i a b
      rw [tx, tx] at e
      cases a <;> cases b <;> simp at e <;> exact ⟨rfl, e⟩
    · rw [tx, tx] at e
      obtain ⟨h1, h2⟩ := txI_cut hr hr' e
      exact ⟨by rw [h1], h2⟩
    · rename_i xs ys
      rw [tx, tx, List.cons_append, List.cons_append, List.append_assoc, List.append_assoc] at e
      simp only [List.cons.injEq, true_and] at e
      obtain ⟨h1, h2⟩ := body_cut ih xs ys h h' ([93] ++ r) ([93] ++ r') (show endOk (93 :: r) from Or.inr (Or.inl rfl)) (show endOk (93 :: r') from Or.inr (Or.inl rfl)) e
      simp at h2
      exact ⟨by rw [h1], h2⟩
    · rename_i xs ys
      rw [tx, tx, List.cons_append, List.cons_append, List.append_assoc, List.append_assoc] at e
      simp only [List.cons.injEq, true_and] at e
      obtain ⟨h1, h2⟩ := body_cut ih xs ys h h' _ _ (tlT_end _ _) (tlT_end _ _) e
      rw [h1] at h2
      exact ⟨by rw [h1], List.append_cancel_left h2⟩
/-- unlike data have unlike texts -/
theorem shown_inj {n : Nat} {d d' : D} (h : rdb n d) (h' : rdb n d') (e : d.shown = d'.shown) : d = d' := by
  have : tx d ++ [] = tx d' ++ [] := by rw [← cs_shown, ← cs_shown, e]
  exact (tx_cut n d d' h h' [] [] trivial trivial this).1

/-! ### lengths -/
theorem dgs_len {n k : Nat} (hk : 0 < k) (h : n < 10 ^ k) : (dgs n).length ≤ k := by
  unfold dgs
  rw [List.length_map]
  exact (Nat.length_toDigits_le_iff (by decide) hk).mpr h
theorem txI_len {i : Int} {k : Nat} (hk : 0 < k) (h : i.natAbs < 10 ^ k) : (txI i).length ≤ k + 1 := by
  unfold txI
  split
  · have := dgs_len hk (n := i.toNat) (by omega)
    omega
  · have := dgs_len hk (n := (-i).toNat) (by omega)
    simp; omega
theorem bdy_len {N : Nat} : ∀ xs : List (List Nat), (∀ x ∈ xs, x.length ≤ N) → (bdy xs).length ≤ xs.length * (N + 2)
  | [], _ => by simp [bdy]
  | [x], h => by
    have := h x (by simp)
    simp [bdy]; omega
  | x :: y :: xs, h => by
    have h1 := h x (by simp)
    have h2 := bdy_len (N := N) (y :: xs) fun z hz => h z (by simp at hz ⊢; exact .inr hz)
    rw [bdy]
    · rw [List.length_append, List.length_cons, List.length_cons, List.length_cons (as := y :: xs), Nat.add_mul]
      omega
    · nofun
/-- what repr takes, its text at most so long -/
structure Rp (k N : Nat) (d : D) : Prop where
  sh : Sh k d
  sw : d.showable = true
  nd : d.hasDict = false
  ln : d.shown.length ≤ N
theorem Rp.tup {k N c : Nat} {xs : List D} (h : ∀ x ∈ xs, Rp k N x) (hc : xs.length ≤ c) : Rp (k + 1) (c * (N + 2) + 3) (.tuple xs) := by
  have h1 : ∀ ys : List D, (∀ x ∈ ys, Rp k N x) → PyData.showableAll ys = true ∧ PyData.hasDictAll ys = false := fun ys => by
    induction ys with
    | nil => intro _; exact ⟨rfl, rfl⟩
    | cons y ys ih =>
      intro h
      have a := h y (by simp)
      have b := ih fun x hx => h x (by simp [hx])
      exact ⟨by rw [PyData.showableAll, a.sw, b.1]; rfl, by rw [PyData.hasDictAll, a.nd, b.2]; rfl⟩
  refine ⟨Sh.tup fun x hx => (h x hx).sh, by rw [PyData.showable]; exact (h1 xs h).1, by rw [PyData.hasDict]; exact (h1 xs h).2, ?_⟩
  rw [← cs_len, cs_shown, tx, txs_map]
  have := bdy_len (N := N) (xs.map tx) fun x hx => by
    obtain ⟨y, hy, rfl⟩ := List.mem_map.mp hx
    rw [← cs_shown, cs_len]
    exact (h y hy).ln
  have h3 : xs.length * (N + 2) ≤ c * (N + 2) := Nat.mul_le_mul_right _ hc
  have h4 : (tlT xs.length).length ≤ 2 := by unfold tlT; split <;> decide
  simp at this ⊢
  omega
theorem Rp.lst {k N c : Nat} {xs : List D} (h : ∀ x ∈ xs, Rp k N x) (hc : xs.length ≤ c) : Rp (k + 1) (c * (N + 2) + 3) (.list xs) := by
  have h1 : ∀ ys : List D, (∀ x ∈ ys, Rp k N x) → PyData.showableAll ys = true ∧ PyData.hasDictAll ys = false := fun ys => by
    induction ys with
    | nil => intro _; exact ⟨rfl, rfl⟩
    | cons y ys ih =>
      intro h
      have a := h y (by simp)
      have b := ih fun x hx => h x (by simp [hx])
      exact ⟨by rw [PyData.showableAll, a.sw, b.1]; rfl, by rw [PyData.hasDictAll, a.nd, b.2]; rfl⟩
  refine ⟨Sh.lst fun x hx => (h x hx).sh, by rw [PyData.showable]; exact (h1 xs h).1, by rw [PyData.hasDict]; exact (h1 xs h).2, ?_⟩
  rw [← cs_len, cs_shown, tx, txs_map]
  have := bdy_len (N := N) (xs.map tx) fun x hx => by
    obtain ⟨y, hy, rfl⟩ := List.mem_map.mp hx
    rw [← cs_shown, cs_len]
    exact (h y hy).ln
  have h3 : xs.length * (N + 2) ≤ c * (N + 2) := Nat.mul_le_mul_right _ hc
  simp at this ⊢
  omega
theorem Rp.int {k j : Nat} {i : Int} (hj : 0 < j) (hj2 : j ≤ 480) (h : i.natAbs < 10 ^ j) : Rp k (j + 1) (.int i) := by
  refine ⟨Sh.int, ?_, by simp [PyData.hasDict], ?_⟩
  · rw [PyData.showable]
    refine decide_eq_true ?_
    by_cases h0 : i.natAbs = 0
    · rw [h0]; decide
    · rw [Nat.log2_lt h0]
      refine Nat.lt_of_lt_of_le h ?_
      calc 10 ^ j ≤ 16 ^ j := Nat.pow_le_pow_left (by decide) j
        _ = 2 ^ (4 * j) := by rw [show (16 : Nat) = 2 ^ 4 from rfl, ← Nat.pow_mul]
        _ ≤ 2 ^ 1920 := Nat.pow_le_pow_right (by decide) (by omega)
  · rw [← cs_len, cs_shown, tx]
    exact txI_len hj h
theorem Rp.none {k N : Nat} (h : 4 ≤ N) : Rp k N .none := ⟨Sh.none, by rw [PyData.showable], by rw [PyData.hasDict], by rw [← cs_len, cs_shown, tx]; exact h⟩
theorem Rp.bool {k N : Nat} {b : Bool} (h : 5 ≤ N) : Rp k N (.bool b) := ⟨Sh.bool, by rw [PyData.showable], by rw [PyData.hasDict], by
  rw [← cs_len, cs_shown, tx]
  cases b
  · exact h
  · exact Nat.le_trans (by decide) h⟩
theorem Rp.mono {k N N' k' : Nat} {d : D} (h : Rp k N d) (hN : N ≤ N') (hk : k ≤ k') : Rp k' N' d := ⟨h.sh.mono hk, h.sw, h.nd, Nat.le_trans h.ln hN⟩
theorem Rp.ok {k N : Nat} {d : D} (h : Rp k N d) (hk : k ≤ 64) (hN : N ≤ lim) : reprB [d] = some (.str d.shown) := by
  have : decide (d.shown.length ≤ lim) = true := decide_eq_true (Nat.le_trans h.ln hN)
  simp only [reprB, h.sw, h.nd, h.sh.ok hk, this, Bool.not_false, Bool.and_self, if_true]
end Ev
set_option linter.all false
set_option Elab.async false
set_option maxRecDepth 100000
/-! K48b: the IR of the defs of k48 (printed by gen_ir.py), and what calls mean. -/
namespace K48
open Ev
def bis_whole : List Ev.S := [.ret (.and [.bi .isInt [.bv 0], .not (.bi .isBool [.bv 0])])]
def bis_lot : List Ev.S := [.ret (.and [.bi .isTuple [.bv 0], .cmp .eq [.bi .len [.bv 0], .int 2], .bi .all [.comp [1] (.nm 1) (.bv 0) [] (.call "is_whole" none [.var 1])]])]
def bpieces_counted : List Ev.S := [.asg (.nm 2) (.bin .mul [.lst [.int 1], .bi .len [.idx [.bv 0, .int 1]]]),
.forr [2] [2] (.nm 3) (.rng1 (.var 1)) [.asg (.nm 2) (.comp [5] (.nm 5) (.idx [.bv 0, .int 1]) [] (.bi .sum [.comp [4] (.nm 4) (.bv 5) [.cmp .isNot [.bv 4, .non]] (.idx [.bv 2, .bv 4])]))],
.ret (.bi .sum [.comp [6, 7] (.tup [.nm 6, .nm 7]) (.idx [.bv 0, .int 0]) [] (.idx [.bv 2, .bv 7])])]
def bblocks_of : List Ev.S := [.par [1, 2, 3] [.int 0, .int 1, .bin .mul [.tup [.int 0], .bi .len [.bv 0]]],
.whil [2, 3] [2, 3] (.cmp .gt [.bv 2, .bv 1]) [.par [1, 4, 5] [.var 2, .dic, .lst []],
.forr [3, 4, 5] [3, 4, 5] (.tup [.nm 6, .nm 7]) (.enum [.var 0]) [.asg (.nm 8) (.tup [.idx [.bv 3, .bv 6], .bi .tuple [.comp [9] (.nm 9) (.bv 7) [] (.ite (.cmp .isNot [.bv 9, .non]) (.idx [.bv 3, .bv 9]) (.neg (.int 1)))]]),
.app 5 (.setd 4 [.var 8, .bi .len [.bv 4]])],
.par [3, 2] [.bi .tuple [.bv 5], .bi .len [.bv 4]]],
.ret (.var 3)]
def bstates_come : List Ev.S := [.par [3, 4, 5] [.dic, .lst [], .int 0],
.forr [3, 4, 5] [3, 4, 5] (.tup [.nm 6, .nm 7]) (.var 0) [.ite (.cmp .notIn [.idx [.bv 2, .bv 7], .bv 3]) [.setI 3 (.idx [.bv 2, .bv 7]) (.bl true),
.app 4 (.var 7)] []],
.whil [3, 4] [3, 4] (.cmp .lt [.bv 5, .bi .len [.bv 4]]) [.forr [3, 4] [3, 4] (.nm 8) (.idx [.bv 1, .idx [.bv 4, .bv 5]]) [.ite (.and [.cmp .isNot [.bv 8, .non], .cmp .notIn [.idx [.bv 2, .bv 8], .bv 3]]) [.setI 3 (.idx [.bv 2, .bv 8]) (.bl true),
.app 4 (.var 8)] []],
.aug 5 .add (.int 1)],
.ret (.var 4)]
def btold_by : List Ev.S := [.asg (.nm 2) (.call "blocks_of" none [.var 1]),
.asg (.nm 3) (.call "states_come" none [.var 0, .var 1, .var 2]),
.asg (.nm 4) (.bi .dict [.comp [5, 6] (.tup [.nm 5, .nm 6]) (.enum [.bv 3]) [] (.tup [.idx [.bv 2, .bv 6], .var 5])]),
.asg (.nm 7) (.bi .tuple [.comp [8] (.nm 8) (.bv 2) [] (.bi .get1 [.bv 4, .bv 8])]),
.asg (.nm 9) (.comp [6] (.nm 6) (.bv 3) [] (.bi .tuple [.comp [10] (.nm 10) (.idx [.bv 1, .bv 6]) [] (.ite (.cmp .isNot [.bv 10, .non]) (.idx [.bv 7, .bv 10]) (.non))])),
.ret (.tup [.tup [.bi .tuple [.comp [11, 12] (.tup [.nm 11, .nm 12]) (.bv 0) [] (.tup [.var 11, .idx [.bv 7, .bv 12]])], .bi .tuple [.bv 9]], .var 7])]
def bstate_led : List Ev.S := [.asg (.nm 3) (.bi .get1 [.bi .dict [.idx [.bv 0, .int 0]], .bv 1]),
.forr [] [] (.nm 4) (.var 2) [.asg (.nm 3) (.ite (.cmp .isNot [.bv 3, .non]) (.idx [.idx [.idx [.bv 0, .int 1], .bv 3], .bv 4]) (.non))],
.ret (.var 3)]
def bare_starts : List Ev.S := [.ite (.not (.bi .isTuple [.bv 1])) [.ret (.bl false)] [],
.forr [] [] (.nm 2) (.var 1) [.ite (.or [.not (.bi .isTuple [.bv 2]), .cmp .ne [.bi .len [.bv 2], .int 2], .not (.call "is_lot" none [.idx [.bv 2, .int 0]])]) [.ret (.bl false)] [],
.ite (.or [.not (.call "is_whole" none [.idx [.bv 2, .int 1]]), .not (.chain .le .lt [.int 0, .idx [.bv 2, .int 1]] (.var 0))]) [.ret (.bl false)] []],
.asg (.nm 3) (.comp [2] (.nm 2) (.bv 1) [] (.idx [.bv 2, .int 0])),
.ret (.cmp .eq [.bv 3, .bi .sorted [.bi .dict [.comp [4] (.nm 4) (.bv 3) [] (.tup [.var 4, .bl true])]]])]
def bare_lines : List Ev.S := [.ite (.not (.bi .isTuple [.bv 1])) [.ret (.bl false)] [],
.forr [] [] (.nm 2) (.var 1) [.ite (.or [.not (.bi .isTuple [.bv 2]), .cmp .ne [.bi .len [.bv 2], .bv 0]]) [.ret (.bl false)] [],
.asg (.nm 3) (.comp [4] (.nm 4) (.bv 2) [.cmp .isNot [.bv 4, .non]] (.var 4)),
.ite (.or [.cmp .eq [.bv 3, .lst []], .not (.bi .all [.comp [4] (.nm 4) (.bv 3) [] (.and [.call "is_whole" none [.var 4], .chain .le .lt [.int 0, .var 4] (.bi .len [.bv 1])])])]) [.ret (.bl false)] []],
.ret (.bl true)]
def bis_complete : List Ev.S := [.ite (.or [.not (.bi .isTuple [.bv 1]), .cmp .ne [.bi .len [.bv 1], .int 2], .not (.call "are_lines" none [.var 0, .idx [.bv 1, .int 1]])]) [.ret (.bl false)] [],
.ret (.and [.call "are_starts" none [.bi .len [.idx [.bv 1, .int 1]], .idx [.bv 1, .int 0]], .cmp .eq [.idx [.call "told_by" none [.idx [.bv 1, .int 0], .idx [.bv 1, .int 1]], .int 0], .bv 1]])]
def b_law_of : List Ev.S := [.ret (.idx [.bv 1, .call "_law_pick" (some 0) [.bi .len [.bv 1]]])]
def b_law_drawn_steps : List Ev.S := [.asg (.nm 3) (.lst []),
.forr [3] [3] (.nm 4) (.rng1 (.var 1)) [.asg (.nm 5) (.comp [6] (.nm 6) (.rng1 (.var 2)) [] (.ite (.cmp .eq [.call "_law_pick" (some 0) [.int 2], .int 0]) (.call "_law_pick" (some 0) [.var 1]) (.non))),
.ite (.cmp .eq [.comp [7] (.nm 7) (.bv 5) [.cmp .isNot [.bv 7, .non]] (.var 7), .lst []]) [.setI 5 (.call "_law_pick" (some 0) [.var 2]) (.call "_law_pick" (some 0) [.var 1])] [],
.app 3 (.var 5)],
.ret (.var 3)]
def b_law_parts : List Ev.S := [.par [1, 2] [.bin .mul [.lst [.int 0], .bi .len [.bv 0]], .int 0],
.whil [1, 2] [1, 2] (.cmp .gt [.bi .len [.bi .dict [.comp [3] (.nm 3) (.bv 1) [] (.tup [.var 3, .int 0])]], .bv 2]) [.asg (.nm 2) (.bi .len [.bi .dict [.comp [3] (.nm 3) (.bv 1) [] (.tup [.var 3, .int 0])]]),
.asg (.nm 4) (.comp [6, 7] (.tup [.nm 6, .nm 7]) (.enum [.bv 0]) [] (.tup [.idx [.bv 1, .bv 6], .comp [5] (.nm 5) (.bv 7) [] (.ite (.cmp .isNot [.bv 5, .non]) (.idx [.bv 1, .bv 5]) (.neg (.int 1)))])),
.asg (.nm 1) (.comp [8] (.nm 8) (.bv 4) [] (.bi .index [.bv 4, .bv 8]))],
.ret (.var 1)]
def b_law_least : List Ev.S := [.par [2, 3, 4] [.call "_law_parts" none [.var 1], .lst [], .int 0],
.forr [3, 4] [3, 4] (.tup [.nm 5, .nm 6]) (.var 0) [.ite (.cmp .notIn [.idx [.bv 2, .bv 6], .bv 3]) [.app 3 (.idx [.bv 2, .bv 6])] []],
.whil [3, 4] [3, 4] (.cmp .lt [.bv 4, .bi .len [.bv 3]]) [.forr [3, 4] [3, 4] (.nm 7) (.idx [.bv 1, .idx [.bv 3, .bv 4]]) [.ite (.and [.cmp .isNot [.bv 7, .non], .cmp .notIn [.idx [.bv 2, .bv 7], .bv 3]]) [.app 3 (.idx [.bv 2, .bv 7])] []],
.asg (.nm 4) (.bin .add [.bv 4, .int 1])],
.asg (.nm 8) (.lst []),
.forr [4, 8] [4, 8] (.nm 6) (.var 3) [.app 8 (.bi .tuple [.comp [7] (.nm 7) (.idx [.bv 1, .bv 6]) [] (.ite (.cmp .isNot [.bv 7, .non]) (.bi .index [.bv 3, .idx [.bv 2, .bv 7]]) (.non))])],
.ret (.tup [.bi .tuple [.comp [5, 6] (.tup [.nm 5, .nm 6]) (.bv 0) [] (.tup [.var 5, .bi .index [.bv 3, .idx [.bv 2, .bv 6]]])], .bi .tuple [.bv 8]])]
def b_law_counts : List Ev.S := [.par [2, 3] [.bin .mul [.lst [.int 1], .bi .len [.idx [.bv 0, .int 1]]], .lst []],
.forr [2, 3] [2, 3] (.nm 4) (.rng1 (.bin .add [.bv 1, .int 1])) [.app 3 (.bi .sum [.comp [5, 6] (.tup [.nm 5, .nm 6]) (.idx [.bv 0, .int 0]) [] (.idx [.bv 2, .bv 6])]),
.asg (.nm 2) (.comp [8] (.nm 8) (.idx [.bv 0, .int 1]) [] (.bi .sum [.comp [7] (.nm 7) (.bv 8) [.cmp .isNot [.bv 7, .non]] (.idx [.bv 2, .bv 7])]))],
.ret (.var 3)]
def b_law_rows : List Ev.S := [.asg (.nm 2) (.lst [.tup []]),
.forr [] [] (.nm 3) (.rng1 (.var 1)) [.asg (.nm 4) (.lst []),
.forr [4] [4] (.nm 5) (.var 2) [.asg (.nm 4) (.bin .add [.bv 4, .comp [6] (.nm 6) (.rng1 (.var 0)) [] (.bin .add [.bv 5, .tup [.var 6]])])],
.asg (.nm 2) (.var 4)],
.ret (.var 2)]
def b_law_bent : List Ev.S := [.asg (.tup [.nm 3, .nm 4]) (.var 1),
.asg (.nm 5) (.lst [.tup [.rev [.bv 3], .var 4], .tup [.bin .add [.bv 3, .slc false true [.bv 3, .int 1]], .var 4], .tup [.var 3, .bin .add [.bv 4, .slc false true [.bv 4, .int 1]]], .tup [.bi .list [.bv 3], .var 4]]),
.asg (.nm 5) (.bin .add [.bv 5, .lst [.tup [.var 3, .var 4, .tup []], .tup [.slc false true [.bv 3, .int 1], .bin .add [.bv 4, .tup [.bin .mul [.tup [.non], .bv 2]]]], .tup [.var 3, .tup []], .non]]),
.app 5 (.tup [.tup [.tup [.tup [.int 0, .int 0], .int 9]], .var 4]),
.asg (.nm 5) (.bin .add [.bv 5, .lst [.tup [.var 3, .bi .tuple [.comp [6] (.nm 6) (.bv 4) [] (.bin .add [.bv 6, .tup [.non]])]], .str "x", .tup []]]),
.ret (.call "_law_of" (some 0) [.var 5])]
def blaw : List Ev.S := [.par [2, 3] [.bin .add [.int 2, .call "_law_pick" (some 1) [.int 4]], .bin .add [.int 1, .call "_law_pick" (some 1) [.int 6]]],
.asg (.nm 4) (.comp [5] (.nm 5) (.rng1 (.bin .add [.int 1, .call "_law_pick" (some 1) [.int 4]])) [] (.tup [.bin .sub [.call "_law_pick" (some 1) [.int 5], .int 2], .bin .sub [.call "_law_pick" (some 1) [.int 5], .int 2]])),
.asg (.nm 4) (.bi .sorted [.bi .dict [.comp [6] (.nm 6) (.bv 4) [] (.tup [.var 6, .int 0])]]),
.asg (.nm 7) (.call "_law_drawn_steps" (some 1) [.var 3, .var 2]),
.asg (.nm 8) (.call "_law_least" none [.comp [6] (.nm 6) (.bv 4) [] (.tup [.var 6, .call "_law_pick" (some 1) [.var 3]]), .var 7]),
.ite (.cmp .isNot [.call "is_complete" none [.var 2, .var 8], .bl true]) [.ret (.bl false)] [],
.forr [4] [4] (.nm 9) (.rng1 (.int 3)) [.asg (.nm 10) (.call "_law_bent" (some 1) [.var 8, .var 2]),
.asg (.nm 11) (.and [.cmp .lt [.bi .len [.idx [.bv 8, .int 0]], .int 2], .cmp .eq [.bi .repr [.bv 10], .bi .repr [.bv 8]]]),
.ite (.cmp .ne [.bi .repr [.call "is_complete" none [.var 2, .var 10]], .bi .repr [.bv 11]]) [.ret (.bl false)] []],
.par [12, 13] [.call "_law_counts" none [.var 8, .int 60], .ite (.cmp .eq [.bv 2, .int 2]) (.int 4) (.int 2)],
.forr [4] [4] (.nm 14) (.bin .add [.lst [.int 0, .int 1, .int 2, .var 13, .int 60], .comp [9] (.nm 9) (.rng1 (.int 4)) [] (.call "_law_pick" (some 1) [.int 61])]) [.ite (.cmp .ne [.bi .repr [.call "pieces_counted" none [.var 8, .var 14]], .bi .repr [.idx [.bv 12, .bv 14]]]) [.ret (.bl false)] []],
.asg (.nm 15) (.int 0),
.forr [4, 15] [4, 15] (.tup [.nm 6, .nm 16]) (.idx [.bv 8, .int 0]) [.forr [4, 15] [4, 15] (.nm 17) (.call "_law_rows" none [.var 2, .var 13]) [.asg (.nm 18) (.var 16),
.forr [4, 15] [4, 15] (.nm 19) (.var 17) [.asg (.nm 18) (.ite (.cmp .isNot [.bv 18, .non]) (.idx [.idx [.idx [.bv 8, .int 1], .bv 18], .bv 19]) (.non))],
.ite (.cmp .ne [.bi .repr [.call "state_led" none [.var 8, .var 6, .var 17]], .bi .repr [.bv 18]]) [.ret (.bl false)] [],
.asg (.nm 15) (.bin .add [.bv 15, .bi .int [.cmp .isNot [.bv 18, .non]]])]],
.ite (.or [.cmp .ne [.bv 15, .idx [.bv 12, .bv 13]], .cmp .isNot [.call "state_led" none [.var 8, .tup [.int 9, .int 9], .tup []], .non]]) [.ret (.bl false)] [],
.asg (.nm 20) (.tup [.tup [.tup [.tup [.int 0, .int 0], .int 0]], .tup [.tup [.int 0, .int 0, .non, .non]]]),
.asg (.nm 21) (.lst [.call "pieces_counted" none [.var 20, .int 60], .call "pieces_counted" none [.tup [.tup [], .tup []], .int 7], .call "pieces_counted" none [.var 20, .int 0], .call "is_complete" none [.int 3, .tup [.tup [], .tup []]]]),
.ret (.cmp .eq [.bi .repr [.bv 21], .bi .repr [.lst [.bin .pow [.int 2, .int 60], .int 0, .int 1, .bl true]]])]
def Fis_whole : Fn := ⟨1, false, bis_whole⟩
def Fis_lot : Fn := ⟨2, false, bis_lot⟩
def Fpieces_counted : Fn := ⟨8, false, bpieces_counted⟩
def Fblocks_of : Fn := ⟨10, false, bblocks_of⟩
def Fstates_come : Fn := ⟨9, false, bstates_come⟩
def Ftold_by : Fn := ⟨13, false, btold_by⟩
def Fstate_led : Fn := ⟨5, false, bstate_led⟩
def Fare_starts : Fn := ⟨5, false, bare_starts⟩
def Fare_lines : Fn := ⟨5, false, bare_lines⟩
def Fis_complete : Fn := ⟨2, false, bis_complete⟩
def F_law_of : Fn := ⟨2, true, b_law_of⟩
def F_law_drawn_steps : Fn := ⟨8, true, b_law_drawn_steps⟩
def F_law_parts : Fn := ⟨9, false, b_law_parts⟩
def F_law_least : Fn := ⟨9, false, b_law_least⟩
def F_law_counts : Fn := ⟨9, false, b_law_counts⟩
def F_law_rows : Fn := ⟨7, false, b_law_rows⟩
def F_law_bent : Fn := ⟨7, true, b_law_bent⟩
/-- no calls -/
def noC : Calls := fun _ _ _ => none
/-- calls of defs of level 0 -/
def G0 : Calls := fun f => if f = "_law_pick" then pick else if f = "is_whole" then runFn noC Fis_whole else if f = "pieces_counted" then runFn noC Fpieces_counted else if f = "blocks_of" then runFn noC Fblocks_of else if f = "states_come" then runFn noC Fstates_come else if f = "state_led" then runFn noC Fstate_led else if f = "_law_parts" then runFn noC F_law_parts else if f = "_law_counts" then runFn noC F_law_counts else if f = "_law_rows" then runFn noC F_law_rows else noC f
/-- calls of defs of level 1 -/
def G1 : Calls := fun f => if f = "is_lot" then runFn G0 Fis_lot else if f = "told_by" then runFn G0 Ftold_by else if f = "are_lines" then runFn G0 Fare_lines else if f = "_law_of" then runFn G0 F_law_of else if f = "_law_drawn_steps" then runFn G0 F_law_drawn_steps else if f = "_law_least" then runFn G0 F_law_least else G0 f
/-- calls of defs of level 2 -/
def G2 : Calls := fun f => if f = "are_starts" then runFn G1 Fare_starts else if f = "_law_bent" then runFn G1 F_law_bent else G1 f
/-- calls of defs of level 3 -/
def G3 : Calls := fun f => if f = "is_complete" then runFn G2 Fis_complete else G2 f
theorem G1_blocks_of : G1 "blocks_of" = runFn noC Fblocks_of := by simp [G1, G0]
theorem G3_is_whole : G3 "is_whole" = runFn noC Fis_whole := by simp [G3, G2, G1, G0]
end K48
set_option linter.all false
set_option Elab.async false
set_option maxRecDepth 100000
set_option maxHeartbeats 1000000
/-! K48a: the IR of the defs of k48 (printed by gen_ir.py) and its match with the text. -/
namespace K48
open PySem PySem.Spec PyProof.Rows L2 EvK EvS
open Ev (E S Tgt)
def top (i : Nat) : Stmt := PySem.Challenge.pw_touchingtiles_k48_pieces_counted.main.body.getD i (.Pass ⟨0, 0, 0, 0⟩)
def rkF : String → Kd := fun _ => .fz
def sis_whole : SS := ⟨["value"], [], rkF, ["bool", "int", "isinstance"]⟩
theorem mis_whole : (mSs sis_whole .fz ⟨defScope (top 1), fun _ => true⟩ bis_whole (startK false 0 1) none (defBody (top 1))).isSome = true := by decide +kernel
def sis_lot : SS := ⟨["value", "one"], [("is_whole", false, 1)], rkF, ["all", "isinstance", "len", "tuple"]⟩
theorem mis_lot : (mSs sis_lot .fz ⟨defScope (top 3), fun _ => true⟩ bis_lot (startK false 0 2) none (defBody (top 3))).isSome = true := by decide +kernel
def spieces_counted : SS := ⟨["value", "many", "counts", "lap", "late", "line", "lot", "state"], [], rkF, ["len", "range", "sum"]⟩
theorem mpieces_counted : (mSs spieces_counted .fz ⟨defScope (top 5), fun _ => true⟩ bpieces_counted (startK false 0 8) none (defBody (top 5))).isSome = true := by decide +kernel
def sblocks_of : SS := ⟨["steps", "many", "late", "blocks", "known", "found", "here", "line", "key", "one"], [], rkF, ["enumerate", "len", "tuple"]⟩
theorem mblocks_of : (mSs sblocks_of .fz ⟨defScope (top 7), fun _ => true⟩ bblocks_of (startK false 0 10) none (defBody (top 7))).isSome = true := by decide +kernel
def sstates_come : SS := ⟨["starts", "steps", "blocks", "known", "line", "k", "lot", "here", "late"], [], rkF, ["len"]⟩
theorem mstates_come : (mSs sstates_come .fz ⟨defScope (top 8), fun _ => true⟩ bstates_come (startK false 0 9) none (defBody (top 8))).isSome = true := by decide +kernel
def stold_by : SS := ⟨["starts", "steps", "blocks", "heads", "order", "number", "head", "places", "block", "found", "late", "lot", "here"], [("blocks_of", false, 1), ("states_come", false, 3)], rkF, ["dict", "enumerate", "tuple"]⟩
theorem mtold_by : (mSs stold_by .fz ⟨defScope (top 9), fun _ => true⟩ btold_by (startK false 0 13) none (defBody (top 9))).isSome = true := by decide +kernel
def sstate_led : SS := ⟨["value", "lot", "digits", "here", "digit"], [], rkF, ["dict"]⟩
theorem mstate_led : (mSs sstate_led .fz ⟨defScope (top 10), fun _ => true⟩ bstate_led (startK false 0 5) none (defBody (top 10))).isSome = true := by decide +kernel
def sare_starts : SS := ⟨["many", "value", "pair", "lots", "lot"], [("is_lot", false, 1), ("is_whole", false, 1)], rkF, ["dict", "isinstance", "len", "sorted", "tuple"]⟩
theorem mare_starts : (mSs sare_starts .fz ⟨defScope (top 11), fun _ => true⟩ bare_starts (startK false 0 5) none (defBody (top 11))).isSome = true := by decide +kernel
def sare_lines : SS := ⟨["many", "value", "line", "some", "late"], [("is_whole", false, 1)], rkF, ["all", "isinstance", "len", "tuple"]⟩
theorem mare_lines : (mSs sare_lines .fz ⟨defScope (top 12), fun _ => true⟩ bare_lines (startK false 0 5) none (defBody (top 12))).isSome = true := by decide +kernel
def sis_complete : SS := ⟨["many", "value"], [("are_lines", false, 2), ("are_starts", false, 2), ("told_by", false, 2)], rkF, ["isinstance", "len", "tuple"]⟩
theorem mis_complete : (mSs sis_complete .fz ⟨defScope (top 13), fun _ => true⟩ bis_complete (startK false 0 2) none (defBody (top 13))).isSome = true := by decide +kernel
def s_law_of : SS := ⟨["source", "some"], [("_law_pick", true, 1)], rkF, ["len"]⟩
theorem m_law_of : (mSs s_law_of .fz ⟨defScope (top 17), fun _ => true⟩ b_law_of (startK true 0 2) none (defBody (top 17))).isSome = true := by decide +kernel
def s_law_drawn_steps : SS := ⟨["source", "many", "digits", "found", "here", "line", "digit", "late"], [("_law_pick", true, 1)], rkF, ["range"]⟩
theorem m_law_drawn_steps : (mSs s_law_drawn_steps .fz ⟨defScope (top 18), fun _ => true⟩ b_law_drawn_steps (startK true 0 8) none (defBody (top 18))).isSome = true := by decide +kernel
def s_law_parts : SS := ⟨["steps", "found", "many", "one", "keys", "late", "k", "line", "key"], [], rkF, ["dict", "enumerate", "len"]⟩
theorem m_law_parts : (mSs s_law_parts .fz ⟨defScope (top 19), fun _ => true⟩ b_law_parts (startK false 0 9) none (defBody (top 19))).isSome = true := by decide +kernel
def s_law_least : SS := ⟨["starts", "steps", "parts", "line", "k", "lot", "here", "late", "found"], [("_law_parts", false, 1)], rkF, ["len", "tuple"]⟩
theorem m_law_least : (mSs s_law_least .fz ⟨defScope (top 20), fun _ => true⟩ b_law_least (startK false 0 9) none (defBody (top 20))).isSome = true := by decide +kernel
def s_law_counts : SS := ⟨["value", "most", "ways", "found", "n", "lot", "here", "late", "line"], [], rkF, ["len", "range", "sum"]⟩
theorem m_law_counts : (mSs s_law_counts .fz ⟨defScope (top 21), fun _ => true⟩ b_law_counts (startK false 0 9) none (defBody (top 21))).isSome = true := by decide +kernel
def s_law_rows : SS := ⟨["digits", "many", "found", "lap", "late", "row", "digit"], [], rkF, ["range"]⟩
theorem m_law_rows : (mSs s_law_rows .fz ⟨defScope (top 22), fun _ => true⟩ b_law_rows (startK false 0 7) none (defBody (top 22))).isSome = true := by decide +kernel
def s_law_bent : SS := ⟨["source", "value", "digits", "starts", "steps", "some", "line"], [("_law_of", true, 1)], rkF, ["list", "tuple"]⟩
theorem m_law_bent : (mSs s_law_bent .fz ⟨defScope (top 23), fun _ => true⟩ b_law_bent (startK true 0 7) none (defBody (top 23))).isSome = true := by decide +kernel
def slaw : SS := ⟨["script", "source", "digits", "many", "lots", "k", "lot", "steps", "value", "turn", "bent", "due", "counts", "most", "n", "rows", "here", "row", "late", "digit", "side", "told"], [("_law_bent", true, 2), ("_law_counts", false, 2), ("_law_drawn_steps", true, 2), ("_law_least", false, 2), ("_law_pick", true, 1), ("_law_rows", false, 2), ("is_complete", false, 2), ("pieces_counted", false, 2), ("state_led", false, 3)], rkF, ["dict", "int", "len", "range", "repr", "sorted"]⟩
theorem mlaw : (mSs slaw .fz ⟨defScope (top 24), fun _ => true⟩ blaw (lawK 20) none ((defBody (top 24)).drop 1)).isSome = true := by decide +kernel
end K48
set_option linter.all false
set_option maxRecDepth 10000
/-! K48m: the mathematics of k48: labels of states, parted lap by lap; states come to; ways counted. -/
namespace K48
open Ev
abbrev Line := List (Option Nat)
abbrev Steps := List Line

/-! ### labels -/
def lb (f : List Nat) (i : Nat) : Nat := f.getD i 0
def keyAt (st : Steps) (f : List Nat) (i : Nat) : Nat × Line := (lb f i, (st.getD i []).map (Option.map (lb f)))
def keysOf (st : Steps) (f : List Nat) : List (Nat × Line) := (List.range st.length).map (keyAt st f)
/-- all states that lines tell are there -/
def Ok (st : Steps) : Prop := ∀ l ∈ st, ∀ j, some j ∈ l → j < st.length
/-- lines whose states are related one by one -/
inductive Al (R : Nat → Nat → Prop) : Line → Line → Prop
  | nil : Al R [] []
  | nn {l m : Line} : Al R l m → Al R (none :: l) (none :: m)
  | ss {x y : Nat} {l m : Line} : R x y → Al R l m → Al R (some x :: l) (some y :: m)
/-- related states are led on alike -/
def Bis (st : Steps) (R : Nat → Nat → Prop) : Prop := ∀ i j, i < st.length → j < st.length → R i j → Al R (st.getD i []) (st.getD j [])
/-- a labelling that has gone through a lap, of the keys of the labelling ahead of it -/
structure Lap (st : Steps) (f g : List Nat) : Prop where
  lf : f.length = st.length
  lg : g.length = st.length
  iff : ∀ i j, i < st.length → j < st.length → (lb f i = lb f j ↔ keyAt st g i = keyAt st g j)
theorem lb_map {st : Steps} {ν : Nat × Line → Nat} {g : List Nat} {i : Nat} (h : i < st.length) : lb ((keysOf st g).map ν) i = ν (keyAt st g i) := by
  simp [lb, keysOf, List.getD, h]
theorem Lap.mk' {st : Steps} {g : List Nat} {ν : Nat × Line → Nat} (lg : g.length = st.length) (h : ∀ x ∈ keysOf st g, ∀ y ∈ keysOf st g, ν x = ν y → x = y) : Lap st ((keysOf st g).map ν) g := by
  refine ⟨by simp [keysOf], lg, fun i j hi hj => ?_⟩
  rw [lb_map hi, lb_map hj]
  refine ⟨fun e => h _ ?_ _ ?_ e, fun e => by rw [e]⟩
  · exact List.mem_map_of_mem (List.mem_range.mpr hi)
  · exact List.mem_map_of_mem (List.mem_range.mpr hj)
theorem map_range_lb {f : List Nat} : (List.range f.length).map (lb f) = f := by
  apply List.ext_getElem
  · simp
  · intro i h1 h2
    simp [lb, List.getD, h2]
theorem getD_mem {st : Steps} {i : Nat} (h : i < st.length) : st.getD i [] ∈ st := by
  simp only [List.getD, List.getElem?_eq_getElem h, Option.getD_some]
  exact List.getElem_mem h
/-- lines that one labelling tells alike -/
theorem map_congr_lab {st : Steps} {f g : List Nat} (hk : Ok st) {i j : Nat} (hi : i < st.length) (hj : j < st.length) (h : ∀ a b, a < st.length → b < st.length → lb g a = lb g b → lb f a = lb f b)
    (e : (st.getD i []).map (Option.map (lb g)) = (st.getD j []).map (Option.map (lb g))) : (st.getD i []).map (Option.map (lb f)) = (st.getD j []).map (Option.map (lb f)) := by
  have h1 := hk _ (getD_mem hi)
  have h2 := hk _ (getD_mem hj)
  generalize st.getD i [] = l at *
  generalize st.getD j [] = m at *
  induction l generalizing m with
  | nil =>
    cases m with
    | nil => rfl
    | cons b m => simp at e
  | cons a l ih =>
    cases m with
    | nil => simp at e
    | cons b m =>
      simp only [List.map_cons, List.cons.injEq] at e ⊢
      refine ⟨?_, ih (fun j hj => h1 j (by simp [hj])) m (fun j hj => h2 j (by simp [hj])) e.2⟩
      cases a with
      | none => cases b with
        | none => rfl
        | some b => simp at e
      | some a => cases b with
        | none => simp at e
        | some b =>
          simp only [Option.map_some, Option.some.injEq] at e ⊢
          exact h _ _ (h1 a (by simp)) (h2 b (by simp)) e.1
/-- where a lap parts no more, states of one label are led on alike -/
theorem Lap.stable {st : Steps} {f g : List Nat} (L : Lap st f g) (hk : Ok st) (hc : (dd f).length ≤ (dd g).length) {i j : Nat} (hi : i < st.length) (hj : j < st.length) (e : lb f i = lb f j) :
    (st.getD i []).map (Option.map (lb f)) = (st.getD j []).map (Option.map (lb f)) := by
  have ke := (L.iff i j hi hj).mp e
  have hg : ∀ a b, a < st.length → b < st.length → lb g a = lb g b → keyAt st g a = keyAt st g b := by
    intro a b ha hb eg
    have hf : (dd f).length = (dd (keysOf st g)).length := by
      have : f = (keysOf st g).map fun k => lb f (idx (keysOf st g) k) := by
        apply List.ext_getElem
        · simp [keysOf, L.lf]
        · intro n h1 h2
          have hn : n < st.length := by rw [← L.lf]; exact h1
          simp only [List.getElem_map]
          have hm : (keysOf st g)[n]'(by simp [keysOf, hn]) ∈ keysOf st g := List.getElem_mem _
          have hlt := idx_lt hm
          have hkk := idx_get hm
          have hlt' : idx (keysOf st g) ((keysOf st g)[n]'(by simp [keysOf, hn])) < st.length := by simpa [keysOf] using hlt
          have : keyAt st g (idx (keysOf st g) ((keysOf st g)[n]'(by simp [keysOf, hn]))) = keyAt st g n := by
            have a1 : ∀ m (hm : m < st.length), (keysOf st g)[m]'(by simp [keysOf, hm]) = keyAt st g m := by intro m hm; simp [keysOf]
            rw [← a1 _ hlt', ← a1 n hn]
            exact hkk
          have := (L.iff _ _ hlt' hn).mpr this
          rw [this]
          simp [lb, List.getD, h1]
      rw [this]
      refine dd_map_len fun x hx y hy e => ?_
      have hx' := idx_lt hx
      have hy' := idx_lt hy
      have hx2 : idx (keysOf st g) x < st.length := by simpa [keysOf] using hx'
      have hy2 : idx (keysOf st g) y < st.length := by simpa [keysOf] using hy'
      have := (L.iff _ _ hx2 hy2).mp e
      have a1 : ∀ m (hm : m < st.length), (keysOf st g)[m]'(by simp [keysOf, hm]) = keyAt st g m := by intro m hm; simp [keysOf]
      rw [← idx_get hx, ← idx_get hy, a1 _ hx2, a1 _ hy2]
      exact this
    have hgl : (dd g).length = (dd ((keysOf st g).map Prod.fst)).length := by
      congr 2
      conv => lhs; rw [← map_range_lb (f := g)]
      rw [L.lg, keysOf, List.map_map]
      rfl
    refine inj_of_dd (xs := keysOf st g) (g := Prod.fst) (by omega) ?_ ?_ eg
    · exact List.mem_map_of_mem (List.mem_range.mpr ha)
    · exact List.mem_map_of_mem (List.mem_range.mpr hb)
  refine map_congr_lab hk hi hj (fun a b ha hb eg => (L.iff a b ha hb).mpr (hg a b ha hb eg)) ?_
  exact congrArg Prod.snd ke
/-- what is led on alike is not parted -/
def Coarse (st : Steps) (f : List Nat) : Prop := ∀ R : Nat → Nat → Prop, Bis st R → ∀ i j, i < st.length → j < st.length → R i j → lb f i = lb f j
theorem Lap.coarse {st : Steps} {f g : List Nat} (L : Lap st f g) (hk : Ok st) (h : Coarse st g) : Coarse st f := fun R B i j hi hj r => by
  refine (L.iff i j hi hj).mpr ?_
  unfold keyAt
  rw [h R B i j hi hj r]
  congr 1
  have := B i j hi hj r
  have h1 := hk _ (getD_mem hi)
  have h2 := hk _ (getD_mem hj)
  generalize st.getD i [] = l at *
  generalize st.getD j [] = m at *
  induction this with
  | nil => rfl
  | nn _ ih =>
    simp only [List.map_cons, List.cons.injEq]
    exact ⟨trivial, ih (fun j hj => h1 j (by simp [hj])) (fun j hj => h2 j (by simp [hj]))⟩
  | @ss x y l m q _ ih =>
    simp only [List.map_cons, List.cons.injEq, Option.map_some, Option.some.injEq]
    exact ⟨h R B x y (h1 x (by simp)) (h2 y (by simp)) q, ih (fun j hj => h1 j (by simp [hj])) (fun j hj => h2 j (by simp [hj]))⟩
theorem coarse_zero {st : Steps} {n : Nat} : Coarse st (List.replicate n 0) := fun R B i j hi hj r => by
  simp only [lb, List.getD, List.getElem?_replicate]
  split <;> split <;> rfl


/-! ### states come to -/
/-- a line of states that is led on, lap by lap -/
inductive Run (sc : Nat → List Nat) (s : List Nat) : Nat → List Nat → Prop
  | init : Run sc s 0 (ddFrom [] s)
  | step {k : Nat} {line : List Nat} {a : Nat} : Run sc s k line → line[k]? = some a → Run sc s (k + 1) (ddFrom line (sc a))
theorem Run.nodup {sc : Nat → List Nat} {s : List Nat} {k : Nat} {line : List Nat} (h : Run sc s k line) : line.Nodup := by
  induction h with
  | init => exact nodup_dd
  | step _ _ ih => exact nodup_ddFrom ih
theorem Run.det {sc : Nat → List Nat} {s : List Nat} {k : Nat} {l1 : List Nat} (h1 : Run sc s k l1) : ∀ {l2 : List Nat}, Run sc s k l2 → l1 = l2 := by
  induction h1 with
  | init => intro l2 h2; cases h2; rfl
  | step _ e ih =>
    intro l2 h2
    cases h2 with
    | step q e2 =>
      have := ih q
      subst this
      rw [e] at e2
      cases e2
      rfl
theorem Run.le {sc : Nat → List Nat} {s : List Nat} {k : Nat} {l : List Nat} (h : Run sc s k l) : k ≤ l.length := by
  cases h with
  | init => exact Nat.zero_le _
  | @step k line a q e =>
    obtain ⟨r, e2⟩ := ddFrom_pre (xs := sc a) (kn := line)
    have : k < line.length := by
      rcases Nat.lt_or_ge k line.length with z | z
      · exact z
      · rw [List.getElem?_eq_none z] at e; cases e
    rw [e2, List.length_append]; omega
theorem Run.pre {sc : Nat → List Nat} {s : List Nat} {k : Nat} {l : List Nat} (h : Run sc s k l) : ∀ j, j ≤ k → ∃ l', Run sc s j l' ∧ ∃ r, l = l' ++ r := by
  induction h with
  | init => intro j hj; exact ⟨_, by rw [Nat.le_zero.mp hj]; exact .init, [], by simp⟩
  | @step k line a q e ih =>
    intro j hj
    by_cases hjk : j = k + 1
    · subst hjk; exact ⟨_, .step q e, [], by simp⟩
    · obtain ⟨l', h1, r, h2⟩ := ih j (by omega)
      obtain ⟨r2, e2⟩ := ddFrom_pre (xs := sc a) (kn := line)
      exact ⟨l', h1, r ++ r2, by rw [e2, h2]; simp⟩
/-- there is one end -/
theorem Run.fin {sc : Nat → List Nat} {s : List Nat} {k1 k2 : Nat} {l1 l2 : List Nat} (h1 : Run sc s k1 l1) (h2 : Run sc s k2 l2) (e1 : l1.length ≤ k1) (e2 : l2.length ≤ k2) : l1 = l2 := by
  have aux : ∀ {k1 k2 : Nat} {l1 l2 : List Nat}, Run sc s k1 l1 → Run sc s k2 l2 → l1.length ≤ k1 → k1 < k2 → False := by
    intro k1 k2 l1 l2 h1 h2 e1 hk
    obtain ⟨l', q, r, e⟩ := h2.pre (k1 + 1) hk
    cases q with
    | @step _ line a q e3 =>
      have := q.det h1
      subst this
      rw [List.getElem?_eq_none e1] at e3
      cases e3
  rcases Nat.lt_trichotomy k1 k2 with h | h | h
  · exact (aux h1 h2 e1 h).elim
  · subst h; exact h1.det h2
  · exact (aux h2 h1 e2 h).elim
theorem Run.sub {sc : Nat → List Nat} {s : List Nat} {k : Nat} {l : List Nat} (h : Run sc s k l) (p : Nat → Prop) (h0 : ∀ x ∈ s, p x) (h1 : ∀ a, p a → ∀ x ∈ sc a, p x) : ∀ x ∈ l, p x := by
  induction h with
  | init => intro x hx; exact h0 x (mem_dd.mp hx)
  | step q e ih =>
    intro x hx
    rcases mem_ddFrom.mp hx with z | z
    · exact ih x z
    · exact h1 _ (ih _ (List.mem_of_getElem? e)) x z
theorem Run.start {sc : Nat → List Nat} {s : List Nat} {k : Nat} {l : List Nat} (h : Run sc s k l) : ∀ x ∈ s, x ∈ l := by
  induction h with
  | init => intro x hx; exact mem_dd.mpr hx
  | step q e ih => intro x hx; exact mem_ddFrom.mpr (.inl (ih x hx))
theorem Run.closed {sc : Nat → List Nat} {s : List Nat} {k : Nat} {l : List Nat} (h : Run sc s k l) : ∀ j a, j < k → l[j]? = some a → ∀ x ∈ sc a, x ∈ l := by
  induction h with
  | init => intro j a hj; omega
  | @step k line b q e ih =>
    intro j a hj ha x hx
    obtain ⟨r, e2⟩ := ddFrom_pre (xs := sc b) (kn := line)
    have hjl : j < line.length := by
      have : k < line.length := by
        rcases Nat.lt_or_ge k line.length with z | z
        · exact z
        · rw [List.getElem?_eq_none z] at e; cases e
      omega
    have ha' : line[j]? = some a := by
      rw [e2, List.getElem?_append_left hjl] at ha
      exact ha
    by_cases hjk : j = k
    · subst hjk
      rw [e] at ha'
      cases ha'
      exact mem_ddFrom.mpr (.inr hx)
    · exact mem_ddFrom.mpr (.inl (ih j a (by omega) ha' x hx))
theorem Run.all {sc : Nat → List Nat} {s : List Nat} {k : Nat} {l : List Nat} (h : Run sc s k l) (e : l.length ≤ k) {a : Nat} (ha : a ∈ l) : ∀ x ∈ sc a, x ∈ l := by
  obtain ⟨j, hj, rfl⟩ := List.getElem_of_mem ha
  exact h.closed j _ (by omega) (List.getElem?_eq_getElem hj)
theorem ddFrom_map {φ : Nat → Nat} : ∀ {xs kn : List Nat}, (∀ x ∈ xs, ∀ y ∈ kn ++ xs, φ x = φ y → x = y) → ddFrom (kn.map φ) (xs.map φ) = (ddFrom kn xs).map φ
  | [], kn, _ => rfl
  | x :: xs, kn, h => by
    rw [List.map_cons]
    unfold ddFrom
    have hi : φ x ∈ kn.map φ ↔ x ∈ kn := by
      constructor
      · intro z
        obtain ⟨y, hy, e⟩ := List.mem_map.mp z
        rw [h x (by simp) y (by simp [hy]) e.symm]
        exact hy
      · exact List.mem_map_of_mem
    by_cases hx : x ∈ kn
    · rw [if_pos (hi.mpr hx), if_pos hx]
      exact ddFrom_map fun a ha b hb e => h a (by simp [ha]) b (by simp at hb ⊢; rcases hb with z | z; exact .inl z; exact .inr (.inr z)) e
    · rw [if_neg (fun z => hx (hi.mp z)), if_neg hx]
      rw [show kn.map φ ++ [φ x] = (kn ++ [x]).map φ by simp]
      exact ddFrom_map fun a ha b hb e => h a (by simp [ha]) b (by simpa using hb) e
theorem Run.map {sc sc' : Nat → List Nat} {s s' : List Nat} {φ : Nat → Nat} {n : Nat} (hφ : ∀ x y, x < n → y < n → φ x = φ y → x = y) (hs : ∀ x ∈ s, x < n) (hsc : ∀ a, a < n → ∀ x ∈ sc a, x < n) (es : s' = s.map φ) (esc : ∀ a, a < n → sc' (φ a) = (sc a).map φ)
    {k : Nat} {l : List Nat} (h : Run sc s k l) : Run sc' s' k (l.map φ) := by
  induction h with
  | init =>
    rw [← ddFrom_map (φ := φ) (kn := []) fun x hx y hy e => hφ x y (hs x hx) (hs y (by simpa using hy)) e]
    subst es
    exact .init
  | @step k line a q e ih =>
    have hl := q.sub (· < n) hs hsc
    have ha := hl a (List.mem_of_getElem? e)
    rw [← ddFrom_map fun x hx y hy e => hφ x y (hsc a ha x hx) (by rcases List.mem_append.mp hy with z | z; exact hl y z; exact hsc a ha y z) e, ← esc a ha]
    exact .step ih (by rw [List.getElem?_map, e]; rfl)
/-- the same with states in the place of their labels -/
def addB (B : Nat → Nat) : List Nat → List Nat → List Nat
  | kn, [] => kn
  | kn, x :: xs => if B x ∈ kn.map B then addB B kn xs else addB B (kn ++ [x]) xs
theorem addB_map {B : Nat → Nat} : ∀ {xs kn : List Nat}, (addB B kn xs).map B = ddFrom (kn.map B) (xs.map B)
  | [], kn => rfl
  | x :: xs, kn => by
    rw [List.map_cons]
    unfold addB ddFrom
    split
    · exact addB_map
    · rw [addB_map]; simp
theorem addB_mem {B : Nat → Nat} : ∀ {xs kn : List Nat} {x : Nat}, x ∈ addB B kn xs → x ∈ kn ∨ x ∈ xs
  | [], kn, x, h => .inl h
  | y :: ys, kn, x, h => by
    unfold addB at h
    split at h
    · rcases addB_mem h with z | z
      · exact .inl z
      · exact .inr (by simp [z])
    · rcases addB_mem h with z | z
      · simp at z; rcases z with z | z
        · exact .inl z
        · exact .inr (by simp [z])
      · exact .inr (by simp [z])
theorem addB_inj {B : Nat → Nat} : ∀ {xs kn : List Nat}, (∀ x ∈ xs, ∀ y ∈ kn ++ xs, B x = B y → x = y) → addB B kn xs = ddFrom kn xs
  | [], kn, _ => rfl
  | x :: xs, kn, h => by
    unfold addB ddFrom
    have hi : B x ∈ kn.map B ↔ x ∈ kn := by
      constructor
      · intro z
        obtain ⟨y, hy, e⟩ := List.mem_map.mp z
        rw [h x (by simp) y (by simp [hy]) e.symm]
        exact hy
      · exact List.mem_map_of_mem
    by_cases hx : x ∈ kn
    · rw [if_pos (hi.mpr hx), if_pos hx]
      exact addB_inj fun a ha b hb e => h a (by simp [ha]) b (by simp at hb ⊢; rcases hb with z | z; exact .inl z; exact .inr (.inr z)) e
    · rw [if_neg (fun z => hx (hi.mp z)), if_neg hx]
      exact addB_inj fun a ha b hb e => h a (by simp [ha]) b (by simpa using hb) e
inductive RunB (B : Nat → Nat) (sc : Nat → List Nat) (s : List Nat) : Nat → List Nat → Prop
  | init : RunB B sc s 0 (addB B [] s)
  | step {k : Nat} {line : List Nat} {a : Nat} : RunB B sc s k line → line[k]? = some a → RunB B sc s (k + 1) (addB B line (sc a))
theorem RunB.sub {B : Nat → Nat} {sc : Nat → List Nat} {s : List Nat} {k : Nat} {l : List Nat} (h : RunB B sc s k l) (p : Nat → Prop) (h0 : ∀ x ∈ s, p x) (h1 : ∀ a, p a → ∀ x ∈ sc a, p x) : ∀ x ∈ l, p x := by
  induction h with
  | init =>
    intro x hx
    rcases addB_mem hx with z | z
    · simp at z
    · exact h0 x z
  | step q e ih =>
    intro x hx
    rcases addB_mem hx with z | z
    · exact ih x z
    · exact h1 _ (ih _ (List.mem_of_getElem? e)) x z
theorem RunB.nodup {B : Nat → Nat} {sc : Nat → List Nat} {s : List Nat} {k : Nat} {l : List Nat} (h : RunB B sc s k l) : (l.map B).Nodup := by
  induction h with
  | init => rw [addB_map]; exact nodup_dd
  | step q e ih => rw [addB_map]; exact nodup_ddFrom ih
theorem RunB.run {B : Nat → Nat} {sc : Nat → List Nat} {s : List Nat} {n : Nat} (hB : ∀ x y, x < n → y < n → B x = B y → x = y) (hs : ∀ x ∈ s, x < n) (hsc : ∀ a, a < n → ∀ x ∈ sc a, x < n) {k : Nat} {l : List Nat} (h : RunB B sc s k l) : Run sc s k l := by
  induction h with
  | init =>
    rw [addB_inj fun x hx y hy e => hB x y (hs x hx) (hs y (by simpa using hy)) e]
    exact .init
  | @step k line a q e ih =>
    have hl := q.sub (· < n) hs hsc
    have ha := hl a (List.mem_of_getElem? e)
    rw [addB_inj fun x hx y hy e => hB x y (hsc a ha x hx) (by rcases List.mem_append.mp hy with z | z; exact hl y z; exact hsc a ha y z) e]
    exact .step ih e

/-! ### ways -/
def somes (l : Line) : List Nat := l.filterMap id
def wayStep (st : Steps) (w : List Int) : List Int := st.map fun l => ((somes l).map fun j => w.getD j 0).sum
def wayN (st : Steps) : Nat → List Int
  | 0 => List.replicate st.length 1
  | n + 1 => wayStep st (wayN st n)
def rowsN (d : Nat) : Nat → List (List Nat)
  | 0 => [[]]
  | m + 1 => (rowsN d m).flatMap fun r => (List.range d).map fun x => r ++ [x]
def led1 (st : Steps) (o : Option Nat) (x : Nat) : Option Nat := o.bind fun s => (st.getD s []).getD x none
def led (st : Steps) (o : Option Nat) (row : List Nat) : Option Nat := row.foldl (led1 st) o
def ends (st : Steps) (d m : Nat) (s : Nat) : List Nat := (rowsN d m).filterMap (led st (some s))
theorem range_getD {l : Line} : (List.range l.length).filterMap (fun x => l.getD x none) = somes l := by
  unfold somes
  conv => rhs; rw [show l = (List.range l.length).map (fun x => l.getD x none) by
    apply List.ext_getElem
    · simp
    · intro i h1 h2; simp [List.getD, h1]]
  rw [List.filterMap_map]
  rfl
theorem ends_succ {st : Steps} {d m s : Nat} (hd : ∀ l ∈ st, l.length = d) (hst : ∀ t ∈ ends st d m s, t < st.length) : ends st d (m + 1) s = (ends st d m s).flatMap fun t => somes (st.getD t []) := by
  unfold ends at *
  show ((rowsN d m).flatMap fun r => (List.range d).map fun x => r ++ [x]).filterMap (led st (some s)) = _
  generalize rowsN d m = rs at *
  induction rs with
  | nil => rfl
  | cons r rs ih =>
    rw [List.flatMap_cons, List.filterMap_append]
    have e1 : ((List.range d).map fun x => r ++ [x]).filterMap (led st (some s)) = (match led st (some s) r with | none => [] | some t => somes (st.getD t [])) := by
      rw [List.filterMap_map]
      have : (led st (some s) ∘ fun x => r ++ [x]) = fun x => led1 st (led st (some s) r) x := by
        funext x
        simp [led, List.foldl_append]
      rw [this]
      cases hr : led st (some s) r with
      | none => 
        simp [led1]
      | some t =>
        have ht : t < st.length := hst t (by rw [List.filterMap_cons, hr]; simp)
        simp only
        rw [← range_getD, hd _ (getD_mem ht)]
        rfl
    rw [e1]
    cases hr : led st (some s) r with
    | none =>
      rw [List.filterMap_cons, hr]
      rw [List.filterMap_cons, hr] at hst
      simp only [List.nil_append]
      exact ih hst
    | some t =>
      rw [List.filterMap_cons, hr]
      rw [List.filterMap_cons, hr] at hst
      simp only [List.flatMap_cons]
      rw [ih fun t ht => hst t (by simp [ht])]
theorem mem_somes {l : Line} {j : Nat} : j ∈ somes l ↔ some j ∈ l := by simp [somes]
theorem ends_lt {st : Steps} {d : Nat} (hk : Ok st) (hd : ∀ l ∈ st, l.length = d) {s : Nat} (hs : s < st.length) : ∀ m, ∀ t ∈ ends st d m s, t < st.length
  | 0, t, h => by simp [ends, rowsN, led] at h; omega
  | m + 1, t, h => by
    rw [ends_succ hd (ends_lt hk hd hs m)] at h
    obtain ⟨u, h1, h2⟩ := List.mem_flatMap.mp h
    exact hk _ (getD_mem (ends_lt hk hd hs m u h1)) t (mem_somes.mp h2)
theorem sum_flatMap {α : Type} {f : α → List Nat} {g : Nat → Int} : ∀ {l : List α}, ((l.flatMap f).map g).sum = (l.map fun t => ((f t).map g).sum).sum
  | [] => rfl
  | a :: l => by rw [List.flatMap_cons, List.map_append, List.sum_append, sum_flatMap, List.map_cons, List.sum_cons]
theorem wayN_len {st : Steps} : ∀ n, (wayN st n).length = st.length
  | 0 => by simp [wayN]
  | n + 1 => by simp [wayN, wayStep]
theorem way_succ {st : Steps} {n t : Nat} (ht : t < st.length) : (wayN st (n + 1)).getD t 0 = ((somes (st.getD t [])).map fun j => (wayN st n).getD j 0).sum := by
  simp [wayN, wayStep, List.getD, ht]
theorem ends_way {st : Steps} {d : Nat} (hk : Ok st) (hd : ∀ l ∈ st, l.length = d) {s : Nat} (hs : s < st.length) : ∀ m n, ((ends st d m s).map fun t => (wayN st n).getD t 0).sum = (wayN st (m + n)).getD s 0
  | 0, n => by simp [ends, rowsN, led]
  | m + 1, n => by
    rw [ends_succ hd (ends_lt hk hd hs m), sum_flatMap, show m + 1 + n = m + (n + 1) by omega, ← ends_way hk hd hs m (n + 1)]
    congr 1
    refine List.map_congr_left fun t ht => ?_
    rw [way_succ (ends_lt hk hd hs m t ht)]
theorem sum_one : ∀ {l : List Nat} {g : Nat → Int}, (∀ t ∈ l, g t = 1) → (l.map g).sum = l.length
  | [], _, _ => rfl
  | a :: l, g, h => by
    rw [List.map_cons, List.sum_cons, h a (by simp), sum_one fun t ht => h t (by simp [ht])]
    simp; omega
/-- rows that are led on, counted row by row -/
theorem count_rows {st : Steps} {d : Nat} (hk : Ok st) (hd : ∀ l ∈ st, l.length = d) {s : Nat} (hs : s < st.length) (m : Nat) : ((rowsN d m).map fun r => if (led st (some s) r).isSome then (1 : Int) else 0).sum = (wayN st m).getD s 0 := by
  have := ends_way hk hd hs m 0
  rw [Nat.add_zero] at this
  rw [← this, sum_one fun t ht => by
    have := ends_lt hk hd hs m t ht
    simp [wayN, List.getD, this]]
  unfold ends
  generalize rowsN d m = rs
  induction rs with
  | nil => rfl
  | cons r rs ih =>
    rw [List.map_cons, List.sum_cons, ih, List.filterMap_cons]
    cases led st (some s) r <;> simp
    omega
theorem keysOf_len {st : Steps} {f : List Nat} : (keysOf st f).length = st.length := by simp [keysOf]
theorem lap_numer {st : Steps} {g : List Nat} (lg : g.length = st.length) : Lap st (numer [] (keysOf st g)) g := by
  rw [numer_eq]
  exact Lap.mk' lg fun x hx y hy e => idx_inj (mem_dd.mpr hx) (mem_dd.mpr hy) e
theorem lap_idx {st : Steps} {g : List Nat} (lg : g.length = st.length) : Lap st ((keysOf st g).map fun x => idx (keysOf st g) x) g := Lap.mk' lg fun x hx y hy e => idx_inj hx hy e
theorem dd_replicate {n : Nat} (h : 0 < n) : (dd (List.replicate n 0)).length = 1 := by
  have h1 : (dd (List.replicate n 0)).length ≤ [0].length := length_le_of_subset nodup_dd fun x hx => by
    have := List.eq_of_mem_replicate (mem_dd.mp hx)
    simp [this]
  have h2 : 0 < (dd (List.replicate n 0)).length := List.length_pos_of_mem (a := 0) (mem_dd.mpr (by simp; omega))
  simp at h1
  omega
end K48
set_option linter.all false
set_option Elab.async false
set_option maxRecDepth 100000
set_option maxHeartbeats 1000000
/-! K48i: what the defs of k48 compute. -/
namespace K48
open PySem Ev
def iN (n : Nat) : D := .int n
def encO : Option Nat → D
  | none => .none
  | some n => .int n
def encL (l : Line) : D := .tuple (l.map encO)
def encS (st : Steps) : D := .tuple (st.map encL)
def encP (p : (Int × Int) × Nat) : D := .tuple [pairD p.1, .int p.2]
def encA (s : List ((Int × Int) × Nat)) : D := .tuple (s.map encP)
def encV (s : List ((Int × Int) × Nat)) (st : Steps) : D := .tuple [encA s, encS st]
def encW (w : List Int) : D := .list (w.map .int)
structure Wf (d : Nat) (s : List ((Int × Int) × Nat)) (st : Steps) : Prop where
  ok : Ok st
  hd : ∀ l ∈ st, l.length = d
  hs : ∀ p ∈ s, p.2 < st.length
  n1 : st.length ≤ 1000
  n2 : d ≤ 1000
  n3 : s.length ≤ 1000
section
variable {Γ : Calls} {sr : Src} {s : List ((Int × Int) × Nat)} {st : Steps} {d : Nat}
@[simp] theorem atD_V0 : atD (encV s st) (.int 0) = some (encA s) := rfl
@[simp] theorem atD_V1 : atD (encV s st) (.int 1) = some (encS st) := rfl
@[simp] theorem lenB_S : lenB [encS st] = some (.int st.length) := by simp [lenB, encS]
@[simp] theorem seqD_S : seqD (encS st) = some (st.map encL) := rfl
@[simp] theorem seqD_A : seqD (encA s) = some (s.map encP) := rfl
@[simp] theorem seqD_L {l : Line} : seqD (encL l) = some (l.map encO) := rfl
@[simp] theorem tyD_V : tyD (encV s st) = 2 := rfl
@[simp] theorem tyD_S : tyD (encS st) = 2 := rfl
@[simp] theorem tyD_W {w : List Int} : tyD (encW w) = 1 := rfl
theorem atD_W {w : List Int} {i : Nat} (h : i < w.length) : atD (encW w) (.int i) = some (.int (w.getD i 0)) := by
  simp [encW, atD_nat, h, List.getD]
theorem mulD_one {n : Nat} (hn : n ≤ 1000) : mulD (.list [.int 1]) (.int n) = some (encW (List.replicate n 1)) := by
  simp [mulD, encW, lim]
  omega
theorem lim1000 {n : Nat} (h : n ≤ 1000) : n ≤ lim := by unfold lim; omega
/-- the sum of a line's ways -/
theorem ev_sum {w : List Int} {l : Line} (i0 i1 i2 : Nat) {sl sl0 : Slots} (hl : l.length ≤ 1000) (hw : ∀ j, some j ∈ l → j < w.length) (h1 : getS sl i1 = some (encL l)) (hsl : wipe sl [i0] = sl) (h2 : getS sl i2 = some (encW w)) (hi : i0 ≠ i2) (hb : i0 < sl.length) (hr : restore sl sl [i0] = sl) :
    evE Γ (.bi .sum [.comp [i0] (.nm i0) (.bv i1) [.cmp .isNot [.bv i0, .non]] (.idx [.bv i2, .bv i0])]) ⟨sl, sr⟩ = some (.int (((somes l).map fun j => w.getD j 0).sum), ⟨sl, sr⟩) := by
  have hg : ∀ x : D, getS (sl.set i0 (some x)) i2 = some (encW w) := fun x => by
    rw [← h2]; unfold getS; rw [List.getElem?_set_ne hi]
  have hx : ∀ x : D, getS (sl.set i0 (some x)) i0 = some x := fun x => by
    unfold getS; simp [hb]
  have := evE_comp (Γ := Γ) (s := sr) (own := [i0]) (t := .nm i0) (it := .bv i1) (cond := [.cmp .isNot [.bv i0, .non]]) (elt := .idx [.bv i2, .bv i0]) (sl0 := sl) (sl := sl) (d := encL l) encO Option.isSome (fun o => .int (w.getD (o.getD 0) 0)) l
    (by simp [evE, h1]) rfl hsl (fun o ho => by
      refine ⟨sl.set i0 (some (encO o)), rfl, ?_, ?_, ?_⟩
      · cases o <;> simp [evAnd, evE, evV, hx, cmpD, isD, isNoneD, encO, tyD]
      · intro q
        cases o with
        | none => cases q
        | some j =>
          have := atD_W (hw j ho)
          simp [evE, evV, hg, hx, encO, tyD, this]
      · rw [← hsl]; simp [wipe]) (lim1000 hl) hr
  refine evE_bi1 this ?_
  have e : (l.filter Option.isSome).map (fun o => PyData.int (w.getD (o.getD 0) 0)) = ((somes l).map fun j => w.getD j 0).map PyData.int := by
    unfold somes
    clear hw h1 hl this
    induction l with
    | nil => rfl
    | cons o l ih => cases o <;> simp [List.filter_cons, List.filterMap_cons] at ih ⊢ <;> exact ih
  simp only [biD, sumB, e, isInts_map, Option.map_some]
/-- all lines' ways, from those of a digit less -/
theorem ev_ways {w : List Int} (i0 i1 i2 : Nat) {it : E} {sl : Slots} (W : Wf d s st) (hit : evE Γ it ⟨sl, sr⟩ = some (encS st, ⟨sl, sr⟩)) (hw : st.length ≤ w.length) (hsl : wipe sl [i1] = sl) (hsl0 : wipe sl [i0] = sl) (h2 : getS sl i2 = some (encW w)) (h01 : i0 ≠ i1) (h02 : i0 ≠ i2) (h12 : i1 ≠ i2) (hb0 : i0 < sl.length) (hb1 : i1 < sl.length) (hr : restore sl sl [i1] = sl) (hn0 : getS sl i0 = none) :
    evE Γ (.comp [i1] (.nm i1) it [] (.bi .sum [.comp [i0] (.nm i0) (.bv i1) [.cmp .isNot [.bv i0, .non]] (.idx [.bv i2, .bv i0])])) ⟨sl, sr⟩ = some (encW (wayStep st w), ⟨sl, sr⟩) := by
  have := evE_compA (Γ := Γ) (s := sr) (own := [i1]) (t := .nm i1) (it := it) (elt := .bi .sum [.comp [i0] (.nm i0) (.bv i1) [.cmp .isNot [.bv i0, .non]] (.idx [.bv i2, .bv i0])]) (sl0 := sl) (sl := sl) encL (fun l => .int (((somes l).map fun j => w.getD j 0).sum)) st
    hit rfl hsl (fun l hl => by
      refine ⟨sl.set i1 (some (encL l)), rfl, ?_, ?_⟩
      · refine ev_sum i0 i1 i2 (sl0 := sl) (by rw [W.hd l hl]; exact W.n2) (fun j hj => Nat.lt_of_lt_of_le (W.ok l hl j hj) hw) ?_ ?_ ?_ h02 (by simpa using hb0) ?_
        · unfold getS; simp [hb1]
        · simp only [wipe] at hsl0 ⊢
          rw [List.set_comm _ _ (Ne.symm h01), hsl0]
        · rw [← h2]; unfold getS; rw [List.getElem?_set_ne h12]
        · simp only [restore, wipe] at hsl0 ⊢
          have : getS (sl.set i1 (some (encL l))) i0 = none := by
            rw [← hn0]; unfold getS; rw [List.getElem?_set_ne (Ne.symm h01)]
          rw [this, List.set_comm _ _ (Ne.symm h01), hsl0]
      · rw [← hsl]; simp [wipe]) (lim1000 W.n1) hr
  rw [this]
  simp [encW, wayStep]
/-- the ways of starts -/
theorem ev_startways {w : List Int} (i0 i1 i2 : Nat) {it : E} {sl : Slots} (W : Wf d s st) (hit : evE Γ it ⟨sl, sr⟩ = some (encA s, ⟨sl, sr⟩)) (hw : st.length ≤ w.length) (hsl : wipe sl [i0, i1] = sl) (h2 : getS sl i2 = some (encW w)) (h01 : i0 ≠ i1) (h02 : i0 ≠ i2) (h12 : i1 ≠ i2) (hb0 : i0 < sl.length) (hb1 : i1 < sl.length) (hr : restore sl sl [i0, i1] = sl) :
    evE Γ (.bi .sum [.comp [i0, i1] (.tup [.nm i0, .nm i1]) it [] (.idx [.bv i2, .bv i1])]) ⟨sl, sr⟩ = some (.int ((s.map fun p => w.getD p.2 0).sum), ⟨sl, sr⟩) := by
  refine evE_bi1 (evE_compA (Γ := Γ) (s := sr) (own := [i0, i1]) (sl0 := sl) (sl := sl) encP (fun p => .int (w.getD p.2 0)) s hit rfl hsl (fun p hp => ?_) (lim1000 W.n3) hr) ?_
  · refine ⟨(sl.set i0 (some (pairD p.1))).set i1 (some (.int p.2)), rfl, ?_, ?_⟩
    · have g1 : getS ((sl.set i0 (some (pairD p.1))).set i1 (some (.int p.2))) i1 = some (.int p.2) := by unfold getS; simp [hb1]
      have g2 : getS ((sl.set i0 (some (pairD p.1))).set i1 (some (.int p.2))) i2 = some (encW w) := by
        rw [← h2]; unfold getS; rw [List.getElem?_set_ne h12, List.getElem?_set_ne h02]
      have := atD_W (Nat.lt_of_lt_of_le (W.hs p hp) hw)
      simp [evE, evV, g1, g2, this]
    · simp only [wipe] at hsl ⊢
      rw [List.set_set, List.set_comm _ _ h01, List.set_set]
      exact hsl
  · have : s.map (fun p => PyData.int (w.getD p.2 0)) = (s.map fun p => w.getD p.2 0).map PyData.int := by rw [List.map_map]; rfl
    simp only [biD, sumB, this, isInts_map, Option.map_some]
theorem ev_pieces {n : Nat} (W : Wf d s st) (hn : n < 1073741824) : runFn Γ ⟨8, false, bpieces_counted⟩ [encV s st, .int n] sr = some (.int ((s.map fun p => (wayN st n).getD p.2 0).sum), sr) := by
  have h1 : evS Γ (.asg (.nm 2) (.bin .mul [.lst [.int 1], .bi .len [.idx [.bv 0, .int 1]]])) ⟨[some (encV s st), some (.int n), none, none, none, none, none, none], sr⟩ = some (.nx, ⟨[some (encV s st), some (.int n), some (encW (wayN st 0)), none, none, none, none, none], sr⟩) := by
    simp [evS, evE, evV, getS, biD, binD, asgT, mulD_one W.n1, wayN]
  have h2 := evS_for (Γ := Γ) (hd := [2]) (ex := [2]) (t := .nm 3) (it := .rng1 (.var 1)) (b := [.asg (.nm 2) (.comp [5] (.nm 5) (.idx [.bv 0, .int 1]) [] (.bi .sum [.comp [4] (.nm 4) (.bv 5) [.cmp .isNot [.bv 4, .non]] (.idx [.bv 2, .bv 4])]))]) (ρ := ⟨[some (encV s st), some (.int n), some (encW (wayN st 0)), none, none, none, none, none], sr⟩) (fun i : Nat => PyData.int i) (List.range n) (evE_rng1 (n := n) (by simp [evE, getS]) hn) rfl
    (fun done ρ => ∃ x3, ρ = ⟨[some (encV s st), some (.int n), some (encW (wayN st done.length)), x3, none, none, none, none], sr⟩) ⟨none, rfl⟩
    (fun done x rest ρ _ ⟨x3, e⟩ => by
      subst e
      refine ⟨_, _, rfl, ?_, some (.int x), rfl⟩
      rw [evSs_nx (ρ' := ⟨[some (encV s st), some (.int n), some (encW (wayN st (done ++ [x]).length)), some (.int x), none, none, none, none], sr⟩)]
      · rfl
      · simp only [evS]
        rw [ev_ways 4 5 2 W (by simp [evE, evV, getS]) (by rw [wayN_len]; exact Nat.le_refl _) rfl rfl rfl (by decide) (by decide) (by decide) (by simp) (by simp) rfl rfl]
        simp [asgT, wayN])
  obtain ⟨ρ', h2, x3, rfl⟩ := h2
  refine runFn_of (ρ' := ⟨[some (encV s st), some (.int n), some (encW (wayN st (List.range n).length)), x3, none, none, none, none], sr⟩) [some (encV s st), some (.int n), none, none, none, none, none, none] rfl ?_ rfl
  rw [bpieces_counted, evSs_nx h1, evSs_nx h2, evSs_rt (d := .int ((s.map fun p => (wayN st n).getD p.2 0).sum)) (ρ' := ⟨[some (encV s st), some (.int n), some (encW (wayN st (List.range n).length)), x3, none, none, none, none], sr⟩)]
  simp only [evS]
  rw [ev_startways 6 7 2 W (by simp [evE, evV, getS]) (by rw [wayN_len]; exact Nat.le_refl _) rfl rfl (by decide) (by decide) (by decide) (by simp) (by simp) rfl]
  simp
end
/-! ### blocks_of -/
section
variable {Γ : Calls} {sr : Src} {s : List ((Int × Int) × Nat)} {st : Steps} {d : Nat}
def encM : Option Nat → D
  | none => .int (-1)
  | some n => .int n
theorem encM_eqv : ∀ a b, PyData.eqv (encM a) (encM b) = decide (a = b)
  | none, none => by rw [encM, eqv_int]; simp
  | none, some n => by
    rw [encM, encM, eqv_int]
    have : ¬ (-1 : Int) = (n : Int) := by omega
    simp [this]
  | some n, none => by
    rw [encM, encM, eqv_int]
    have : ¬ (n : Int) = (-1 : Int) := by omega
    simp [this]
  | some n, some m => by
    rw [encM, encM, eqv_int]
    by_cases h : n = m <;> simp [h]
    omega
def encKey (k : Nat × Line) : D := .tuple [.int k.1, .tuple (k.2.map encM)]
theorem natInt {a b : Nat} : decide ((a : Int) = b) = decide (a = b) := by
  by_cases h : a = b
  · simp [h]
  · simp [h]; omega
theorem encKey_enc : KEnc encKey := by
  refine ⟨fun a b => ?_, .inr fun a => ?_⟩
  · obtain ⟨a1, a2⟩ := a
    obtain ⟨b1, b2⟩ := b
    unfold encKey
    rw [eqv_tup, eqvAll_cons, eqvAll_cons, eqv_int, eqv_tup, eqvAll_map encM_eqv, natInt]
    by_cases h1 : a1 = b1 <;> by_cases h2 : a2 = b2 <;> simp [h1, h2, PyData.eqvAll]
  · unfold encKey tupK
    simp [deepK]
    intro x hx
    cases x <;> simp [encM, deepK]
theorem encNat_eqv (a b : Nat) : PyData.eqv (.int (a : Int)) (.int (b : Int)) = decide (a = b) := by rw [eqv_int, natInt]
theorem encNat_enc : KEnc (fun n : Nat => PyData.int n) := ⟨encNat_eqv, .inl fun _ => rfl⟩
/-- a dict that tells places -/
def ixL {α : Type} (xs : List α) (n : Nat) : List (α × D) := (xs.zipIdx n).map fun p => (p.1, .int (p.2 : Int))
theorem aget_ix {α : Type} [DecidableEq α] : ∀ (xs : List α) (n : Nat) (x : α), aget (ixL xs n) x = if x ∈ xs then some (.int ((n + idx xs x : Nat) : Int)) else none
  | [], _, _ => rfl
  | y :: ys, n, x => by
    have ih := aget_ix ys (n + 1) x
    unfold ixL at ih ⊢
    rw [List.zipIdx_cons, List.map_cons, aget, ih]
    by_cases e : y = x
    · subst e; simp [idx]
    · rw [if_neg e, idx, if_neg e]
      by_cases hx : x ∈ ys
      · simp [hx]; omega
      · simp [hx, Ne.symm e]
theorem ix_snoc {α : Type} (xs : List α) (x : α) : ixL (xs ++ [x]) 0 = ixL xs 0 ++ [(x, .int (xs.length : Int))] := by
  simp [ixL, List.zipIdx_append]
theorem ix_len {α : Type} (xs : List α) : (ixL xs 0).length = xs.length := by simp [ixL]
theorem ix_keys {α : Type} (xs : List α) (n : Nat) : (ixL xs n).map (·.1) = xs := by
  unfold ixL
  rw [List.map_map]
  exact List.zipIdx_map_fst n xs
def encF (f : List Nat) : D := .tuple (f.map fun n : Nat => PyData.int n)
def encFL (f : List Nat) : D := .list (f.map fun n : Nat => PyData.int n)
theorem atD_F {f : List Nat} {i : Nat} (h : i < f.length) : atD (encF f) (.int i) = some (.int (lb f i)) := by
  simp [encF, atD_natT, h, List.getD, lb]
theorem atD_FL {f : List Nat} {i : Nat} (h : i < f.length) : atD (encFL f) (.int i) = some (.int (lb f i)) := by
  simp [encFL, atD_nat, h, List.getD, lb]
/-- a line's labels -/
theorem ev_lab {f : List Nat} {F : D} (hF : ∀ i, i < f.length → atD F (.int i) = some (.int (lb f i))) (i0 i1 i2 : Nat) {sl : Slots} {l : Line} {L : D} (hL : seqD L = some (l.map encO)) (hl : l.length ≤ 1000) (hj : ∀ j, some j ∈ l → j < f.length) (h1 : getS sl i1 = some L) (h2 : getS sl i2 = some F) (hi : i0 ≠ i2) (hsl : wipe sl [i0] = sl) (hb : i0 < sl.length) (hr : restore sl sl [i0] = sl) :
    evE Γ (.comp [i0] (.nm i0) (.bv i1) [] (.ite (.cmp .isNot [.bv i0, .non]) (.idx [.bv i2, .bv i0]) (.neg (.int 1)))) ⟨sl, sr⟩ = some (.list ((l.map (Option.map (lb f))).map encM), ⟨sl, sr⟩) := by
  have hg : ∀ x : D, getS (sl.set i0 (some x)) i2 = some F := fun x => by
    rw [← h2]; unfold getS; rw [List.getElem?_set_ne hi]
  have hx : ∀ x : D, getS (sl.set i0 (some x)) i0 = some x := fun x => by
    unfold getS; simp [hb]
  have := evE_compA (Γ := Γ) (s := sr) (own := [i0]) (t := .nm i0) (it := .bv i1) (elt := .ite (.cmp .isNot [.bv i0, .non]) (.idx [.bv i2, .bv i0]) (.neg (.int 1))) (sl0 := sl) (sl := sl) (d := L) encO (fun o => encM (o.map (lb f))) l
    (by simp [evE, h1]) hL hsl (fun o ho => by
      refine ⟨sl.set i0 (some (encO o)), rfl, ?_, ?_⟩
      · cases o with
        | none => simp [evE, evV, hx, cmpD, isD, isNoneD, encO, tyD, encM]
        | some j =>
          have := hF j (hj j ho)
          simp [evE, evV, hx, hg, cmpD, isD, isNoneD, encO, tyD, encM, this]
      · rw [← hsl]; simp [wipe]) (lim1000 hl) hr
  rw [this, List.map_map]
  rfl
theorem evE_enum {d : D} {xs : List D} {i : Nat} {sl : Slots} (h : getS sl i = some d) (hd : d = .tuple xs ∨ d = .list xs) : evE Γ (.enum [.var i]) ⟨sl, sr⟩ = some (.list ((List.range xs.length).map fun i : Nat => PyData.tuple [.int i, xs.getD i .none]), ⟨sl, sr⟩) := by
  rcases hd with rfl | rfl <;> simp [evE, evV, h, enumD_map]
theorem evE_enumB {d : D} {xs : List D} {i : Nat} {sl : Slots} (h : getS sl i = some d) (hd : d = .tuple xs ∨ d = .list xs) : evE Γ (.enum [.bv i]) ⟨sl, sr⟩ = some (.list ((List.range xs.length).map fun i : Nat => PyData.tuple [.int i, xs.getD i .none]), ⟨sl, sr⟩) := by
  rcases hd with rfl | rfl <;> simp [evE, evV, h, enumD_map]
structure Blocks (st : Steps) (f : List Nat) : Prop where
  len : f.length = st.length
  num : ∃ g, f = numer [] (keysOf st g)
  stable : ∀ i j, i < st.length → j < st.length → lb f i = lb f j → (st.getD i []).map (Option.map (lb f)) = (st.getD j []).map (Option.map (lb f))
  coarse : Coarse st f
theorem getD_map_encL {i : Nat} (h : i < st.length) : (st.map encL).getD i .none = encL (st.getD i []) := by
  simp [List.getD, h]
theorem ev_blocks_lap {f : List Nat} {x1 x2 x6 x7 x8 : Option D} (hok : Ok st) (hd : ∀ l ∈ st, l.length ≤ 1000) (hn : st.length ≤ 1000) (hf : f.length = st.length) :
    ∃ ρ', evS Γ (.forr [3, 4, 5] [3, 4, 5] (.tup [.nm 6, .nm 7]) (.enum [.var 0]) [.asg (.nm 8) (.tup [.idx [.bv 3, .bv 6], .bi .tuple [.comp [9] (.nm 9) (.bv 7) [] (.ite (.cmp .isNot [.bv 9, .non]) (.idx [.bv 3, .bv 9]) (.neg (.int 1)))]]), .app 5 (.setd 4 [.var 8, .bi .len [.bv 4]])])
      ⟨[some (encS st), x1, x2, some (encF f), some (.dict []), some (.list []), x6, x7, x8, none], sr⟩ = some (.nx, ρ') ∧
      ∃ y6 y7 y8, ρ' = ⟨[some (encS st), x1, x2, some (encF f), some (.dict (dmap encKey (ixL (dd (keysOf st f)) 0))), some (encFL (numer [] (keysOf st f))), y6, y7, y8, none], sr⟩ := by
  have key : ∀ done : List Nat, (done.map (keyAt st f)).length = done.length := fun _ => by simp
  have := evS_for (Γ := Γ) (hd := [3, 4, 5]) (ex := [3, 4, 5]) (t := .tup [.nm 6, .nm 7]) (it := .enum [.var 0]) (b := [.asg (.nm 8) (.tup [.idx [.bv 3, .bv 6], .bi .tuple [.comp [9] (.nm 9) (.bv 7) [] (.ite (.cmp .isNot [.bv 9, .non]) (.idx [.bv 3, .bv 9]) (.neg (.int 1)))]]), .app 5 (.setd 4 [.var 8, .bi .len [.bv 4]])])
    (ρ := ⟨[some (encS st), x1, x2, some (encF f), some (.dict []), some (.list []), x6, x7, x8, none], sr⟩)
    (fun i : Nat => PyData.tuple [.int i, (st.map encL).getD i .none]) (List.range st.length)
    (evE_enum (xs := st.map encL) (d := encS st) rfl (.inl rfl)) (by simp [seqD])
    (fun done ρ => ∃ y6 y7 y8, ρ = ⟨[some (encS st), x1, x2, some (encF f), some (.dict (dmap encKey (ixL (dd (done.map (keyAt st f))) 0))), some (encFL (numer [] (done.map (keyAt st f)))), y6, y7, y8, none], sr⟩) ⟨x6, x7, x8, rfl⟩
    (fun done i rest ρ e ⟨y6, y7, y8, hρ⟩ => by
      subst hρ
      have hi : i < st.length := by
        have : i ∈ List.range st.length := by rw [e]; simp
        simpa using this
      have hdl : done.length < st.length := by
        have := congrArg List.length e
        simp at this; omega
      refine ⟨[some (encS st), x1, x2, some (encF f), some (.dict (dmap encKey (ixL (dd (done.map (keyAt st f))) 0))), some (encFL (numer [] (done.map (keyAt st f)))), some (.int i), some (encL (st.getD i [])), y8, none], _, ?_, ?_, some (.int i), some (encL (st.getD i [])), some (encKey (keyAt st f i)), rfl⟩
      · rw [getD_map_encL hi]
        rfl
      · have hl := hd _ (getD_mem hi)
        have hj := hok _ (getD_mem hi)
        have e1 : evS Γ (.asg (.nm 8) (.tup [.idx [.bv 3, .bv 6], .bi .tuple [.comp [9] (.nm 9) (.bv 7) [] (.ite (.cmp .isNot [.bv 9, .non]) (.idx [.bv 3, .bv 9]) (.neg (.int 1)))]])) ⟨[some (encS st), x1, x2, some (encF f), some (.dict (dmap encKey (ixL (dd (done.map (keyAt st f))) 0))), some (encFL (numer [] (done.map (keyAt st f)))), some (.int i), some (encL (st.getD i [])), y8, none], sr⟩
            = some (.nx, ⟨[some (encS st), x1, x2, some (encF f), some (.dict (dmap encKey (ixL (dd (done.map (keyAt st f))) 0))), some (encFL (numer [] (done.map (keyAt st f)))), some (.int i), some (encL (st.getD i [])), some (encKey (keyAt st f i)), none], sr⟩) := by
          have h1 := evE_bi1 (f := .tuple) (ev_lab (Γ := Γ) (sr := sr) (fun i h => atD_F (f := f) h) 9 7 3 (l := st.getD i []) (L := encL (st.getD i [])) rfl hl (fun j h => by rw [hf]; exact hj j h) (sl := [some (encS st), x1, x2, some (encF f), some (.dict (dmap encKey (ixL (dd (done.map (keyAt st f))) 0))), some (encFL (numer [] (done.map (keyAt st f)))), some (.int i), some (encL (st.getD i [])), y8, none]) rfl rfl (by decide) rfl (by simp) rfl) rfl
          have h0 : evE Γ (.idx [.bv 3, .bv 6]) ⟨[some (encS st), x1, x2, some (encF f), some (.dict (dmap encKey (ixL (dd (done.map (keyAt st f))) 0))), some (encFL (numer [] (done.map (keyAt st f)))), some (.int i), some (encL (st.getD i [])), y8, none], sr⟩ = some (.int (lb f i), ⟨[some (encS st), x1, x2, some (encF f), some (.dict (dmap encKey (ixL (dd (done.map (keyAt st f))) 0))), some (encFL (numer [] (done.map (keyAt st f)))), some (.int i), some (encL (st.getD i [])), y8, none], sr⟩) := by
            have := atD_F (f := f) (i := i) (by omega)
            simp [evE, evV, getS, this]
          simp only [evS, evE, evV_cons h0 (evV_cons h1 evV_nil), Option.bind_some, asgT, Option.map_some]
          rfl
        rw [evSs_nx e1, evSs_nx (ρ' := ⟨[some (encS st), x1, x2, some (encF f), some (.dict (dmap encKey (ixL (dd ((done ++ [i]).map (keyAt st f))) 0))), some (encFL (numer [] ((done ++ [i]).map (keyAt st f)))), some (.int i), some (encL (st.getD i [])), some (encKey (keyAt st f i)), none], sr⟩)]
        · rfl
        · have hlen : (dd (done.map (keyAt st f))).length < lim := by
            have := dd_length_le (xs := done.map (keyAt st f))
            simp at this
            unfold lim; omega
          have hlk : decide ((dmap encKey (ixL (dd (done.map (keyAt st f))) 0)).length < lim) = true := by
            simp [dmap, ix_len, hlen]
          have hln : (encFL (numer [] (done.map (keyAt st f)))) = .list ((numer [] (done.map (keyAt st f))).map fun n : Nat => PyData.int n) := rfl
          have hget := dget_dmap encKey_enc (ixL (dd (done.map (keyAt st f))) 0) (keyAt st f i)
          have hset := dset_dmap encKey_enc (ixL (dd (done.map (keyAt st f))) 0) (keyAt st f i) (.int ((dd (done.map (keyAt st f))).length : Int))
          rw [aget_ix] at hget
          have hlb := lenB_dmap encKey_enc (ixL (dd (done.map (keyAt st f))) 0)
          rw [ix_len] at hlb
          have hm : (done ++ [i]).map (keyAt st f) = done.map (keyAt st f) ++ [keyAt st f i] := by simp
          rw [hm, dd_snoc, numer_snoc]
          show _ = _
          by_cases hx : keyAt st f i ∈ dd (done.map (keyAt st f))
          · have hx' : keyAt st f i ∈ ddFrom [] (done.map (keyAt st f)) := hx
            rw [if_pos hx] at hget
            rw [if_pos hx, if_pos hx']
            refine (evS_app (d0 := encFL (numer [] (done.map (keyAt st f)))) (d := .int ((idx (dd (done.map (keyAt st f))) (keyAt st f i) : Nat) : Int)) (xs := (numer [] (done.map (keyAt st f))).map fun n : Nat => PyData.int n) (ρ' := ⟨[some (encS st), x1, x2, some (encF f), some (.dict (dmap encKey (ixL (dd (done.map (keyAt st f))) 0))), some (encFL (numer [] (done.map (keyAt st f)))), some (.int i), some (encL (st.getD i [])), some (encKey (keyAt st f i)), none], sr⟩) rfl rfl ?_ rfl ?_).trans ?_
            · exact evE_setd_old (d0 := .dict (dmap encKey (ixL (dd (done.map (keyAt st f))) 0))) (x := encKey (keyAt st f i)) (y := .int ((dd (done.map (keyAt st f))).length : Int)) rfl rfl (by simp [evE, evV, getS, tyD, biD, hlb]) rfl (okK_dmap encKey_enc _ _) (of_decide_eq_true hlk) (by simpa using hget)
            · simp [numer_len]; unfold lim; omega
            · simp [encFL, dd]
          · have hx' : keyAt st f i ∉ ddFrom [] (done.map (keyAt st f)) := hx
            rw [if_neg hx] at hget
            rw [if_neg hx, if_neg hx']
            refine (evS_app (d0 := encFL (numer [] (done.map (keyAt st f)))) (d := .int ((dd (done.map (keyAt st f))).length : Int)) (xs := (numer [] (done.map (keyAt st f))).map fun n : Nat => PyData.int n) (ρ' := ⟨[some (encS st), x1, x2, some (encF f), some (.dict (dmap encKey (ixL (dd (done.map (keyAt st f)) ++ [keyAt st f i]) 0))), some (encFL (numer [] (done.map (keyAt st f)))), some (.int i), some (encL (st.getD i [])), some (encKey (keyAt st f i)), none], sr⟩) rfl rfl ?_ rfl ?_).trans ?_
            · have := evE_setd_new (Γ := Γ) (i := 4) (es := [.var 8, .bi .len [.bv 4]]) (ρ := ⟨[some (encS st), x1, x2, some (encF f), some (.dict (dmap encKey (ixL (dd (done.map (keyAt st f))) 0))), some (encFL (numer [] (done.map (keyAt st f)))), some (.int i), some (encL (st.getD i [])), some (encKey (keyAt st f i)), none], sr⟩) (d0 := .dict (dmap encKey (ixL (dd (done.map (keyAt st f))) 0))) (x := encKey (keyAt st f i)) (y := .int ((dd (done.map (keyAt st f))).length : Int)) rfl rfl (by simp [evE, evV, getS, tyD, biD, hlb]; rfl) rfl (okK_dmap encKey_enc _ _) (of_decide_eq_true hlk) hget
              rw [this, hset, aset_new (by rw [ix_keys]; exact hx), ix_snoc]
              rfl
            · simp [numer_len]; unfold lim; omega
            · simp [encFL, dd])
  obtain ⟨ρ', h1, y6, y7, y8, rfl⟩ := this
  exact ⟨_, h1, y6, y7, y8, rfl⟩

theorem ev_blocks (hok : Ok st) (hd : ∀ l ∈ st, l.length ≤ 1000) (hn : st.length ≤ 1000) (h0 : 0 < st.length) : ∃ f, Blocks st f ∧ runFn Γ ⟨10, false, bblocks_of⟩ [encS st] sr = some (encF f, sr) := by
  have h1 : evS Γ (.par [1, 2, 3] [.int 0, .int 1, .bin .mul [.tup [.int 0], .bi .len [.bv 0]]]) ⟨[some (encS st), none, none, none, none, none, none, none, none, none], sr⟩ = some (.nx, ⟨[some (encS st), some (.int (0 : Nat)), some (.int (1 : Nat)), some (encF (List.replicate st.length 0)), none, none, none, none, none, none], sr⟩) := by
    have : mulD (.tuple [.int 0]) (.int (st.length : Int)) = some (encF (List.replicate st.length 0)) := by
      simp [mulD, encF]
      omega
    simp [evS, evE, evV, getS, biD, binD, setAll, this]
  have h2 := evS_while (Γ := Γ) (hd := [2, 3]) (ex := [2, 3]) (t := .cmp .gt [.bv 2, .bv 1]) (b := [.par [1, 4, 5] [.var 2, .dic, .lst []],
    .forr [3, 4, 5] [3, 4, 5] (.tup [.nm 6, .nm 7]) (.enum [.var 0]) [.asg (.nm 8) (.tup [.idx [.bv 3, .bv 6], .bi .tuple [.comp [9] (.nm 9) (.bv 7) [] (.ite (.cmp .isNot [.bv 9, .non]) (.idx [.bv 3, .bv 9]) (.neg (.int 1)))]]),
    .app 5 (.setd 4 [.var 8, .bi .len [.bv 4]])],
    .par [3, 2] [.bi .tuple [.bv 5], .bi .len [.bv 4]]]) (ρ := ⟨[some (encS st), some (.int (0 : Nat)), some (.int (1 : Nat)), some (encF (List.replicate st.length 0)), none, none, none, none, none, none], sr⟩)
    (fun m ρ => ∃ (f : List Nat) (c : Nat) (y4 y5 y6 y7 y8 : Option D), m = st.length + 2 - c ∧ f.length = st.length ∧ Coarse st f ∧ (c = 0 ∨ ∃ g, Lap st f g ∧ f = numer [] (keysOf st g) ∧ c = (dd g).length) ∧
      ρ = ⟨[some (encS st), some (.int c), some (.int (dd f).length), some (encF f), y4, y5, y6, y7, y8, none], sr⟩)
    (fun ρ => ∃ (f : List Nat) (y1 y2 y4 y5 y6 y7 y8 : Option D), Blocks st f ∧ ρ = ⟨[some (encS st), y1, y2, some (encF f), y4, y5, y6, y7, y8, none], sr⟩) (st.length + 2) (by unfold turns; omega)
    ⟨List.replicate st.length 0, 0, none, none, none, none, none, by simp, by simp, coarse_zero, .inl rfl, by rw [dd_replicate h0]⟩
    (fun m ρ ⟨f, c, y4, y5, y6, y7, y8, hm, hf, hc, hg, hρ⟩ => by
      subst hρ
      have htest : evE Γ (.cmp .gt [.bv 2, .bv 1]) ⟨[some (encS st), some (.int c), some (.int (dd f).length), some (encF f), y4, y5, y6, y7, y8, none], sr⟩ = some (.bool (decide (c < (dd f).length)), ⟨[some (encS st), some (.int c), some (.int (dd f).length), some (encF f), y4, y5, y6, y7, y8, none], sr⟩) := by
        simp [evE, evV, getS, cmpD, gtD, tyD]
      have hpos : 0 < (dd f).length := List.length_pos_of_mem (a := f[0]'(by omega)) (mem_dd.mpr (List.getElem_mem _))
      have hle : (dd f).length ≤ st.length := by rw [← hf]; exact dd_length_le
      by_cases hlt : c < (dd f).length
      · have e1 : evS Γ (.par [1, 4, 5] [.var 2, .dic, .lst []]) ⟨[some (encS st), some (.int c), some (.int (dd f).length), some (encF f), y4, y5, y6, y7, y8, none], sr⟩ = some (.nx, ⟨[some (encS st), some (.int ((dd f).length : Nat)), some (.int (dd f).length), some (encF f), some (.dict []), some (.list []), y6, y7, y8, none], sr⟩) := by
          simp [evS, evE, evV, getS, setAll]
        obtain ⟨ρ', e2, z6, z7, z8, hρ'⟩ := ev_blocks_lap (Γ := Γ) (sr := sr) (x1 := some (.int ((dd f).length : Nat))) (x2 := some (.int (dd f).length)) (x6 := y6) (x7 := y7) (x8 := y8) hok hd hn hf
        subst hρ'
        have hlb := lenB_dmap encKey_enc (ixL (dd (keysOf st f)) 0)
        rw [ix_len] at hlb
        have e3 : evS Γ (.par [3, 2] [.bi .tuple [.bv 5], .bi .len [.bv 4]]) ⟨[some (encS st), some (.int ((dd f).length : Nat)), some (.int (dd f).length), some (encF f), some (.dict (dmap encKey (ixL (dd (keysOf st f)) 0))), some (encFL (numer [] (keysOf st f))), z6, z7, z8, none], sr⟩ = some (.nx, ⟨[some (encS st), some (.int ((dd f).length : Nat)), some (.int (dd (numer [] (keysOf st f))).length), some (encF (numer [] (keysOf st f))), some (.dict (dmap encKey (ixL (dd (keysOf st f)) 0))), some (encFL (numer [] (keysOf st f))), z6, z7, z8, none], sr⟩) := by
          rw [dd_numer]
          simp [evS, evE, evV, getS, setAll, biD, tupleB, encFL, hlb]
          rfl
        refine .inr ⟨_, _, st.length + 2 - (dd f).length, by rw [htest, decide_eq_true hlt], ?_, ?_, numer [] (keysOf st f), (dd f).length, some (.dict (dmap encKey (ixL (dd (keysOf st f)) 0))), some (encFL (numer [] (keysOf st f))), z6, z7, z8, rfl, ?_, ?_, .inr ⟨f, lap_numer hf, rfl, rfl⟩, rfl⟩
        · rw [evSs_nx e1, evSs_nx e2, evSs_nx e3]
          rfl
        · rw [hm]
          exact Nat.sub_lt_sub_left (by omega) hlt
        · simp [numer_len, keysOf_len]
        · exact (lap_numer hf).coarse hok hc
      · refine .inl ⟨_, by rw [htest, decide_eq_false hlt], f, _, _, y4, y5, y6, y7, y8, ?_, rfl⟩
        rcases hg with rfl | ⟨g, L, e1, e2⟩
        · omega
        · exact ⟨hf, ⟨g, e1⟩, fun i j hi hj e => L.stable hok (by omega) hi hj e, hc⟩)
  obtain ⟨ρ', h2, f, y1, y2, y4, y5, y6, y7, y8, hB, rfl⟩ := h2
  refine ⟨f, hB, ?_⟩
  refine runFn_of (ρ' := ⟨[some (encS st), y1, y2, some (encF f), y4, y5, y6, y7, y8, none], sr⟩) [some (encS st), none, none, none, none, none, none, none, none, none] rfl ?_ rfl
  rw [bblocks_of, evSs_nx h1, evSs_nx h2, evSs_rt]
  rfl
end
end K48
set_option linter.all false
set_option Elab.async false
set_option maxRecDepth 100000
set_option maxHeartbeats 1000000
/-! K48j: states_come, told_by. -/
namespace K48
open PySem Ev
/-! ### states_come -/
section
variable {Γ : Calls} {sr : Src} {s : List ((Int × Int) × Nat)} {st : Steps} {d : Nat} {B : List Nat}
theorem addB_snoc {B : Nat → Nat} : ∀ {xs kn : List Nat} {x : Nat}, addB B kn (xs ++ [x]) = if B x ∈ (addB B kn xs).map B then addB B kn xs else addB B kn xs ++ [x]
  | [], kn, x => by
    by_cases h : B x ∈ kn.map B <;> simp [addB, h]
  | y :: ys, kn, x => by
    rw [List.cons_append]
    by_cases h : B y ∈ kn.map B
    · simp only [addB, if_pos h]; exact addB_snoc
    · simp only [addB, if_neg h]; exact addB_snoc
def encKn (ys : List Nat) : D := .dict (dmap (fun n : Nat => PyData.int n) (ys.map fun y => (y, .bool true)))
theorem kn_keys (ys : List Nat) : (ys.map fun y => (y, (PyData.bool true))).map (·.1) = ys := by rw [List.map_map]; exact List.map_id ys
theorem aget_kn (ys : List Nat) (y : Nat) : aget (ys.map fun y => (y, PyData.bool true)) y = if y ∈ ys then some (.bool true) else none := by
  induction ys with
  | nil => rfl
  | cons z zs ih =>
    rw [List.map_cons, aget, ih]
    by_cases e : z = y
    · simp [e]
    · simp [e, Ne.symm e]
theorem kn_in (ys : List Nat) (y : Nat) : inD (.int y) (encKn ys) = some (decide (y ∈ ys)) := by
  have h1 := okK_dmap encNat_enc (ys.map fun y => (y, .bool true)) y
  have h2 := dget_dmap encNat_enc (ys.map fun y => (y, .bool true)) y
  rw [aget_kn] at h2
  simp only [encKn, inD, h1, h2, if_true]
  by_cases h : y ∈ ys <;> simp [h]
theorem kn_set {ys : List Nat} {y : Nat} (h : y ∉ ys) : dset (dmap (fun n : Nat => PyData.int n) (ys.map fun y => (y, .bool true))) (.int y) (.bool true) = dmap (fun n : Nat => PyData.int n) ((ys ++ [y]).map fun y => (y, .bool true)) := by
  have := dset_dmap encNat_enc (ys.map fun y => (y, .bool true)) y (.bool true)
  rw [aset_new (by rw [kn_keys]; exact h)] at this
  simpa using this
theorem kn_ok (ys : List Nat) (y : Nat) : okK (dmap (fun n : Nat => PyData.int n) (ys.map fun y => (y, .bool true))) (.int y) = true := okK_dmap encNat_enc _ y
/-- the slots of states_come -/
def scS (s : List ((Int × Int) × Nat)) (st : Steps) (B line : List Nat) (k : Nat) (x6 x7 x8 : Option D) : Slots := [some (encA s), some (encS st), some (encF B), some (encKn (line.map (lb B))), some (encFL line), some (.int k), x6, x7, x8]
theorem atD_S {i : Nat} (h : i < st.length) : atD (encS st) (.int i) = some (encL (st.getD i [])) := by
  simp [encS, atD_natT, h, List.getD]
/-- a state that is come to -/
theorem ev_come {line : List Nat} {k x : Nat} {x6 x7 x8 : Option D} (i : Nat) (hi : getS (scS s st B line k x6 x7 x8) i = some (.int x)) (hx : x < B.length) (hl : line.length ≤ 1000) (hm : lb B x ∉ line.map (lb B)) :
    evSs Γ [.setI 3 (.idx [.bv 2, .bv i]) (.bl true), .app 4 (.var i)] ⟨scS s st B line k x6 x7 x8, sr⟩ = some (.nx, ⟨scS s st B (line ++ [x]) k x6 x7 x8, sr⟩) := by
  have hne3 : i ≠ 3 := fun e => by subst e; simp [getS, scS, encKn] at hi
  have hb := atD_F (f := B) hx
  have h1 : evS Γ (.setI 3 (.idx [.bv 2, .bv i]) (.bl true)) ⟨scS s st B line k x6 x7 x8, sr⟩ = some (.nx, ⟨[some (encA s), some (encS st), some (encF B), some (encKn ((line ++ [x]).map (lb B))), some (encFL line), some (.int k), x6, x7, x8], sr⟩) := by
    have hidx : evE Γ (.idx [.bv 2, .bv i]) ⟨scS s st B line k x6 x7 x8, sr⟩ = some (.int (lb B x), ⟨scS s st B line k x6 x7 x8, sr⟩) := by
      have h2 : getS (scS s st B line k x6 x7 x8) 2 = some (encF B) := rfl
      simp [evE, evV, hi, h2, hb]
    have h3 : getS (scS s st B line k x6 x7 x8) 3 = some (.dict (dmap (fun n : Nat => PyData.int n) ((line.map (lb B)).map fun y => (y, .bool true)))) := rfl
    have hlen : (dmap (fun n : Nat => PyData.int n) ((line.map (lb B)).map fun y => (y, .bool true))).length < lim := by
      simp [dmap]; unfold lim; omega
    have hv : evE Γ (.bl true) ⟨scS s st B line k x6 x7 x8, sr⟩ = some (.bool true, ⟨scS s st B line k x6 x7 x8, sr⟩) := rfl
    simp only [evS, hv, Option.bind_some, h3, hidx, kn_ok, hlen, decide_true, Bool.and_self, if_true, kn_set hm]
    simp [scS, encKn]
  have hi' : getS [some (encA s), some (encS st), some (encF B), some (encKn ((line ++ [x]).map (lb B))), some (encFL line), some (.int k), x6, x7, x8] i = some (.int x) := by
    rw [← hi]
    unfold getS scS
    match i, hne3 with
    | 0, _ => rfl
    | 1, _ => rfl
    | 2, _ => rfl
    | i + 4, _ => rfl
  rw [evSs_nx h1, evSs_nx (evS_app (d0 := encFL line) (d := .int x) (xs := line.map fun n : Nat => PyData.int n) (ρ' := ⟨[some (encA s), some (encS st), some (encF B), some (encKn ((line ++ [x]).map (lb B))), some (encFL line), some (.int k), x6, x7, x8], sr⟩) rfl rfl (by simp only [evE, hi', Option.map_some]) rfl (by simp; unfold lim; omega))]
  simp [evSs, scS, encFL]
theorem lenB_FL {f : List Nat} : lenB [encFL f] = some (.int f.length) := by simp [lenB, encFL]
def succS (st : Steps) (a : Nat) : List Nat := somes (st.getD a [])
theorem ev_states_come (hok : Ok st) (hB : B.length = st.length) (hs : ∀ p ∈ s, p.2 < st.length) (hn : st.length ≤ 1000) (hbl : ∀ x, x < st.length → lb B x < st.length) :
    ∃ k line, RunB (lb B) (succS st) (s.map (·.2)) k line ∧ line.length ≤ k ∧ runFn Γ ⟨9, false, bstates_come⟩ [encA s, encS st, encF B] sr = some (encFL line, sr) := by
  have h1 : evS Γ (.par [3, 4, 5] [.dic, .lst [], .int 0]) ⟨[some (encA s), some (encS st), some (encF B), none, none, none, none, none, none], sr⟩ = some (.nx, ⟨scS s st B [] 0 none none none, sr⟩) := by
    simp [evS, evE, evV, setAll, scS, encKn, encFL, dmap]
  have hsmall : ∀ {line : List Nat}, (line.map (lb B)).Nodup → (∀ x ∈ line, x < st.length) → line.length ≤ st.length := fun {line} nd hx => by
    have := length_le_of_subset (xs := line.map (lb B)) (ys := List.range st.length) nd fun x hx' => by
      obtain ⟨y, hy, rfl⟩ := List.mem_map.mp hx'
      exact List.mem_range.mpr (hbl y (hx y hy))
    simpa using this
  have h2 := evS_for (Γ := Γ) (hd := [3, 4, 5]) (ex := [3, 4, 5]) (t := .tup [.nm 6, .nm 7]) (it := .var 0) (b := [.ite (.cmp .notIn [.idx [.bv 2, .bv 7], .bv 3]) [.setI 3 (.idx [.bv 2, .bv 7]) (.bl true), .app 4 (.var 7)] []]) (ρ := ⟨scS s st B [] 0 none none none, sr⟩) encP s (ρ1 := ⟨scS s st B [] 0 none none none, sr⟩) (d := encA s) rfl rfl
    (fun done ρ => ∃ x6 x7, ρ = ⟨scS s st B (addB (lb B) [] (done.map (·.2))) 0 x6 x7 none, sr⟩) ⟨none, none, rfl⟩
    (fun done p rest ρ e ⟨x6, x7, hρ⟩ => by
      subst hρ
      have hp := hs p (by rw [e]; simp)
      refine ⟨scS s st B (addB (lb B) [] (done.map (·.2))) 0 (some (pairD p.1)) (some (.int p.2)) none, _, rfl, ?_, some (pairD p.1), some (.int p.2), rfl⟩
      have hb := atD_F (f := B) (i := p.2) (by omega)
      have ht : evE Γ (.cmp .notIn [.idx [.bv 2, .bv 7], .bv 3]) ⟨scS s st B (addB (lb B) [] (done.map (·.2))) 0 (some (pairD p.1)) (some (.int p.2)) none, sr⟩ = some (.bool (!decide (lb B p.2 ∈ (addB (lb B) [] (done.map (·.2))).map (lb B))), ⟨scS s st B (addB (lb B) [] (done.map (·.2))) 0 (some (pairD p.1)) (some (.int p.2)) none, sr⟩) := by
        simp only [evE, evV, scS, getS, List.getElem?_cons_succ, List.getElem?_cons_zero, Option.bind_some, id, if_true, hb, Option.map_some, cmpD, kn_in]
      rw [List.map_append, List.map_singleton, addB_snoc]
      have hin : ∀ x ∈ addB (lb B) [] (done.map (·.2)), x < st.length := fun x hx => by
        rcases addB_mem hx with z | z
        · simp at z
        · obtain ⟨q, hq, rfl⟩ := List.mem_map.mp z
          exact hs q (by rw [e]; simp [hq])
      by_cases hm : lb B p.2 ∈ (addB (lb B) [] (done.map (·.2))).map (lb B)
      · rw [if_pos hm]
        simp only [evSs, evS, ht, decide_eq_true hm, Bool.not_true, boolR_bool, Option.bind_some, Bool.false_eq_true, if_false]
      · rw [if_neg hm]
        have hll := hsmall (line := addB (lb B) [] (done.map (·.2))) (by rw [addB_map]; exact nodup_dd) hin
        have := ev_come (Γ := Γ) (sr := sr) (s := s) (st := st) (B := B) (line := addB (lb B) [] (done.map (·.2))) (k := 0) (x := p.2) (x6 := some (pairD p.1)) (x7 := some (.int p.2)) (x8 := none) 7 rfl (by omega) (by omega) hm
        rw [evSs_nx (ρ' := ⟨scS s st B (addB (lb B) [] (done.map (·.2)) ++ [p.2]) 0 (some (pairD p.1)) (some (.int p.2)) none, sr⟩)]
        · rfl
        · rw [← this]
          simp only [evS, ht, decide_eq_false hm, Bool.not_false, boolR_bool, Option.bind_some, if_true])
  obtain ⟨ρ1, h2, x6, x7, hρ1⟩ := h2
  subst hρ1
  have hsc : ∀ a, a < st.length → ∀ x ∈ succS st a, x < st.length := fun a ha x hx => hok _ (getD_mem ha) x (mem_somes.mp hx)
  have hst : ∀ x ∈ s.map (·.2), x < st.length := fun x hx => by
    obtain ⟨q, hq, rfl⟩ := List.mem_map.mp hx
    exact hs q hq
  have h3 := evS_while (Γ := Γ) (hd := [3, 4]) (ex := [3, 4]) (t := .cmp .lt [.bv 5, .bi .len [.bv 4]]) (b := [.forr [3, 4] [3, 4] (.nm 8) (.idx [.bv 1, .idx [.bv 4, .bv 5]]) [.ite (.and [.cmp .isNot [.bv 8, .non], .cmp .notIn [.idx [.bv 2, .bv 8], .bv 3]]) [.setI 3 (.idx [.bv 2, .bv 8]) (.bl true), .app 4 (.var 8)] []], .aug 5 .add (.int 1)])
    (ρ := ⟨scS s st B (addB (lb B) [] (s.map (·.2))) 0 x6 x7 none, sr⟩)
    (fun m ρ => ∃ (k : Nat) (line : List Nat) (x8 : Option D), RunB (lb B) (succS st) (s.map (·.2)) k line ∧ m = st.length + 1 - k ∧ ρ = ⟨scS s st B line k x6 x7 x8, sr⟩)
    (fun ρ => ∃ (k : Nat) (line : List Nat) (x8 : Option D), RunB (lb B) (succS st) (s.map (·.2)) k line ∧ line.length ≤ k ∧ ρ = ⟨scS s st B line k x6 x7 x8, sr⟩) (st.length + 1) (by unfold turns; omega)
    ⟨0, _, none, .init, rfl, rfl⟩
    (fun m ρ ⟨k, line, x8, hR, hm, hρ⟩ => by
      subst hρ
      have hin := hR.sub (· < st.length) hst hsc
      have hll := hsmall hR.nodup hin
      have ht : evE Γ (.cmp .lt [.bv 5, .bi .len [.bv 4]]) ⟨scS s st B line k x6 x7 x8, sr⟩ = some (.bool (decide (k < line.length)), ⟨scS s st B line k x6 x7 x8, sr⟩) := by
        have e1 : getS (scS s st B line k x6 x7 x8) 4 = some (encFL line) := rfl
        have e2 : getS (scS s st B line k x6 x7 x8) 5 = some (.int k) := rfl
        simp [evE, evV, e1, e2, biD, lenB_FL, cmpD, ltD]
      by_cases hk : k < line.length
      · have hka : line[k]? = some line[k] := List.getElem?_eq_getElem hk
        have ha := hin line[k] (List.getElem_mem hk)
        have hit : evE Γ (.idx [.bv 1, .idx [.bv 4, .bv 5]]) ⟨scS s st B line k x6 x7 x8, sr⟩ = some (encL (st.getD line[k] []), ⟨scS s st B line k x6 x7 x8, sr⟩) := by
          have e1 : getS (scS s st B line k x6 x7 x8) 4 = some (encFL line) := rfl
          have e2 : getS (scS s st B line k x6 x7 x8) 5 = some (.int k) := rfl
          have e3 : getS (scS s st B line k x6 x7 x8) 1 = some (encS st) := rfl
          have e4 := atD_FL (f := line) hk
          have e5 : lb line k = line[k] := by simp [lb, List.getD, hk]
          rw [e5] at e4
          simp only [evE, evV, e1, e2, e3, e4, atD_S ha, Option.bind_some, if_true, Option.map_some, tyD_S]
        have hl8 := evS_for (Γ := Γ) (hd := [3, 4]) (ex := [3, 4]) (t := .nm 8) (it := .idx [.bv 1, .idx [.bv 4, .bv 5]]) (b := [.ite (.and [.cmp .isNot [.bv 8, .non], .cmp .notIn [.idx [.bv 2, .bv 8], .bv 3]]) [.setI 3 (.idx [.bv 2, .bv 8]) (.bl true), .app 4 (.var 8)] []])
          (ρ := ⟨scS s st B line k x6 x7 x8, sr⟩) encO (st.getD line[k] []) hit rfl
          (fun done ρ => ∃ x8, ρ = ⟨scS s st B (addB (lb B) line (somes done)) k x6 x7 x8, sr⟩) ⟨x8, rfl⟩
          (fun done o rest ρ e ⟨y8, hρ⟩ => by
            subst hρ
            refine ⟨scS s st B (addB (lb B) line (somes done)) k x6 x7 (some (encO o)), _, rfl, ?_, some (encO o), rfl⟩
            have e8 : getS (scS s st B (addB (lb B) line (somes done)) k x6 x7 (some (encO o))) 8 = some (encO o) := rfl
            cases o with
            | none =>
              have : somes (done ++ [none]) = somes done := by simp [somes]
              rw [this]
              have e8' : getS (scS s st B (addB (lb B) line (somes done)) k x6 x7 (some PyData.none)) 8 = some .none := rfl
              simp only [evSs, evS, evE, evAnd, evV, e8', Option.bind_some, if_true, cmpD, isD, encO, isNoneD, Option.map_some, Bool.not_true, boolR_bool, Bool.false_eq_true, if_false]
            | some x =>
              have : somes (done ++ [some x]) = somes done ++ [x] := by simp [somes]
              rw [this, addB_snoc]
              have hx : x < st.length := hsc _ ha x (mem_somes.mpr (by rw [e]; simp))
              have hb := atD_F (f := B) (i := x) (by omega)
              have e2 : getS (scS s st B (addB (lb B) line (somes done)) k x6 x7 (some (encO (some x)))) 2 = some (encF B) := rfl
              have e3 : getS (scS s st B (addB (lb B) line (somes done)) k x6 x7 (some (encO (some x)))) 3 = some (encKn ((addB (lb B) line (somes done)).map (lb B))) := rfl
              have ht : evE Γ (.and [.cmp .isNot [.bv 8, .non], .cmp .notIn [.idx [.bv 2, .bv 8], .bv 3]]) ⟨scS s st B (addB (lb B) line (somes done)) k x6 x7 (some (encO (some x))), sr⟩ = some (.bool (!decide (lb B x ∈ (addB (lb B) line (somes done)).map (lb B))), ⟨scS s st B (addB (lb B) line (somes done)) k x6 x7 (some (encO (some x))), sr⟩) := by
                have e8' : getS (scS s st B (addB (lb B) line (somes done)) k x6 x7 (some (PyData.int x))) 8 = some (.int x) := rfl
                have e2' : getS (scS s st B (addB (lb B) line (somes done)) k x6 x7 (some (PyData.int x))) 2 = some (encF B) := rfl
                have e3' : getS (scS s st B (addB (lb B) line (somes done)) k x6 x7 (some (PyData.int x))) 3 = some (encKn ((addB (lb B) line (somes done)).map (lb B))) := rfl
                simp only [evE, evV, evAnd, e8', e2', e3', Option.bind_some, if_true, hb, Option.map_some, cmpD, kn_in, isD, isNoneD, encO, Bool.not_false, boolR_bool]
                by_cases hm : lb B x ∈ (addB (lb B) line (somes done)).map (lb B) <;> simp [hm]
              by_cases hm : lb B x ∈ (addB (lb B) line (somes done)).map (lb B)
              · rw [if_pos hm]
                simp only [evSs, evS, ht, decide_eq_true hm, Bool.not_true, boolR_bool, Option.bind_some, Bool.false_eq_true, if_false]
              · rw [if_neg hm]
                have hll := hsmall (line := addB (lb B) line (somes done)) (by rw [addB_map]; exact nodup_ddFrom hR.nodup) fun y hy => by
                  rcases addB_mem hy with z | z
                  · exact hin y z
                  · exact hsc _ ha y (mem_somes.mpr (by rw [e]; exact List.mem_append_left _ (mem_somes.mp z)))
                have := ev_come (Γ := Γ) (sr := sr) (s := s) (st := st) (B := B) (line := addB (lb B) line (somes done)) (k := k) (x := x) (x6 := x6) (x7 := x7) (x8 := some (encO (some x))) 8 rfl (by omega) (by omega) hm
                rw [evSs_nx (ρ' := ⟨scS s st B (addB (lb B) line (somes done) ++ [x]) k x6 x7 (some (encO (some x))), sr⟩)]
                · rfl
                · rw [← this]
                  simp only [evS, ht, decide_eq_false hm, Bool.not_false, boolR_bool, Option.bind_some, if_true])
        obtain ⟨ρ2, hl8, y8, hρ2⟩ := hl8
        subst hρ2
        refine .inr ⟨_, _, st.length + 1 - (k + 1), by rw [ht, decide_eq_true hk], ?_, by omega, k + 1, addB (lb B) line (succS st line[k]), y8, .step hR hka, rfl, rfl⟩
        rw [evSs_nx hl8]
        have e5 : getS (scS s st B (addB (lb B) line (somes (st.getD line[k] []))) k x6 x7 y8) 5 = some (.int k) := rfl
        simp only [evSs, evS, evE, e5, Option.bind_some, binD, addD, Option.map_some]
        simp [scS, succS]
      · exact .inl ⟨_, by rw [ht, decide_eq_false hk], k, line, x8, hR, by omega, rfl⟩)
  obtain ⟨ρ2, h3, k, line, x8, hR, hk, hρ2⟩ := h3
  subst hρ2
  refine ⟨k, line, hR, hk, ?_⟩
  refine runFn_of (ρ' := ⟨scS s st B line k x6 x7 x8, sr⟩) [some (encA s), some (encS st), some (encF B), none, none, none, none, none, none] rfl ?_ rfl
  rw [bstates_come, evSs_nx h1, evSs_nx h2, evSs_nx h3, evSs_rt]
  rfl
end
/-! ### told_by -/
section
variable {Γ : Calls} {sr : Src} {s : List ((Int × Int) × Nat)} {st : Steps} {d : Nat} {B : List Nat}
/-- the number that a label has among heads' labels -/
def plc (hb : List Nat) (b : Nat) : Option Nat := if b ∈ hb then some (idx hb b) else none
def encPs (B hb : List Nat) : D := .tuple (B.map fun b => encO (plc hb b))
def encA' (B hb : List Nat) (s : List ((Int × Int) × Nat)) : D := .tuple (s.map fun p => .tuple [pairD p.1, encO (plc hb (lb B p.2))])
def encS' (B hb heads : List Nat) (st : Steps) : D := .tuple (heads.map fun h => .tuple ((st.getD h []).map fun o => encO (o.bind fun j => plc hb (lb B j))))
theorem get1_ix (hb : List Nat) (b : Nat) : get1B [.dict (dmap (fun n : Nat => PyData.int n) (ixL hb 0)), .int b] = some (encO (plc hb b)) := by
  have h1 := okK_dmap encNat_enc (ixL hb 0) b
  have h2 := dget_dmap encNat_enc (ixL hb 0) b
  rw [aget_ix] at h2
  simp only [get1B, h1, h2, if_true]
  unfold plc
  by_cases h : b ∈ hb <;> simp [h, encO]
theorem ix_range (heads : List Nat) (f : Nat → Nat) : (List.range heads.length).map (fun i : Nat => (f (lb heads i), PyData.int (i : Int))) = ixL (heads.map f) 0 := by
  apply List.ext_getElem
  · simp [ixL]
  · intro i h1 h2
    simp at h1
    simp [ixL, lb, List.getD, h1]
structure WfB (s : List ((Int × Int) × Nat)) (st : Steps) : Prop where
  ok : Ok st
  hd : ∀ l ∈ st, l.length ≤ 1000
  hs : ∀ p ∈ s, p.2 < st.length
  n1 : st.length ≤ 1000
  n0 : 0 < st.length
  n3 : s.length ≤ 1000
theorem blocks_lt {f : List Nat} (b : Blocks st f) {x : Nat} (hx : x < st.length) : lb f x < st.length := by
  obtain ⟨g, e⟩ := b.num
  have h1 : lb f x ∈ f := by
    unfold lb
    rw [List.getD_eq_getElem?_getD, List.getElem?_eq_getElem (by rw [b.len]; exact hx)]
    exact List.getElem_mem _
  have h2 : ∀ y ∈ f, y < st.length := by
    rw [e, numer_eq]
    intro y hy
    obtain ⟨k, hk, e2⟩ := List.mem_map.mp hy
    rw [← e2]
    have := idx_lt (mem_dd.mpr hk)
    have h3 := dd_length_le (xs := keysOf st g)
    rw [keysOf_len] at h3
    show idx (dd (keysOf st g)) k < _
    omega
  exact h2 _ h1
theorem ev_told (W : WfB s st) : ∃ (f heads : List Nat) (k : Nat), Blocks st f ∧ RunB (lb f) (succS st) (s.map (·.2)) k heads ∧ heads.length ≤ k ∧
    runFn G0 Ftold_by [encA s, encS st] sr = some (.tuple [.tuple [encA' f (heads.map (lb f)) s, encS' f (heads.map (lb f)) heads st], encPs f (heads.map (lb f))], sr) := by
  obtain ⟨f, hB, e1⟩ := ev_blocks (Γ := noC) (sr := {}) W.ok W.hd W.n1 W.n0
  obtain ⟨k, heads, hR, hk, e2⟩ := ev_states_come (Γ := noC) (sr := {}) (s := s) (st := st) (B := f) W.ok hB.len W.hs W.n1 fun x hx => blocks_lt hB hx
  refine ⟨f, heads, k, hB, hR, hk, ?_⟩
  have hsc : ∀ a, a < st.length → ∀ x ∈ succS st a, x < st.length := fun a ha x hx => W.ok _ (getD_mem ha) x (mem_somes.mp hx)
  have hst : ∀ x ∈ s.map (·.2), x < st.length := fun x hx => by
    obtain ⟨q, hq, rfl⟩ := List.mem_map.mp hx
    exact W.hs q hq
  have hin := hR.sub (· < st.length) hst hsc
  have hll : heads.length ≤ st.length := by
    have := length_le_of_subset (xs := heads.map (lb f)) (ys := List.range st.length) hR.nodup fun x hx' => by
      obtain ⟨y, hy, rfl⟩ := List.mem_map.mp hx'
      exact List.mem_range.mpr (blocks_lt hB (hin y hy))
    simpa using this
  have c1 : G0 "blocks_of" [encS st] {} = some (encF f, {}) := by
    rw [show G0 "blocks_of" = runFn noC Fblocks_of by simp [G0]]
    exact e1
  have c2 : G0 "states_come" [encA s, encS st, encF f] {} = some (encFL heads, {}) := by
    rw [show G0 "states_come" = runFn noC Fstates_come by simp [G0]]
    exact e2
  have hlb : ∀ i, i < heads.length → lb heads i < st.length := fun i hi => hin _ (by
    unfold lb
    rw [List.getD_eq_getElem?_getD, List.getElem?_eq_getElem hi]
    exact List.getElem_mem _)
  -- the statements
  have s1 : evS G0 (.asg (.nm 2) (.call "blocks_of" none [.var 1])) ⟨[some (encA s), some (encS st), none, none, none, none, none, none, none, none, none, none, none], sr⟩ = some (.nx, ⟨[some (encA s), some (encS st), some (encF f), none, none, none, none, none, none, none, none, none, none], sr⟩) := by
    simp [evS, evE, evV, getS, c1, asgT]
  have s2 : evS G0 (.asg (.nm 3) (.call "states_come" none [.var 0, .var 1, .var 2])) ⟨[some (encA s), some (encS st), some (encF f), none, none, none, none, none, none, none, none, none, none], sr⟩ = some (.nx, ⟨[some (encA s), some (encS st), some (encF f), some (encFL heads), none, none, none, none, none, none, none, none, none], sr⟩) := by
    simp [evS, evE, evV, getS, c2, asgT]
  have s3 : evS G0 (.asg (.nm 4) (.bi .dict [.comp [5, 6] (.tup [.nm 5, .nm 6]) (.enum [.bv 3]) [] (.tup [.idx [.bv 2, .bv 6], .var 5])])) ⟨[some (encA s), some (encS st), some (encF f), some (encFL heads), none, none, none, none, none, none, none, none, none], sr⟩
      = some (.nx, ⟨[some (encA s), some (encS st), some (encF f), some (encFL heads), some (.dict (dmap (fun n : Nat => PyData.int n) (ixL (heads.map (lb f)) 0))), none, none, none, none, none, none, none, none], sr⟩) := by
    have := evE_compA (Γ := G0) (s := sr) (own := [5, 6]) (t := .tup [.nm 5, .nm 6]) (it := .enum [.bv 3]) (elt := .tup [.idx [.bv 2, .bv 6], .var 5]) (sl0 := [some (encA s), some (encS st), some (encF f), some (encFL heads), none, none, none, none, none, none, none, none, none]) (sl := [some (encA s), some (encS st), some (encF f), some (encFL heads), none, none, none, none, none, none, none, none, none])
      (fun i : Nat => PyData.tuple [.int i, (heads.map fun n : Nat => PyData.int n).getD i .none]) (fun i => PyData.tuple [.int (lb f (lb heads i)), .int i]) (List.range heads.length) (evE_enumB (d := encFL heads) rfl (.inr rfl)) (by simp [seqD]) rfl (fun i hi => by
        have hi : i < heads.length := List.mem_range.mp hi
        refine ⟨[some (encA s), some (encS st), some (encF f), some (encFL heads), none, some (.int i), some (.int (lb heads i)), none, none, none, none, none, none], ?_, ?_, rfl⟩
        · simp [asgT, asgTs, List.getD, hi, lb]
        · have hb := atD_F (f := f) (i := lb heads i) (by rw [hB.len]; exact hlb i hi)
          simp [evE, evV, getS, hb]) (by simp; unfold lim; have := W.n1; omega) rfl
    have hdict := dictB_nodup encNat_enc (fun i => lb f (lb heads i)) (fun i : Nat => PyData.int (i : Int)) (List.range heads.length) (by
      have := hR.nodup
      rw [← map_range_lb (f := heads), List.map_map] at this
      exact this)
    rw [ix_range heads (lb f)] at hdict
    simp only [evS]
    rw [evE_bi1 this (z := .dict (dmap (fun n : Nat => PyData.int n) (ixL (heads.map (lb f)) 0))) (by simp only [biD, dictB]; exact hdict)]
    rfl
  have s4 : evS G0 (.asg (.nm 7) (.bi .tuple [.comp [8] (.nm 8) (.bv 2) [] (.bi .get1 [.bv 4, .bv 8])])) ⟨[some (encA s), some (encS st), some (encF f), some (encFL heads), some (.dict (dmap (fun n : Nat => PyData.int n) (ixL (heads.map (lb f)) 0))), none, none, none, none, none, none, none, none], sr⟩
      = some (.nx, ⟨[some (encA s), some (encS st), some (encF f), some (encFL heads), some (.dict (dmap (fun n : Nat => PyData.int n) (ixL (heads.map (lb f)) 0))), none, none, some (encPs f (heads.map (lb f))), none, none, none, none, none], sr⟩) := by
    have := evE_compA (Γ := G0) (s := sr) (own := [8]) (t := .nm 8) (it := .bv 2) (elt := .bi .get1 [.bv 4, .bv 8]) (sl0 := [some (encA s), some (encS st), some (encF f), some (encFL heads), some (.dict (dmap (fun n : Nat => PyData.int n) (ixL (heads.map (lb f)) 0))), none, none, none, none, none, none, none, none]) (sl := [some (encA s), some (encS st), some (encF f), some (encFL heads), some (.dict (dmap (fun n : Nat => PyData.int n) (ixL (heads.map (lb f)) 0))), none, none, none, none, none, none, none, none])
      (d := encF f) (fun n : Nat => PyData.int n) (fun b => encO (plc (heads.map (lb f)) b)) f rfl rfl rfl (fun b hb => by
        refine ⟨[some (encA s), some (encS st), some (encF f), some (encFL heads), some (.dict (dmap (fun n : Nat => PyData.int n) (ixL (heads.map (lb f)) 0))), none, none, none, some (.int b), none, none, none, none], rfl, ?_, rfl⟩
        have := get1_ix (heads.map (lb f)) b
        simp [evE, evV, getS, biD, this]) (by rw [hB.len]; exact lim1000 W.n1) rfl
    simp only [evS]
    rw [evE_bi1 this rfl]
    rfl
  have s5 : evS G0 (.asg (.nm 9) (.comp [6] (.nm 6) (.bv 3) [] (.bi .tuple [.comp [10] (.nm 10) (.idx [.bv 1, .bv 6]) [] (.ite (.cmp .isNot [.bv 10, .non]) (.idx [.bv 7, .bv 10]) (.non))]))) ⟨[some (encA s), some (encS st), some (encF f), some (encFL heads), some (.dict (dmap (fun n : Nat => PyData.int n) (ixL (heads.map (lb f)) 0))), none, none, some (encPs f (heads.map (lb f))), none, none, none, none, none], sr⟩
      = some (.nx, ⟨[some (encA s), some (encS st), some (encF f), some (encFL heads), some (.dict (dmap (fun n : Nat => PyData.int n) (ixL (heads.map (lb f)) 0))), none, none, some (encPs f (heads.map (lb f))), none, some (.list (heads.map fun h => .tuple ((st.getD h []).map fun o => encO (o.bind fun j => plc (heads.map (lb f)) (lb f j))))), none, none, none], sr⟩) := by
    have := evE_compA (Γ := G0) (s := sr) (own := [6]) (t := .nm 6) (it := .bv 3) (elt := .bi .tuple [.comp [10] (.nm 10) (.idx [.bv 1, .bv 6]) [] (.ite (.cmp .isNot [.bv 10, .non]) (.idx [.bv 7, .bv 10]) (.non))]) (sl0 := [some (encA s), some (encS st), some (encF f), some (encFL heads), some (.dict (dmap (fun n : Nat => PyData.int n) (ixL (heads.map (lb f)) 0))), none, none, some (encPs f (heads.map (lb f))), none, none, none, none, none]) (sl := [some (encA s), some (encS st), some (encF f), some (encFL heads), some (.dict (dmap (fun n : Nat => PyData.int n) (ixL (heads.map (lb f)) 0))), none, none, some (encPs f (heads.map (lb f))), none, none, none, none, none])
      (d := encFL heads) (fun n : Nat => PyData.int n) (fun h => PyData.tuple ((st.getD h []).map fun o => encO (o.bind fun j => plc (heads.map (lb f)) (lb f j)))) heads rfl rfl rfl (fun h hh => by
        refine ⟨[some (encA s), some (encS st), some (encF f), some (encFL heads), some (.dict (dmap (fun n : Nat => PyData.int n) (ixL (heads.map (lb f)) 0))), none, some (.int h), some (encPs f (heads.map (lb f))), none, none, none, none, none], rfl, ?_, rfl⟩
        have hh' := hin h hh
        have hat := atD_S (st := st) hh'
        refine evE_bi1 (evE_compA (Γ := G0) (s := sr) (own := [10]) (sl := [some (encA s), some (encS st), some (encF f), some (encFL heads), some (.dict (dmap (fun n : Nat => PyData.int n) (ixL (heads.map (lb f)) 0))), none, some (.int h), some (encPs f (heads.map (lb f))), none, none, none, none, none]) (d := encL (st.getD h [])) encO (fun o => encO (o.bind fun j => plc (heads.map (lb f)) (lb f j))) (st.getD h []) (by simp [evE, evV, getS, hat]) rfl rfl (fun o ho => ?_) (lim1000 (W.hd _ (getD_mem hh'))) rfl) rfl
        refine ⟨[some (encA s), some (encS st), some (encF f), some (encFL heads), some (.dict (dmap (fun n : Nat => PyData.int n) (ixL (heads.map (lb f)) 0))), none, some (.int h), some (encPs f (heads.map (lb f))), none, none, some (encO o), none, none], rfl, ?_, rfl⟩
        cases o with
        | none => simp [evE, evV, getS, cmpD, isD, isNoneD, encO, tyD]
        | some j =>
          have hj := W.ok _ (getD_mem hh') j ho
          have : atD (encPs f (heads.map (lb f))) (.int j) = some (encO (plc (heads.map (lb f)) (lb f j))) := by
            have hj' : j < f.length := by rw [hB.len]; exact hj
            simp [encPs, atD_natT, hj', List.getD, lb]
          simp [evE, evV, getS, cmpD, isD, isNoneD, encO, tyD, this]) (lim1000 (Nat.le_trans hll W.n1)) rfl
    simp only [evS]
    rw [this]
    rfl
  have s6 : evS G0 (.ret (.tup [.tup [.bi .tuple [.comp [11, 12] (.tup [.nm 11, .nm 12]) (.bv 0) [] (.tup [.var 11, .idx [.bv 7, .bv 12]])], .bi .tuple [.bv 9]], .var 7])) ⟨[some (encA s), some (encS st), some (encF f), some (encFL heads), some (.dict (dmap (fun n : Nat => PyData.int n) (ixL (heads.map (lb f)) 0))), none, none, some (encPs f (heads.map (lb f))), none, some (.list (heads.map fun h => .tuple ((st.getD h []).map fun o => encO (o.bind fun j => plc (heads.map (lb f)) (lb f j))))), none, none, none], sr⟩
      = some (.rt (.tuple [.tuple [encA' f (heads.map (lb f)) s, encS' f (heads.map (lb f)) heads st], encPs f (heads.map (lb f))]), ⟨[some (encA s), some (encS st), some (encF f), some (encFL heads), some (.dict (dmap (fun n : Nat => PyData.int n) (ixL (heads.map (lb f)) 0))), none, none, some (encPs f (heads.map (lb f))), none, some (.list (heads.map fun h => .tuple ((st.getD h []).map fun o => encO (o.bind fun j => plc (heads.map (lb f)) (lb f j))))), none, none, none], sr⟩) := by
    have := evE_compA (Γ := G0) (s := sr) (own := [11, 12]) (t := .tup [.nm 11, .nm 12]) (it := .bv 0) (elt := .tup [.var 11, .idx [.bv 7, .bv 12]]) (sl0 := [some (encA s), some (encS st), some (encF f), some (encFL heads), some (.dict (dmap (fun n : Nat => PyData.int n) (ixL (heads.map (lb f)) 0))), none, none, some (encPs f (heads.map (lb f))), none, some (.list (heads.map fun h => .tuple ((st.getD h []).map fun o => encO (o.bind fun j => plc (heads.map (lb f)) (lb f j))))), none, none, none]) (sl := [some (encA s), some (encS st), some (encF f), some (encFL heads), some (.dict (dmap (fun n : Nat => PyData.int n) (ixL (heads.map (lb f)) 0))), none, none, some (encPs f (heads.map (lb f))), none, some (.list (heads.map fun h => .tuple ((st.getD h []).map fun o => encO (o.bind fun j => plc (heads.map (lb f)) (lb f j))))), none, none, none])
      (d := encA s) encP (fun p => PyData.tuple [pairD p.1, encO (plc (heads.map (lb f)) (lb f p.2))]) s rfl rfl rfl (fun p hp => by
        refine ⟨[some (encA s), some (encS st), some (encF f), some (encFL heads), some (.dict (dmap (fun n : Nat => PyData.int n) (ixL (heads.map (lb f)) 0))), none, none, some (encPs f (heads.map (lb f))), none, some (.list (heads.map fun h => .tuple ((st.getD h []).map fun o => encO (o.bind fun j => plc (heads.map (lb f)) (lb f j))))), none, some (pairD p.1), some (.int p.2)], rfl, ?_, rfl⟩
        have : atD (encPs f (heads.map (lb f))) (.int p.2) = some (encO (plc (heads.map (lb f)) (lb f p.2))) := by
          have hj' : p.2 < f.length := by rw [hB.len]; exact W.hs p hp
          simp [encPs, atD_natT, hj', List.getD, lb]
        simp [evE, evV, getS, this]) (lim1000 W.n3) rfl
    have hA := evE_bi1 (f := .tuple) this (z := encA' f (heads.map (lb f)) s) rfl
    exact evS_ret (evE_tup (evV_cons (evE_tup (evV_cons hA (evV_cons (evE_bi1' (f := .tuple) (i := 9) (z := encS' f (heads.map (lb f)) heads st) rfl rfl) evV_nil))) (evV_cons (e := .var 7) (d := encPs f (heads.map (lb f))) (by simp [evE, getS]) evV_nil)))
  exact runFn_of _ rfl ((evSs_nx s1).trans ((evSs_nx s2).trans ((evSs_nx s3).trans ((evSs_nx s4).trans ((evSs_nx s5).trans (evSs_rt s6)))))) rfl
end
end K48
set_option linter.all false
set_option Elab.async false
set_option maxRecDepth 100000
set_option maxHeartbeats 1000000
/-! K48l: the law's own parts and least form. -/
namespace K48
open PySem Ev
section
variable {Γ : Calls} {sr : Src} {s : List ((Int × Int) × Nat)} {st : Steps} {d : Nat} {B : List Nat}
def encLL (l : Line) : D := .list (l.map encO)
def encSL (st : Steps) : D := .list (st.map encLL)
def encAL (s : List ((Int × Int) × Nat)) : D := .list (s.map encP)
def encKeyL (k : Nat × Line) : D := .tuple [.int k.1, .list (k.2.map encM)]
theorem encKeyL_eqv (a b : Nat × Line) : PyData.eqv (encKeyL a) (encKeyL b) = decide (a = b) := by
  obtain ⟨a1, a2⟩ := a
  obtain ⟨b1, b2⟩ := b
  unfold encKeyL
  rw [eqv_tup, eqvAll_cons, eqvAll_cons, eqv_int, eqv_lst, eqvAll_map encM_eqv, natInt]
  by_cases h1 : a1 = b1 <;> by_cases h2 : a2 = b2 <;> simp [h1, h2, PyData.eqvAll]
theorem encKeyL_sh (k : Nat × Line) : Sh 2 (encKeyL k) := Sh.tup fun x hx => by
  simp at hx
  rcases hx with rfl | rfl
  · exact Sh.int
  · refine Sh.lst (k := 0) fun y hy => ?_
    obtain ⟨o, _, rfl⟩ := List.mem_map.mp hy
    cases o <;> exact Sh.int
theorem asetAll_const {κ : Type} [DecidableEq κ] (c : D) : ∀ (xs kn : List κ), asetAll (kn.map fun x => (x, c)) (xs.map fun x => (x, c)) = (ddFrom kn xs).map fun x => (x, c)
  | [], kn => rfl
  | x :: xs, kn => by
    have hk : (kn.map fun x => (x, c)).map (·.1) = kn := by rw [List.map_map]; exact List.map_id kn
    show asetAll (aset (kn.map fun x => (x, c)) x c) (xs.map fun x => (x, c)) = _
    unfold ddFrom
    by_cases h : x ∈ kn
    · rw [if_pos h]
      have : aset (kn.map fun x => (x, c)) x c = kn.map fun x => (x, c) := by
        clear hk
        induction kn with
        | nil => simp at h
        | cons y ys ih =>
          rw [List.map_cons, aset]
          by_cases e : y = x
          · rw [if_pos e, e]
          · rw [if_neg e, ih (by simpa [Ne.symm e] using h)]
      rw [this, asetAll_const]
    · rw [if_neg h, aset_new (by rw [hk]; exact h), show (kn.map fun x => (x, c)) ++ [(x, c)] = (kn ++ [x]).map fun x => (x, c) by simp, asetAll_const]
/-- a dict of things that tells nothing but that they are there -/
theorem dictB_const {κ : Type} [DecidableEq κ] {enc : κ → D} (K : KEnc enc) (c : D) (xs : List κ) : (pairsD (xs.map fun x => PyData.tuple [enc x, c])).bind (fun ps => (dsetAll [] ps).map PyData.dict) = some (.dict (dmap enc ((dd xs).map fun x => (x, c)))) := by
  rw [pairsD_map, Option.bind_some]
  have := dsetAll_dmap K (xs.map fun x => (x, c)) []
  rw [show ([] : List (κ × D)) = ([] : List κ).map fun x => (x, c) from rfl, asetAll_const] at this
  simp only [dmap, List.map_nil, List.map_map] at this ⊢
  rw [show (xs.map fun x => (enc x, c)) = List.map ((fun p => (enc p.1, p.2)) ∘ fun x => (x, c)) xs from rfl, this]
  rfl
def dictZ (i j : Nat) : E := .bi .len [.bi .dict [.comp [i] (.nm i) (.bv j) [] (.tup [.var i, .int 0])]]
/-- how many unlike things -/
theorem ev_dictZ (i j : Nat) {sl : Slots} {f : List Nat} (hf : f.length ≤ 1000) (hij : i ≠ j) (h : getS sl j = some (encFL f)) (hsl : wipe sl [i] = sl) (hb : i < sl.length) (hr : restore sl sl [i] = sl) :
    evE Γ (dictZ i j) ⟨sl, sr⟩ = some (.int (dd f).length, ⟨sl, sr⟩) := by
  have hx : ∀ x : D, getS (sl.set i (some x)) i = some x := fun x => by
    unfold getS; simp [hb]
  have h1 := evE_compA (Γ := Γ) (s := sr) (own := [i]) (t := .nm i) (it := .bv j) (elt := .tup [.var i, .int 0]) (sl0 := sl) (sl := sl) (d := encFL f) (fun n : Nat => PyData.int n) (fun n : Nat => PyData.tuple [.int n, .int 0]) f
    (by simp [evE, h]) rfl hsl (fun n hn => ⟨sl.set i (some (.int n)), rfl, by simp [evE, evV, hx], by rw [← hsl]; simp [wipe]⟩) (lim1000 hf) hr
  have h2 := dictB_const encNat_enc (.int 0) f
  have h3 := lenB_dmap encNat_enc ((dd f).map fun x => (x, PyData.int 0))
  refine evE_bi1 (evE_bi1 h1 (z := .dict (dmap (fun n : Nat => PyData.int n) ((dd f).map fun x => (x, PyData.int 0)))) (by simp only [biD, dictB]; exact h2)) ?_
  simp only [biD, h3, List.length_map]
structure Parts (st : Steps) (f : List Nat) : Prop where
  len : f.length = st.length
  idx : ∃ g, f = (keysOf st g).map fun x => idx (keysOf st g) x
  stable : ∀ i j, i < st.length → j < st.length → lb f i = lb f j → (st.getD i []).map (Option.map (lb f)) = (st.getD j []).map (Option.map (lb f))
  coarse : Coarse st f
theorem evE_index {α : Type} [DecidableEq α] {enc : α → D} (he : ∀ a b, PyData.eqv (enc a) (enc b) = decide (a = b)) {k : Nat} (hs : ∀ a, Sh k (enc a)) (hk : k ≤ 60) {xs : List α} {x : α} (hx : x ∈ xs) {es : List E} {ρ ρ' : Ste} (h : evV Γ es ρ = some ([.list (xs.map enc), enc x], ρ')) : evE Γ (.bi .index es) ρ = some (.int (Ev.idx xs x : Nat), ρ') := by
  have h1 : SeqAt.shaped (.list (xs.map enc)) = true := (Sh.lst (k := k) fun y hy => by
    obtain ⟨a, _, rfl⟩ := List.mem_map.mp hy
    exact hs a).ok (by omega)
  have h2 : SeqAt.shaped (enc x) = true := (hs x).ok (by omega)
  simp only [evE, h, Option.bind_some, biD, indexB, h1, h2, Bool.and_self, if_true, indexD_map he xs x 0 hx, Option.map_some, Nat.zero_add]
def plS (st : Steps) (f : List Nat) (c : Nat) (x4 : Option D) : Slots := [some (encSL st), some (encFL f), some (.int c), none, x4, none, none, none, none]
theorem ev_parts (hok : Ok st) (hd : ∀ l ∈ st, l.length ≤ 1000) (hn : st.length ≤ 1000) (h0 : 0 < st.length) : ∃ f, Parts st f ∧ runFn Γ F_law_parts [encSL st] sr = some (encFL f, sr) := by
  have h1 : evS Γ (.par [1, 2] [.bin .mul [.lst [.int 0], .bi .len [.bv 0]], .int 0]) ⟨[some (encSL st), none, none, none, none, none, none, none, none], sr⟩ = some (.nx, ⟨plS st (List.replicate st.length 0) 0 none, sr⟩) := by
    have : mulD (.list [.int 0]) (.int (st.length : Int)) = some (encFL (List.replicate st.length 0)) := by
      simp [mulD, encFL, lim]
      omega
    have hl : lenB [encSL st] = some (.int st.length) := by simp [lenB, encSL]
    simp [evS, evE, evV, getS, biD, binD, setAll, hl, this, plS]
  have h2 := evS_while (Γ := Γ) (hd := [1, 2]) (ex := [1, 2]) (t := .cmp .gt [dictZ 3 1, .bv 2]) (b := [.asg (.nm 2) (dictZ 3 1),
    .asg (.nm 4) (.comp [6, 7] (.tup [.nm 6, .nm 7]) (.enum [.bv 0]) [] (.tup [.idx [.bv 1, .bv 6], .comp [5] (.nm 5) (.bv 7) [] (.ite (.cmp .isNot [.bv 5, .non]) (.idx [.bv 1, .bv 5]) (.neg (.int 1)))])),
    .asg (.nm 1) (.comp [8] (.nm 8) (.bv 4) [] (.bi .index [.bv 4, .bv 8]))]) (ρ := ⟨plS st (List.replicate st.length 0) 0 none, sr⟩)
    (fun m ρ => ∃ (f : List Nat) (c : Nat) (x4 : Option D), m = st.length + 2 - c ∧ f.length = st.length ∧ Coarse st f ∧ (c = 0 ∨ ∃ g, Lap st f g ∧ f = (keysOf st g).map (fun x => idx (keysOf st g) x) ∧ c = (dd g).length) ∧ ρ = ⟨plS st f c x4, sr⟩)
    (fun ρ => ∃ (f : List Nat) (c : Nat) (x4 : Option D), Parts st f ∧ ρ = ⟨plS st f c x4, sr⟩) (st.length + 2) (by unfold turns; omega)
    ⟨List.replicate st.length 0, 0, none, by simp, by simp, coarse_zero, .inl rfl, rfl⟩
    (fun m ρ ⟨f, c, x4, hm, hf, hc, hg, hρ⟩ => by
      subst hρ
      have hz := ev_dictZ (Γ := Γ) (sr := sr) 3 1 (sl := plS st f c x4) (f := f) (by omega) (by decide) rfl rfl (by simp [plS]) rfl
      have htest : evE Γ (.cmp .gt [dictZ 3 1, .bv 2]) ⟨plS st f c x4, sr⟩ = some (.bool (decide (c < (dd f).length)), ⟨plS st f c x4, sr⟩) := by
        have h2 : getS (plS st f c x4) 2 = some (.int c) := rfl
        exact (evE_cmp (evV_cons hz (evV_bv h2 evV_nil h2) (by unfold dictZ; nofun)) (b := decide (c < (dd f).length)) (by simp [cmpD, gtD]))
      have hpos : 0 < (dd f).length := List.length_pos_of_mem (a := f[0]'(by omega)) (mem_dd.mpr (List.getElem_mem _))
      have hle : (dd f).length ≤ st.length := by rw [← hf]; exact dd_length_le
      by_cases hlt : c < (dd f).length
      · have e1 : evS Γ (.asg (.nm 2) (dictZ 3 1)) ⟨plS st f c x4, sr⟩ = some (.nx, ⟨plS st f (dd f).length x4, sr⟩) := evS_asg1 hz
        have e2 : evS Γ (.asg (.nm 4) (.comp [6, 7] (.tup [.nm 6, .nm 7]) (.enum [.bv 0]) [] (.tup [.idx [.bv 1, .bv 6], .comp [5] (.nm 5) (.bv 7) [] (.ite (.cmp .isNot [.bv 5, .non]) (.idx [.bv 1, .bv 5]) (.neg (.int 1)))]))) ⟨plS st f (dd f).length x4, sr⟩ = some (.nx, ⟨plS st f (dd f).length (some (.list ((keysOf st f).map encKeyL))), sr⟩) := by
          have := evE_compA (Γ := Γ) (s := sr) (own := [6, 7]) (t := .tup [.nm 6, .nm 7]) (it := .enum [.bv 0]) (elt := .tup [.idx [.bv 1, .bv 6], .comp [5] (.nm 5) (.bv 7) [] (.ite (.cmp .isNot [.bv 5, .non]) (.idx [.bv 1, .bv 5]) (.neg (.int 1)))]) (sl0 := plS st f (dd f).length x4) (sl := plS st f (dd f).length x4)
            (fun i : Nat => PyData.tuple [.int i, (st.map encLL).getD i .none]) (fun i => encKeyL (keyAt st f i)) (List.range st.length) (evE_enumB (d := encSL st) rfl (.inr rfl)) (by simp [seqD]) rfl (fun i hi => by
              have hi : i < st.length := List.mem_range.mp hi
              refine ⟨[some (encSL st), some (encFL f), some (.int (dd f).length), none, x4, none, some (.int i), some (encLL (st.getD i [])), none], ?_, ?_, rfl⟩
              · simp [asgT, asgTs, List.getD, hi, plS]
              · have hb := atD_FL (f := f) (i := i) (by omega)
                have hL := ev_lab (Γ := Γ) (sr := sr) (fun i h => atD_FL (f := f) h) 5 7 1 (l := st.getD i []) (L := encLL (st.getD i [])) rfl (hd _ (getD_mem hi)) (fun j h => by rw [hf]; exact hok _ (getD_mem hi) j h) (sl := [some (encSL st), some (encFL f), some (.int (dd f).length), none, x4, none, some (.int i), some (encLL (st.getD i [])), none]) rfl rfl (by decide) rfl (by simp) rfl
                exact evE_tup (evV_cons (e := .idx [.bv 1, .bv 6]) (d := .int (lb f i)) (by simp [evE, evV, getS, hb]) (evV_cons hL evV_nil))) (by simp; unfold lim; omega) rfl
          have h3 := evS_asg1 (i := 4) this
          rw [h3]
          simp [plS, keysOf, List.map_map]
        have e3 : evS Γ (.asg (.nm 1) (.comp [8] (.nm 8) (.bv 4) [] (.bi .index [.bv 4, .bv 8]))) ⟨plS st f (dd f).length (some (.list ((keysOf st f).map encKeyL))), sr⟩ = some (.nx, ⟨plS st ((keysOf st f).map fun x => idx (keysOf st f) x) (dd f).length (some (.list ((keysOf st f).map encKeyL))), sr⟩) := by
          have := evE_compA (Γ := Γ) (s := sr) (own := [8]) (t := .nm 8) (it := .bv 4) (elt := .bi .index [.bv 4, .bv 8]) (sl0 := plS st f (dd f).length (some (.list ((keysOf st f).map encKeyL)))) (sl := plS st f (dd f).length (some (.list ((keysOf st f).map encKeyL))))
            (d := .list ((keysOf st f).map encKeyL)) encKeyL (fun x => .int (idx (keysOf st f) x : Nat)) (keysOf st f) rfl rfl rfl (fun x hx => by
              refine ⟨[some (encSL st), some (encFL f), some (.int (dd f).length), none, some (.list ((keysOf st f).map encKeyL)), none, none, none, some (encKeyL x)], rfl, ?_, rfl⟩
              refine evE_index encKeyL_eqv encKeyL_sh (by decide) hx ?_
              simp [evV, getS]) (by rw [keysOf_len]; exact lim1000 hn) rfl
          have h3 := evS_asg1 (i := 1) this
          rw [h3]
          simp [plS, encFL, List.map_map]
        refine .inr ⟨_, _, st.length + 2 - (dd f).length, by rw [htest, decide_eq_true hlt], (evSs_nx e1).trans ((evSs_nx e2).trans ((evSs_nx e3).trans rfl)), ?_, _, (dd f).length, _, rfl, ?_, ?_, .inr ⟨f, lap_idx hf, rfl, rfl⟩, rfl⟩
        · rw [hm]
          exact Nat.sub_lt_sub_left (by omega) hlt
        · simp [keysOf_len]
        · exact (lap_idx hf).coarse hok hc
      · refine .inl ⟨_, by rw [htest, decide_eq_false hlt], f, c, x4, ?_, rfl⟩
        rcases hg with rfl | ⟨g, L, e1, e2⟩
        · omega
        · exact ⟨hf, ⟨g, e1⟩, fun i j hi hj e => L.stable hok (by omega) hi hj e, hc⟩)
  obtain ⟨ρ', h2, f, c, x4, hB, hρ'⟩ := h2
  subst hρ'
  exact ⟨f, hB, runFn_of _ rfl ((evSs_nx h1).trans ((evSs_nx h2).trans (evSs_rt (ρ' := ⟨plS st f c x4, sr⟩) rfl))) rfl⟩
end
/-! ### _law_least -/
section
variable {Γ : Calls} {sr : Src} {s : List ((Int × Int) × Nat)} {st : Steps} {d : Nat} {P : List Nat}
def lsS (s : List ((Int × Int) × Nat)) (st : Steps) (P line : List Nat) (k : Nat) (x5 x6 x7 x8 : Option D) : Slots := [some (encAL s), some (encSL st), some (encFL P), some (encFL line), some (.int k), x5, x6, x7, x8]
theorem inD_FL (y : Nat) (line : List Nat) : inD (.int y) (encFL line) = some (decide (y ∈ line)) := by
  have h1 : SeqAt.shaped (.int (y : Int)) = true := (Sh.int (k := 0)).ok (by decide)
  have h2 : SeqAt.shaped (.list (line.map fun n : Nat => PyData.int n)) = true := (Sh.lst (k := 0) fun x hx => by
    obtain ⟨a, _, rfl⟩ := List.mem_map.mp hx
    exact Sh.int).ok (by decide)
  have h3 := any_map encNat_eqv line y
  simp only [encFL, inD, h1, h2, Bool.and_self, if_true, h3]
def sucP (st : Steps) (P : List Nat) (a : Nat) : List Nat := (succS st a).map (lb P)
def leastOf (s : List ((Int × Int) × Nat)) (st : Steps) (P line : List Nat) : List ((Int × Int) × Nat) × Steps :=
  (s.map fun p => (p.1, idx line (lb P p.2)), line.map fun a => (st.getD a []).map (Option.map fun j => idx line (lb P j)))
theorem parts_lt {f : List Nat} (b : Parts st f) {x : Nat} (hx : x < st.length) : lb f x < st.length := by
  obtain ⟨g, e⟩ := b.idx
  have h1 : lb f x ∈ f := by
    unfold lb
    rw [List.getD_eq_getElem?_getD, List.getElem?_eq_getElem (by rw [b.len]; exact hx)]
    exact List.getElem_mem _
  have h2 : ∀ y ∈ f, y < st.length := by
    rw [e]
    intro y hy
    obtain ⟨k, hk, e2⟩ := List.mem_map.mp hy
    rw [← e2]
    have := idx_lt hk
    rw [keysOf_len] at this
    exact this
  exact h2 _ h1
theorem atD_SL {i : Nat} (h : i < st.length) : atD (encSL st) (.int i) = some (encLL (st.getD i [])) := by
  simp [encSL, atD_nat, h, List.getD]
theorem evE_indexN {xs : List Nat} {x : Nat} (hx : x ∈ xs) {es : List E} {ρ ρ' : Ste} (h : evV Γ es ρ = some ([encFL xs, .int x], ρ')) : evE Γ (.bi .index es) ρ = some (.int (Ev.idx xs x : Nat), ρ') := evE_index (enc := fun n : Nat => PyData.int n) encNat_eqv (k := 0) (fun _ => Sh.int) (by decide) hx h
theorem ev_least (W : WfB s st) : ∃ (P line : List Nat) (k : Nat), Parts st P ∧ Run (sucP st P) (s.map fun p => lb P p.2) k line ∧ line.length ≤ k ∧
    runFn G0 F_law_least [encAL s, encSL st] sr = some (encV (leastOf s st P line).1 (leastOf s st P line).2, sr) := by
  obtain ⟨P, hP, e1⟩ := ev_parts (Γ := noC) (sr := {}) W.ok W.hd W.n1 W.n0
  have c1 : G0 "_law_parts" [encSL st] {} = some (encFL P, {}) := by
    rw [show G0 "_law_parts" = runFn noC F_law_parts by simp [G0]]
    exact e1
  have hsc : ∀ a, a < st.length → ∀ x ∈ sucP st P a, x < st.length := fun a ha x hx => by
    obtain ⟨y, hy, rfl⟩ := List.mem_map.mp hx
    exact parts_lt hP (W.ok _ (getD_mem ha) y (mem_somes.mp hy))
  have hst : ∀ x ∈ s.map (fun p => lb P p.2), x < st.length := fun x hx => by
    obtain ⟨q, hq, rfl⟩ := List.mem_map.mp hx
    exact parts_lt hP (W.hs q hq)
  have hsmall : ∀ {line : List Nat}, line.Nodup → (∀ x ∈ line, x < st.length) → line.length ≤ st.length := fun {line} nd hx => by
    have := length_le_of_subset (xs := line) (ys := List.range st.length) nd fun x hx' => List.mem_range.mpr (hx x hx')
    simpa using this
  have s1 : evS G0 (.par [2, 3, 4] [.call "_law_parts" none [.var 1], .lst [], .int 0]) ⟨[some (encAL s), some (encSL st), none, none, none, none, none, none, none], sr⟩ = some (.nx, ⟨lsS s st P [] 0 none none none none, sr⟩) := by
    simp [evS, evE, evV, getS, c1, setAll, lsS, encFL]
  have s2 := evS_for (Γ := G0) (hd := [3, 4]) (ex := [3, 4]) (t := .tup [.nm 5, .nm 6]) (it := .var 0) (b := [.ite (.cmp .notIn [.idx [.bv 2, .bv 6], .bv 3]) [.app 3 (.idx [.bv 2, .bv 6])] []]) (ρ := ⟨lsS s st P [] 0 none none none none, sr⟩) encP s (ρ1 := ⟨lsS s st P [] 0 none none none none, sr⟩) (d := encAL s) rfl rfl
    (fun done ρ => ∃ x5 x6, ρ = ⟨lsS s st P (ddFrom [] (done.map fun p => lb P p.2)) 0 x5 x6 none none, sr⟩) ⟨none, none, rfl⟩
    (fun done p rest ρ e ⟨x5, x6, hρ⟩ => by
      subst hρ
      have hp := W.hs p (by rw [e]; simp)
      refine ⟨lsS s st P (ddFrom [] (done.map fun p => lb P p.2)) 0 (some (pairD p.1)) (some (.int p.2)) none none, _, rfl, ?_, some (pairD p.1), some (.int p.2), rfl⟩
      have hb := atD_FL (f := P) (i := p.2) (by rw [hP.len]; exact hp)
      have hi : evE G0 (.idx [.bv 2, .bv 6]) ⟨lsS s st P (ddFrom [] (done.map fun p => lb P p.2)) 0 (some (pairD p.1)) (some (.int p.2)) none none, sr⟩ = some (.int (lb P p.2), ⟨lsS s st P (ddFrom [] (done.map fun p => lb P p.2)) 0 (some (pairD p.1)) (some (.int p.2)) none none, sr⟩) := evE_idx (evV_bv rfl (evV_bv rfl evV_nil rfl) rfl) hb
      have ht := evE_cmp (o := .notIn) (evV_cons hi (evV_bv (i := 3) (d := encFL (ddFrom [] (done.map fun p => lb P p.2))) rfl evV_nil rfl)) (b := !decide (lb P p.2 ∈ ddFrom [] (done.map fun p => lb P p.2))) (by simp only [cmpD, inD_FL, Option.map_some])
      rw [List.map_append, List.map_singleton, ddFrom_snoc, evSs_one]
      by_cases hm : lb P p.2 ∈ ddFrom [] (done.map fun p => lb P p.2)
      · rw [if_pos hm]
        rw [decide_eq_true hm] at ht
        rw [evS_iteF ht]
        rfl
      · rw [if_neg hm]
        rw [decide_eq_false hm] at ht
        rw [evS_iteT ht, evSs_one]
        have hlen := dd_length_le (xs := done.map fun p => lb P p.2)
        have hle := congrArg List.length e
        have hn3 := W.n3
        refine (evS_app (d0 := encFL (ddFrom [] (done.map fun p => lb P p.2))) (xs := (ddFrom [] (done.map fun p => lb P p.2)).map fun n : Nat => PyData.int n) rfl rfl hi rfl ?_).trans ?_
        · simp [dd] at hlen hle ⊢; unfold lim; omega
        · simp [lsS, encFL])
  obtain ⟨ρ1, s2, x5, x6, hρ1⟩ := s2
  subst hρ1
  have s3 := evS_while (Γ := G0) (hd := [3, 4]) (ex := [3, 4]) (t := .cmp .lt [.bv 4, .bi .len [.bv 3]]) (b := [.forr [3, 4] [3, 4] (.nm 7) (.idx [.bv 1, .idx [.bv 3, .bv 4]]) [.ite (.and [.cmp .isNot [.bv 7, .non], .cmp .notIn [.idx [.bv 2, .bv 7], .bv 3]]) [.app 3 (.idx [.bv 2, .bv 7])] []], .asg (.nm 4) (.bin .add [.bv 4, .int 1])])
    (ρ := ⟨lsS s st P (ddFrom [] (s.map fun p => lb P p.2)) 0 x5 x6 none none, sr⟩)
    (fun m ρ => ∃ (k : Nat) (line : List Nat) (x7 : Option D), Run (sucP st P) (s.map fun p => lb P p.2) k line ∧ m = st.length + 1 - k ∧ ρ = ⟨lsS s st P line k x5 x6 x7 none, sr⟩)
    (fun ρ => ∃ (k : Nat) (line : List Nat) (x7 : Option D), Run (sucP st P) (s.map fun p => lb P p.2) k line ∧ line.length ≤ k ∧ ρ = ⟨lsS s st P line k x5 x6 x7 none, sr⟩) (st.length + 1) (by have := W.n1; unfold turns; omega)
    ⟨0, _, none, .init, rfl, rfl⟩
    (fun m ρ ⟨k, line, x7, hR, hm, hρ⟩ => by
      subst hρ
      have hin := hR.sub (· < st.length) hst hsc
      have hll := hsmall hR.nodup hin
      have ht : evE G0 (.cmp .lt [.bv 4, .bi .len [.bv 3]]) ⟨lsS s st P line k x5 x6 x7 none, sr⟩ = some (.bool (decide (k < line.length)), ⟨lsS s st P line k x5 x6 x7 none, sr⟩) :=
        evE_cmp (evV_bv (d := .int k) rfl (evV_cons (evE_bi1' (f := .len) (d := encFL line) (z := .int line.length) rfl lenB_FL) evV_nil) rfl) (by simp [cmpD, ltD])
      by_cases hk : k < line.length
      · have hka : line[k]? = some line[k] := List.getElem?_eq_getElem hk
        have ha := hin line[k] (List.getElem_mem hk)
        have e5 : lb line k = line[k] := by simp [lb, List.getD, hk]
        have hit : evE G0 (.idx [.bv 1, .idx [.bv 3, .bv 4]]) ⟨lsS s st P line k x5 x6 x7 none, sr⟩ = some (encLL (st.getD line[k] []), ⟨lsS s st P line k x5 x6 x7 none, sr⟩) := by
          have e4 := atD_FL (f := line) hk
          rw [e5] at e4
          exact evE_idx (evV_bv (d := encSL st) rfl (evV_cons (evE_idx (evV_bv (d := encFL line) rfl (evV_bv (d := .int k) rfl evV_nil rfl) rfl) e4) evV_nil) rfl) (atD_SL ha)
        have hl8 := evS_for (Γ := G0) (hd := [3, 4]) (ex := [3, 4]) (t := .nm 7) (it := .idx [.bv 1, .idx [.bv 3, .bv 4]]) (b := [.ite (.and [.cmp .isNot [.bv 7, .non], .cmp .notIn [.idx [.bv 2, .bv 7], .bv 3]]) [.app 3 (.idx [.bv 2, .bv 7])] []])
          (ρ := ⟨lsS s st P line k x5 x6 x7 none, sr⟩) encO (st.getD line[k] []) hit rfl
          (fun done ρ => ∃ x7, ρ = ⟨lsS s st P (ddFrom line ((somes done).map (lb P))) k x5 x6 x7 none, sr⟩) ⟨x7, rfl⟩
          (fun done o rest ρ e ⟨y7, hρ⟩ => by
            subst hρ
            refine ⟨lsS s st P (ddFrom line ((somes done).map (lb P))) k x5 x6 (some (encO o)) none, _, rfl, ?_, some (encO o), rfl⟩
            rw [evSs_one]
            cases o with
            | none =>
              have : somes (done ++ [none]) = somes done := by simp [somes]
              rw [this]
              have ht : evE G0 (.and [.cmp .isNot [.bv 7, .non], .cmp .notIn [.idx [.bv 2, .bv 7], .bv 3]]) ⟨lsS s st P (ddFrom line ((somes done).map (lb P))) k x5 x6 (some (encO none)) none, sr⟩ = some (.bool false, ⟨lsS s st P (ddFrom line ((somes done).map (lb P))) k x5 x6 (some (encO none)) none, sr⟩) := by
                have := evE_cmp (Γ := G0) (ρ := ⟨lsS s st P (ddFrom line ((somes done).map (lb P))) k x5 x6 (some (encO none)) none, sr⟩) (o := .isNot) (es := [.bv 7, .non]) (x := .none) (y := .none) (b := false) (evV_bv rfl (evV_cons rfl evV_nil) rfl) rfl
                exact evE_and.trans (evAnd_F this)
              rw [evS_iteF ht]
              rfl
            | some x =>
              have : somes (done ++ [some x]) = somes done ++ [x] := by simp [somes]
              rw [this, List.map_append, List.map_singleton, ddFrom_snoc]
              have hx : x < st.length := W.ok _ (getD_mem ha) x (by rw [e]; simp)
              have hb := atD_FL (f := P) (i := x) (by rw [hP.len]; exact hx)
              have hi : evE G0 (.idx [.bv 2, .bv 7]) ⟨lsS s st P (ddFrom line ((somes done).map (lb P))) k x5 x6 (some (encO (some x))) none, sr⟩ = some (.int (lb P x), ⟨lsS s st P (ddFrom line ((somes done).map (lb P))) k x5 x6 (some (encO (some x))) none, sr⟩) := evE_idx (evV_bv (d := encFL P) rfl (evV_bv (d := .int x) rfl evV_nil rfl) rfl) hb
              have ht : evE G0 (.and [.cmp .isNot [.bv 7, .non], .cmp .notIn [.idx [.bv 2, .bv 7], .bv 3]]) ⟨lsS s st P (ddFrom line ((somes done).map (lb P))) k x5 x6 (some (encO (some x))) none, sr⟩ = some (.bool (!decide (lb P x ∈ ddFrom line ((somes done).map (lb P)))), ⟨lsS s st P (ddFrom line ((somes done).map (lb P))) k x5 x6 (some (encO (some x))) none, sr⟩) := by
                have h1 := evE_cmp (Γ := G0) (ρ := ⟨lsS s st P (ddFrom line ((somes done).map (lb P))) k x5 x6 (some (encO (some x))) none, sr⟩) (o := .isNot) (es := [.bv 7, .non]) (x := .int x) (y := .none) (b := true) (evV_bv rfl (evV_cons rfl evV_nil) rfl) rfl
                have h2 := evE_cmp (o := .notIn) (evV_cons hi (evV_bv (i := 3) (d := encFL (ddFrom line ((somes done).map (lb P)))) rfl evV_nil rfl)) (b := !decide (lb P x ∈ ddFrom line ((somes done).map (lb P)))) (by simp only [cmpD, inD_FL, Option.map_some])
                exact evE_and.trans ((evAnd_T h1).trans (evAnd_1 h2))
              by_cases hm : lb P x ∈ ddFrom line ((somes done).map (lb P))
              · rw [if_pos hm]
                rw [decide_eq_true hm] at ht
                rw [evS_iteF ht]
                rfl
              · rw [if_neg hm]
                rw [decide_eq_false hm] at ht
                rw [evS_iteT ht, evSs_one]
                have hll := hsmall (line := ddFrom line ((somes done).map (lb P))) (nodup_ddFrom hR.nodup) fun y hy => by
                  rcases mem_ddFrom.mp hy with z | z
                  · exact hin y z
                  · obtain ⟨w, hw, rfl⟩ := List.mem_map.mp z
                    exact parts_lt hP (W.ok _ (getD_mem ha) w (by rw [e]; exact List.mem_append_left _ (mem_somes.mp hw)))
                have hn1 := W.n1
                refine (evS_app (d0 := encFL (ddFrom line ((somes done).map (lb P)))) (xs := (ddFrom line ((somes done).map (lb P))).map fun n : Nat => PyData.int n) rfl rfl hi rfl ?_).trans ?_
                · simp; unfold lim; omega
                · simp [lsS, encFL])
        obtain ⟨ρ2, hl8, y7, hρ2⟩ := hl8
        subst hρ2
        have e6 : evS G0 (.asg (.nm 4) (.bin .add [.bv 4, .int 1])) ⟨lsS s st P (ddFrom line ((somes (st.getD line[k] [])).map (lb P))) k x5 x6 y7 none, sr⟩ = some (.nx, ⟨lsS s st P (ddFrom line (sucP st P line[k])) (k + 1) x5 x6 y7 none, sr⟩) :=
          evS_asg1 (d := .int ((k + 1 : Nat) : Int)) (evE_bin (evV_bv (d := .int k) rfl (evV_cons (e := .int 1) rfl evV_nil) rfl) rfl)
        exact .inr ⟨_, _, st.length + 1 - (k + 1), by rw [ht, decide_eq_true hk], (evSs_nx hl8).trans ((evSs_nx e6).trans rfl), by omega, k + 1, _, y7, .step hR hka, rfl, rfl⟩
      · exact .inl ⟨_, by rw [ht, decide_eq_false hk], k, line, x7, hR, by omega, rfl⟩)
  obtain ⟨ρ2, s3, k, line, x7, hR, hk, hρ2⟩ := s3
  subst hρ2
  have hin := hR.sub (· < st.length) hst hsc
  have hll := hsmall hR.nodup hin
  refine ⟨P, line, k, hP, hR, hk, ?_⟩
  have s4 : evS G0 (.asg (.nm 8) (.lst [])) ⟨lsS s st P line k x5 x6 x7 none, sr⟩ = some (.nx, ⟨lsS s st P line k x5 x6 x7 (some (.list [])), sr⟩) := rfl
  have s5 := evS_for (Γ := G0) (hd := [4, 8]) (ex := [4, 8]) (t := .nm 6) (it := .var 3) (b := [.app 8 (.bi .tuple [.comp [7] (.nm 7) (.idx [.bv 1, .bv 6]) [] (.ite (.cmp .isNot [.bv 7, .non]) (.bi .index [.bv 3, .idx [.bv 2, .bv 7]]) (.non))])])
    (ρ := ⟨lsS s st P line k x5 x6 x7 (some (.list [])), sr⟩) (fun n : Nat => PyData.int n) line (d := encFL line) (ρ1 := ⟨lsS s st P line k x5 x6 x7 (some (.list [])), sr⟩) rfl rfl
    (fun done ρ => ∃ x6, ρ = ⟨lsS s st P line k x5 x6 x7 (some (.list (done.map fun a => encL ((st.getD a []).map (Option.map fun j => idx line (lb P j)))))), sr⟩) ⟨x6, rfl⟩
    (fun done a rest ρ e ⟨y6, hρ⟩ => by
      subst hρ
      have ha : a ∈ line := by rw [e]; simp
      have ha' := hin a ha
      refine ⟨lsS s st P line k x5 (some (.int a)) x7 (some (.list (done.map fun a => encL ((st.getD a []).map (Option.map fun j => idx line (lb P j)))))), _, rfl, ?_, some (.int a), rfl⟩
      have hc := evE_compA (Γ := G0) (s := sr) (own := [7]) (t := .nm 7) (it := .idx [.bv 1, .bv 6]) (elt := .ite (.cmp .isNot [.bv 7, .non]) (.bi .index [.bv 3, .idx [.bv 2, .bv 7]]) (.non)) (sl0 := lsS s st P line k x5 (some (.int a)) x7 (some (.list (done.map fun a => encL ((st.getD a []).map (Option.map fun j => idx line (lb P j))))))) (sl := lsS s st P line k x5 (some (.int a)) none (some (.list (done.map fun a => encL ((st.getD a []).map (Option.map fun j => idx line (lb P j)))))))
        (d := encLL (st.getD a [])) encO (fun o => encO (o.map fun j => idx line (lb P j))) (st.getD a []) (evE_idx (evV_bv (d := encSL st) rfl (evV_bv (d := .int a) rfl evV_nil rfl) rfl) (atD_SL ha')) rfl rfl (fun o ho => by
          refine ⟨lsS s st P line k x5 (some (.int a)) (some (encO o)) (some (.list (done.map fun a => encL ((st.getD a []).map (Option.map fun j => idx line (lb P j)))))), rfl, ?_, rfl⟩
          cases o with
          | none =>
            have := evE_cmp (Γ := G0) (ρ := ⟨lsS s st P line k x5 (some (.int a)) (some (encO none)) (some (.list (done.map fun a => encL ((st.getD a []).map (Option.map fun j => idx line (lb P j)))))), sr⟩) (o := .isNot) (es := [.bv 7, .non]) (x := .none) (y := .none) (b := false) (evV_bv rfl (evV_cons rfl evV_nil) rfl) rfl
            exact evE_iteF this
          | some j =>
            have hj := W.ok _ (getD_mem ha') j ho
            have hb := atD_FL (f := P) (i := j) (by rw [hP.len]; exact hj)
            have hjm : lb P j ∈ line := hR.all hk ha _ (List.mem_map_of_mem (mem_somes.mpr ho))
            have := evE_cmp (Γ := G0) (ρ := ⟨lsS s st P line k x5 (some (.int a)) (some (encO (some j))) (some (.list (done.map fun a => encL ((st.getD a []).map (Option.map fun j => idx line (lb P j)))))), sr⟩) (o := .isNot) (es := [.bv 7, .non]) (x := .int j) (y := .none) (b := true) (evV_bv rfl (evV_cons rfl evV_nil) rfl) rfl
            refine (evE_iteT this).trans ?_
            exact evE_indexN hjm (evV_bv (d := encFL line) rfl (evV_cons (evE_idx (evV_bv (d := encFL P) rfl (evV_bv (d := .int j) rfl evV_nil rfl) rfl) hb) evV_nil) rfl)) (lim1000 (W.hd _ (getD_mem ha'))) rfl
      rw [evSs_one]
      refine (evS_app (i := 8) (d0 := .list (done.map fun a => encL ((st.getD a []).map (Option.map fun j => idx line (lb P j))))) (xs := done.map fun a => encL ((st.getD a []).map (Option.map fun j => idx line (lb P j)))) rfl rfl (evE_bi1 hc (z := encL ((st.getD a []).map (Option.map fun j => idx line (lb P j)))) (by simp [biD, tupleB, encL])) rfl ?_).trans ?_
      · have := congrArg List.length e
        have := W.n1
        simp at *; unfold lim; omega
      · simp [lsS])
  obtain ⟨ρ3, s5, y6, hρ3⟩ := s5
  subst hρ3
  have hA := evE_compA (Γ := G0) (s := sr) (own := [5, 6]) (t := .tup [.nm 5, .nm 6]) (it := .bv 0) (elt := .tup [.var 5, .bi .index [.bv 3, .idx [.bv 2, .bv 6]]]) (sl0 := lsS s st P line k x5 y6 x7 (some (.list (line.map fun a => encL ((st.getD a []).map (Option.map fun j => idx line (lb P j))))))) (sl := lsS s st P line k none none x7 (some (.list (line.map fun a => encL ((st.getD a []).map (Option.map fun j => idx line (lb P j)))))))
    (d := encAL s) encP (fun p => encP (p.1, idx line (lb P p.2))) s rfl rfl rfl (fun p hp => by
      refine ⟨lsS s st P line k (some (pairD p.1)) (some (.int p.2)) x7 (some (.list (line.map fun a => encL ((st.getD a []).map (Option.map fun j => idx line (lb P j)))))), rfl, ?_, rfl⟩
      have hb := atD_FL (f := P) (i := p.2) (by rw [hP.len]; exact W.hs p hp)
      have hm : lb P p.2 ∈ line := hR.start _ (List.mem_map_of_mem (f := fun p => lb P p.2) hp)
      exact evE_tup (evV_cons (e := .var 5) (d := pairD p.1) rfl (evV_cons (evE_indexN hm (evV_bv (d := encFL line) rfl (evV_cons (evE_idx (evV_bv (d := encFL P) rfl (evV_bv (d := .int p.2) rfl evV_nil rfl) rfl) hb) evV_nil) rfl)) evV_nil))) (lim1000 W.n3) rfl
  have s6 := evS_ret (evE_tup (evV_cons (evE_bi1 (f := .tuple) hA (z := encA (leastOf s st P line).1) (by simp [biD, tupleB, encA, leastOf, List.map_map])) (evV_cons (evE_bi1' (f := .tuple) (i := 8) (z := encS (leastOf s st P line).2) rfl (by simp [biD, tupleB, encS, leastOf, List.map_map])) evV_nil)))
  exact runFn_of _ rfl ((evSs_nx s1).trans ((evSs_nx s2).trans ((evSs_nx s3).trans ((evSs_nx s4).trans ((evSs_nx s5).trans (evSs_rt s6)))))) rfl
end
end K48
set_option linter.all false
set_option Elab.async false
set_option maxRecDepth 100000
set_option maxHeartbeats 1000000
/-! K48n: the law's least form is least: its states are parted one by one, and come to as they are numbered. -/
namespace K48
open PySem Ev
theorem al_of_map {R : Nat → Nat → Prop} {u : Nat → Nat} : ∀ {l m : Line}, (∀ x y, some x ∈ l → some y ∈ m → u x = u y → R x y) → l.map (Option.map u) = m.map (Option.map u) → Al R l m
  | [], [], _, _ => .nil
  | [], _ :: _, _, e => by simp at e
  | _ :: _, [], _, e => by simp at e
  | none :: l, none :: m, h, e => by
    simp at e
    exact .nn (al_of_map (fun x y hx hy => h x y (by simp [hx]) (by simp [hy])) e)
  | some x :: l, none :: m, h, e => by simp at e
  | none :: l, some y :: m, h, e => by simp at e
  | some x :: l, some y :: m, h, e => by
    simp at e
    exact .ss (h x y (by simp) (by simp) e.1) (al_of_map (fun x y hx hy => h x y (by simp [hx]) (by simp [hy])) e.2)
theorem lb_mem {f : List Nat} {i : Nat} (h : i < f.length) : lb f i ∈ f := by
  unfold lb
  rw [List.getD_eq_getElem?_getD, List.getElem?_eq_getElem h]
  exact List.getElem_mem _
theorem lb_idx {f : List Nat} {x : Nat} (h : x ∈ f) : lb f (idx f x) = x := by
  unfold lb
  rw [List.getD_eq_getElem?_getD, List.getElem?_eq_getElem (idx_lt h)]
  exact idx_get h
theorem idx_lb {f : List Nat} {i : Nat} (nd : f.Nodup) (h : i < f.length) : idx f (lb f i) = i := by
  unfold lb
  rw [List.getD_eq_getElem?_getD, List.getElem?_eq_getElem h]
  exact idx_nodup h nd
theorem lb_range {n i : Nat} (h : i < n) : lb (List.range n) i = i := by
  unfold lb; simp [List.getD, h]
section
variable {s : List ((Int × Int) × Nat)} {st : Steps} {P line : List Nat} {k : Nat}
theorem parts_idem (hP : Parts st P) {x : Nat} (hx : x < st.length) : lb P (lb P x) = lb P x := by
  have hlt := parts_lt hP hx
  obtain ⟨g, e⟩ := hP.idx
  have h1 : ∀ y, y < st.length → lb P y = idx (keysOf st g) (keyAt st g y) := fun y hy => by
    rw [e, lb_map hy]
  rw [h1 _ hlt, h1 x hx]
  congr 1
  have hm : keyAt st g x ∈ keysOf st g := List.mem_map_of_mem (List.mem_range.mpr hx)
  have h3 : (keysOf st g)[idx (keysOf st g) (keyAt st g x)]'(idx_lt hm) = keyAt st g (idx (keysOf st g) (keyAt st g x)) := by
    simp only [keysOf, List.getElem_map, List.getElem_range]
  exact h3.symm.trans (idx_get hm)
structure LW (s : List ((Int × Int) × Nat)) (st : Steps) (P line : List Nat) (k : Nat) : Prop where
  W : WfB s st
  prt : Parts st P
  R : Run (sucP st P) (s.map fun p => lb P p.2) k line
  fin : line.length ≤ k
theorem LW.lt (L : LW s st P line k) : ∀ x ∈ line, x < st.length := L.R.sub (· < st.length) (fun x hx => by
    obtain ⟨q, hq, rfl⟩ := List.mem_map.mp hx
    exact parts_lt L.prt (L.W.hs q hq)) fun a ha x hx => by
    obtain ⟨y, hy, rfl⟩ := List.mem_map.mp hx
    exact parts_lt L.prt (L.W.ok _ (getD_mem ha) y (mem_somes.mp hy))
theorem LW.rep (L : LW s st P line k) : ∀ x ∈ line, lb P x = x := fun x hx => by
  have := L.R.sub (fun x => x < st.length ∧ lb P x = x) (fun x hx => by
    obtain ⟨q, hq, rfl⟩ := List.mem_map.mp hx
    exact ⟨parts_lt L.prt (L.W.hs q hq), parts_idem L.prt (L.W.hs q hq)⟩) (fun a ha x hx => by
    obtain ⟨y, hy, rfl⟩ := List.mem_map.mp hx
    have := L.W.ok _ (getD_mem ha.1) y (mem_somes.mp hy)
    exact ⟨parts_lt L.prt this, parts_idem L.prt this⟩) x hx
  exact this.2
theorem LW.len (L : LW s st P line k) : line.length ≤ st.length := by
  have := length_le_of_subset (xs := line) (ys := List.range st.length) L.R.nodup fun x hx' => List.mem_range.mpr (L.lt x hx')
  simpa using this
theorem LW.vlen (L : LW s st P line k) : (leastOf s st P line).2.length = line.length := by simp [leastOf]
theorem LW.vget (L : LW s st P line k) {i : Nat} (h : i < line.length) : (leastOf s st P line).2.getD i [] = (st.getD (lb line i) []).map (Option.map fun j => idx line (lb P j)) := by
  simp [leastOf, List.getD, h, lb]
theorem LW.wf (L : LW s st P line k) (h0 : s ≠ []) : WfB (leastOf s st P line).1 (leastOf s st P line).2 := by
  have hs1 : ∀ p ∈ s, lb P p.2 ∈ line := fun p hp => L.R.start _ (List.mem_map_of_mem (f := fun p => lb P p.2) hp)
  refine ⟨fun l hl j hj => ?_, fun l hl => ?_, fun p hp => ?_, ?_, ?_, by simpa [leastOf] using L.W.n3⟩
  · rw [L.vlen]
    obtain ⟨a, ha, rfl⟩ := List.mem_map.mp hl
    obtain ⟨o, ho, e⟩ := List.mem_map.mp hj
    cases o with
    | none => simp at e
    | some y =>
      simp at e
      rw [← e]
      exact idx_lt (L.R.all L.fin ha _ (List.mem_map_of_mem (mem_somes.mpr ho)))
  · obtain ⟨a, ha, rfl⟩ := List.mem_map.mp hl
    simpa using L.W.hd _ (getD_mem (L.lt a ha))
  · rw [L.vlen]
    obtain ⟨q, hq, rfl⟩ := List.mem_map.mp hp
    exact idx_lt (hs1 q hq)
  · rw [L.vlen]; exact Nat.le_trans L.len L.W.n1
  · rw [L.vlen]
    cases s with
    | nil => exact absurd rfl h0
    | cons p s => exact List.length_pos_of_mem (hs1 p (by simp))
/-- a line read by the least form -/
theorem LW.read (L : LW s st P line k) {a i : Nat} (ha : a < st.length) (hi : i < line.length) (e : lb P a = lb line i) : (leastOf s st P line).2.getD i [] = (st.getD a []).map (Option.map fun j => idx line (lb P j)) := by
  rw [L.vget hi]
  have hm := lb_mem hi
  have := L.prt.stable a (lb line i) ha (L.lt _ hm) (by rw [e, L.rep _ hm])
  have h2 : ∀ l : Line, l.map (Option.map fun j => idx line (lb P j)) = (l.map (Option.map (lb P))).map (Option.map (idx line)) := fun l => by
    rw [List.map_map]; congr 1; funext o; cases o <;> rfl
  rw [h2, h2, this]
theorem LW.inj (L : LW s st P line k) {f : List Nat} (hB : Blocks (leastOf s st P line).2 f) {i j : Nat} (hi : i < line.length) (hj : j < line.length) (e : lb f i = lb f j) : i = j := by
  have cl : ∀ a i, a < st.length → i < line.length → lb P a = lb line i → ∀ x, some x ∈ st.getD a [] → lb P x ∈ line := fun a i ha hi e x hx => by
    have hm := lb_mem hi
    have := L.prt.stable a (lb line i) ha (L.lt _ hm) (by rw [e, L.rep _ hm])
    have h1 : some (lb P x) ∈ (st.getD a []).map (Option.map (lb P)) := List.mem_map.mpr ⟨some x, hx, rfl⟩
    rw [this] at h1
    obtain ⟨o, ho, e2⟩ := List.mem_map.mp h1
    cases o with
    | none => simp at e2
    | some y =>
      simp at e2
      rw [← e2]
      exact L.R.all L.fin hm _ (List.mem_map_of_mem (mem_somes.mpr ho))
  have := L.prt.coarse (fun a b => ∃ i j, i < line.length ∧ j < line.length ∧ lb P a = lb line i ∧ lb P b = lb line j ∧ lb f i = lb f j) (fun a b ha hb ⟨i, j, hi, hj, ea, eb, ef⟩ => by
    have hs := hB.stable i j (by rw [L.vlen]; exact hi) (by rw [L.vlen]; exact hj) ef
    rw [L.read ha hi ea, L.read hb hj eb, List.map_map, List.map_map] at hs
    refine al_of_map (u := fun x => lb f (idx line (lb P x))) (fun x y hx hy exy => ?_) ?_
    · have hx' := cl a i ha hi ea x hx
      have hy' := cl b j hb hj eb y hy
      exact ⟨idx line (lb P x), idx line (lb P y), idx_lt hx', idx_lt hy', (lb_idx hx').symm, (lb_idx hy').symm, exy⟩
    · have h2 : (Option.map (lb f) ∘ Option.map fun j => idx line (lb P j)) = Option.map fun x => lb f (idx line (lb P x)) := by
        funext o; cases o <;> rfl
      rw [h2] at hs
      exact hs) (lb line i) (lb line j) (L.lt _ (lb_mem hi)) (L.lt _ (lb_mem hj)) ⟨i, j, hi, hj, L.rep _ (lb_mem hi), L.rep _ (lb_mem hj), e⟩
  rw [L.rep _ (lb_mem hi), L.rep _ (lb_mem hj)] at this
  exact (idx_lb L.R.nodup hi).symm.trans ((congrArg (idx line) this).trans (idx_lb L.R.nodup hj))
theorem LW.blocks (L : LW s st P line k) {f : List Nat} (hB : Blocks (leastOf s st P line).2 f) : f = List.range line.length := by
  obtain ⟨g, e⟩ := hB.num
  have hl : f.length = line.length := by rw [hB.len, L.vlen]
  have hnd : (keysOf (leastOf s st P line).2 g).Nodup := by
    rw [List.nodup_iff_pairwise_ne, List.pairwise_iff_getElem]
    intro i j hi hj hij ek
    rw [keysOf_len, L.vlen] at hi hj
    have : lb f i = lb f j := by
      rw [e, numer_eq, lb_map (by rw [L.vlen]; exact hi), lb_map (by rw [L.vlen]; exact hj)]
      have a1 : ∀ m (hm : m < (leastOf s st P line).2.length), (keysOf (leastOf s st P line).2 g)[m]'(by rw [keysOf_len]; exact hm) = keyAt (leastOf s st P line).2 g m := by intro m hm; simp [keysOf]
      rw [a1 i (by rw [L.vlen]; exact hi), a1 j (by rw [L.vlen]; exact hj)] at ek
      rw [ek]
    have := L.inj hB hi hj this
    omega
  apply List.ext_getElem
  · rw [hl]; simp
  · intro i h1 h2
    have hi : i < (keysOf (leastOf s st P line).2 g).length := by rw [keysOf_len, L.vlen]; omega
    simp only [List.getElem_range]
    have : f[i] = lb f i := by simp [lb, List.getD, h1]
    rw [this, e, numer_eq, lb_map (by rw [L.vlen]; omega)]
    show idx (dd (keysOf (leastOf s st P line).2 g)) (keyAt (leastOf s st P line).2 g i) = i
    rw [dd_nodup hnd]
    have a1 : (keysOf (leastOf s st P line).2 g)[i] = keyAt (leastOf s st P line).2 g i := by simp [keysOf]
    rw [← a1]
    exact idx_nodup hi hnd
theorem LW.heads (L : LW s st P line k) (h0 : s ≠ []) {heads : List Nat} {k' : Nat} (hR : RunB (lb (List.range line.length)) (succS (leastOf s st P line).2) ((leastOf s st P line).1.map (·.2)) k' heads) (hk : heads.length ≤ k') : heads = List.range line.length := by
  have W' := L.wf h0
  have hs : ∀ x ∈ (leastOf s st P line).1.map (·.2), x < line.length := fun x hx => by
    obtain ⟨q, hq, rfl⟩ := List.mem_map.mp hx
    have := W'.hs q hq
    rwa [L.vlen] at this
  have hsc : ∀ a, a < line.length → ∀ x ∈ succS (leastOf s st P line).2 a, x < line.length := fun a ha x hx => by
    have := W'.ok _ (getD_mem (by rw [L.vlen]; exact ha)) x (mem_somes.mp hx)
    rwa [L.vlen] at this
  have R1 := hR.run (n := line.length) (fun x y hx hy e => by rwa [lb_range hx, lb_range hy] at e) hs hsc
  have hin := R1.sub (· < line.length) hs hsc
  have hφ : ∀ x y, x < line.length → y < line.length → lb line x = lb line y → x = y := fun x y hx hy e => by
    exact (idx_lb L.R.nodup hx).symm.trans ((congrArg (idx line) e).trans (idx_lb L.R.nodup hy))
  have R2 := R1.map (sc' := sucP st P) (s' := s.map fun p => lb P p.2) (φ := lb line) hφ hs hsc (by
      simp only [leastOf, List.map_map]
      refine List.map_congr_left fun p hp => ?_
      exact (lb_idx (L.R.start _ (List.mem_map_of_mem (f := fun p => lb P p.2) hp))).symm) (fun a ha => by
      unfold sucP succS
      rw [L.vget ha]
      have hm := lb_mem ha
      have hall : ∀ o ∈ st.getD (lb line a) [], ∀ j, o = some j → lb P j ∈ line := fun o ho j e => by
        subst e
        exact L.R.all L.fin hm _ (List.mem_map_of_mem (mem_somes.mpr ho))
      generalize st.getD (lb line a) [] = l at hall
      unfold somes
      induction l with
      | nil => rfl
      | cons o l ih =>
        have ih := ih fun o ho => hall o (by simp [ho])
        cases o with
        | none => simpa using ih
        | some j =>
          simp only [List.map_cons, Option.map_some, List.filterMap_cons, id] at ih ⊢
          rw [ih, lb_idx (hall (some j) (by simp) j rfl)])
  have e := R2.fin L.R (by rw [List.length_map]; exact hk) L.fin
  have hl : heads.length = line.length := by rw [← e, List.length_map]
  apply List.ext_getElem
  · rw [hl]; simp
  · intro i h1 h2
    simp only [List.getElem_range]
    have h3 : (heads.map (lb line))[i]'(by rw [List.length_map]; exact h1) = line[i]'(by omega) := by simp only [e]
    rw [List.getElem_map] at h3
    have h4 : line[i]'(by omega) = lb line i := by
      have : i < line.length := by omega
      simp [lb, List.getD, this]
    rw [h4] at h3
    exact hφ _ _ (hin _ (List.getElem_mem h1)) (by omega) h3
end
end K48
set_option linter.all false
set_option Elab.async false
set_option maxRecDepth 100000
set_option maxHeartbeats 1000000
/-! K48o: forms of complete figures, told by the program. -/
namespace K48
open PySem Ev
section
variable {Γ : Calls} {sr : Src} {s : List ((Int × Int) × Nat)} {st : Steps} {d : Nat}
theorem ev_whole {i : Int} : runFn Γ Fis_whole [.int i] sr = some (.bool true, sr) := rfl
theorem c_whole0 {i : Int} {z : Src} : G0 "is_whole" [.int i] z = some (.bool true, z) := by
  rw [show G0 "is_whole" = runFn noC Fis_whole by simp [G0]]
  exact ev_whole
theorem c_whole1 {i : Int} {z : Src} : G1 "is_whole" [.int i] z = some (.bool true, z) := by
  rw [show G1 "is_whole" = runFn noC Fis_whole by simp [G1, G0]]
  exact ev_whole
theorem ev_lot {p : Int × Int} : runFn G0 Fis_lot [pairD p] sr = some (.bool true, sr) := by
  have hall : evE G0 (.bi .all [.comp [1] (.nm 1) (.bv 0) [] (.call "is_whole" none [.var 1])]) ⟨[some (pairD p), none], sr⟩ = some (.bool true, ⟨[some (pairD p), none], sr⟩) := by
    have := evE_compA (Γ := G0) (s := sr) (own := [1]) (t := .nm 1) (it := .bv 0) (elt := .call "is_whole" none [.var 1]) (sl0 := [some (pairD p), none]) (sl := [some (pairD p), none]) (d := pairD p) (fun i : Int => PyData.int i) (fun _ => .bool true) [p.1, p.2] rfl rfl rfl (fun i hi => by
      refine ⟨[some (pairD p), some (.int i)], rfl, ?_, rfl⟩
      exact evE_call (evV_cons (e := .var 1) (d := .int i) rfl evV_nil) c_whole0) (by unfold lim; simp) rfl
    exact evE_bi1 this rfl
  exact runFn_of _ rfl (evSs_rt (evS_ret (evE_and.trans ((evAnd_T (evE_bi1' (f := .isTuple) (d := pairD p) rfl rfl)).trans ((evAnd_T (evE_cmp (evV_cons (evE_bi1' (f := .len) (d := pairD p) (z := .int 2) rfl rfl) (evV_cons (e := .int 2) rfl evV_nil)) rfl)).trans (evAnd_1 hall)))))) rfl
theorem c_lot {p : Int × Int} {z : Src} : G1 "is_lot" [pairD p] z = some (.bool true, z) := by
  rw [show G1 "is_lot" = runFn G0 Fis_lot by simp [G1]]
  exact ev_lot
theorem pairD_eqv (a b : Int × Int) : PyData.eqv (pairD a) (pairD b) = decide (a = b) := by
  obtain ⟨a1, a2⟩ := a
  obtain ⟨b1, b2⟩ := b
  unfold pairD
  rw [eqv_tup, eqvAll_cons, eqvAll_cons, eqv_int, eqv_int]
  by_cases h1 : a1 = b1 <;> by_cases h2 : a2 = b2 <;> simp [h1, h2, PyData.eqvAll]
theorem pairD_enc : KEnc pairD := ⟨pairD_eqv, .inr fun _ => rfl⟩
theorem pairD_sh (p : Int × Int) : Sh 1 (pairD p) := Sh.tup fun x hx => by
  simp at hx
  rcases hx with rfl | rfl <;> exact Sh.int
/-! ### order of lots -/
theorem leP_total (a b : Int × Int) : leP a b = true ∨ leP b a = true := by
  unfold leP
  rcases Int.lt_trichotomy a.1 b.1 with h | h | h
  · left; simp [h]
  · rcases Int.le_total a.2 b.2 with h2 | h2
    · left; simp [h, h2]
    · right; simp [h, h2]
  · right; simp [h]
theorem leP_trans {a b c : Int × Int} (h1 : leP a b = true) (h2 : leP b c = true) : leP a c = true := by
  unfold leP at *
  simp only [Bool.or_eq_true, Bool.and_eq_true, decide_eq_true_eq, beq_iff_eq] at *
  omega
theorem leP_antisymm {a b : Int × Int} (h1 : leP a b = true) (h2 : leP b a = true) : a = b := by
  unfold leP at *
  simp only [Bool.or_eq_true, Bool.and_eq_true, decide_eq_true_eq, beq_iff_eq] at *
  apply Prod.ext <;> omega
def SortedP (l : List (Int × Int)) : Prop := l.Pairwise fun a b => leP a b = true
theorem mem_insP {x y : Int × Int} : ∀ {l : List (Int × Int)}, y ∈ insP x l ↔ y = x ∨ y ∈ l
  | [] => by simp [insP]
  | z :: l => by
    unfold insP
    split
    · simp
    · simp only [List.mem_cons, mem_insP]
      constructor
      · rintro (h | h | h) <;> simp [h]
      · rintro (h | h | h) <;> simp [h]
theorem insP_sorted {x : Int × Int} : ∀ {l : List (Int × Int)}, SortedP l → SortedP (insP x l)
  | [], _ => by simp [insP, SortedP]
  | z :: l, h => by
    unfold SortedP at h
    rw [List.pairwise_cons] at h
    unfold insP
    split
    · rename_i hx
      unfold SortedP
      rw [List.pairwise_cons, List.pairwise_cons]
      refine ⟨fun y hy => ?_, h⟩
      rcases List.mem_cons.mp hy with rfl | hy
      · exact hx
      · exact leP_trans hx (h.1 y hy)
    · rename_i hx
      unfold SortedP
      rw [List.pairwise_cons]
      refine ⟨fun y hy => ?_, insP_sorted h.2⟩
      rcases mem_insP.mp hy with rfl | hy
      · exact (leP_total _ _).resolve_left hx
      · exact h.1 y hy
theorem sortP_sorted : ∀ (l : List (Int × Int)), SortedP (sortP l)
  | [] => .nil
  | x :: l => insP_sorted (sortP_sorted l)
theorem insP_len {x : Int × Int} : ∀ {l : List (Int × Int)}, (insP x l).length = l.length + 1
  | [] => rfl
  | z :: l => by
    unfold insP
    split <;> simp [insP_len]
theorem sortP_len : ∀ (l : List (Int × Int)), (sortP l).length = l.length
  | [] => rfl
  | x :: l => by rw [sortP, insP_len, sortP_len]; rfl
theorem mem_sortP {y : Int × Int} : ∀ {l : List (Int × Int)}, y ∈ sortP l ↔ y ∈ l
  | [] => by simp [sortP]
  | x :: l => by rw [sortP, mem_insP, mem_sortP]; simp
theorem insP_nodup {x : Int × Int} : ∀ {l : List (Int × Int)}, x ∉ l → l.Nodup → (insP x l).Nodup
  | [], _, _ => by simp [insP]
  | z :: l, hx, h => by
    unfold insP
    split
    · exact List.nodup_cons.mpr ⟨hx, h⟩
    · rw [List.nodup_cons] at h ⊢
      simp only [List.mem_cons, not_or] at hx
      refine ⟨fun hz => ?_, insP_nodup hx.2 h.2⟩
      rcases mem_insP.mp hz with e | hz
      · exact hx.1 e.symm
      · exact h.1 hz
theorem sortP_nodup : ∀ {l : List (Int × Int)}, l.Nodup → (sortP l).Nodup
  | [], _ => List.nodup_nil
  | x :: l, h => by
    rw [List.nodup_cons] at h
    exact insP_nodup (fun z => h.1 (mem_sortP.mp z)) (sortP_nodup h.2)
theorem insP_front {x : Int × Int} {l : List (Int × Int)} (h : ∀ y ∈ l, leP x y = true) : insP x l = x :: l := by
  cases l with
  | nil => rfl
  | cons y l => unfold insP; rw [if_pos (h y (by simp))]
theorem sortP_id : ∀ {l : List (Int × Int)}, SortedP l → sortP l = l
  | [], _ => rfl
  | x :: l, h => by
    unfold SortedP at h
    rw [List.pairwise_cons] at h
    rw [sortP, sortP_id h.2, insP_front h.1]
theorem lotKeys_map : ∀ (l : List (Int × Int)), lotKeys (l.map pairD) = some l
  | [] => rfl
  | x :: l => by
    rw [List.map_cons]
    show lotKeys (.tuple [.int x.1, .int x.2] :: l.map pairD) = _
    rw [lotKeys, lotKeys_map]; rfl
theorem sortD_lots (l : List (Int × Int)) : sortD (l.map pairD) = some ((sortP l).map pairD) := by
  cases l with
  | nil => rfl
  | cons x l =>
    unfold sortD
    have : isInts ((x :: l).map pairD) = none := rfl
    rw [this, lotKeys_map]
/-- lots sorted, each once -/
theorem lots_again {l : List (Int × Int)} (h : SortedP l) (nd : l.Nodup) : sortP (dd l) = l := by rw [dd_nodup nd, sortP_id h]
/-! ### are_starts -/
def stS (m : Nat) (V : D) (x2 x3 : Option D) : Slots := [some (.int m), some V, x2, x3, none]
theorem starts_body {m : Nat} {V : D} {x3 : Option D} {p : (Int × Int) × Nat} : evSs G1 [.ite (.or [.not (.bi .isTuple [.bv 2]), .cmp .ne [.bi .len [.bv 2], .int 2], .not (.call "is_lot" none [.idx [.bv 2, .int 0]])]) [.ret (.bl false)] [],
    .ite (.or [.not (.call "is_whole" none [.idx [.bv 2, .int 1]]), .not (.chain .le .lt [.int 0, .idx [.bv 2, .int 1]] (.var 0))]) [.ret (.bl false)] []] ⟨stS m V (some (encP p)) x3, sr⟩ = some (if p.2 < m then .nx else .rt (.bool false), ⟨stS m V (some (encP p)) x3, sr⟩) := by
  have i0 : evE G1 (.idx [.bv 2, .int 0]) ⟨stS m V (some (encP p)) x3, sr⟩ = some (pairD p.1, ⟨stS m V (some (encP p)) x3, sr⟩) := evE_idx (evV_bv (d := encP p) rfl (evV_cons (e := .int 0) rfl evV_nil) rfl) rfl
  have i1 : evE G1 (.idx [.bv 2, .int 1]) ⟨stS m V (some (encP p)) x3, sr⟩ = some (.int p.2, ⟨stS m V (some (encP p)) x3, sr⟩) := evE_idx (evV_bv (d := encP p) rfl (evV_cons (e := .int 1) rfl evV_nil) rfl) rfl
  have t1 : evE G1 (.or [.not (.bi .isTuple [.bv 2]), .cmp .ne [.bi .len [.bv 2], .int 2], .not (.call "is_lot" none [.idx [.bv 2, .int 0]])]) ⟨stS m V (some (encP p)) x3, sr⟩ = some (.bool false, ⟨stS m V (some (encP p)) x3, sr⟩) :=
    evE_or.trans ((evOr_F (evE_not (b := true) (evE_bi1' (f := .isTuple) (d := encP p) rfl rfl))).trans ((evOr_F (evE_cmp (b := false) (evV_cons (evE_bi1' (f := .len) (d := encP p) (z := .int 2) rfl rfl) (evV_cons (e := .int 2) rfl evV_nil)) rfl)).trans (evOr_1 (evE_not (b := true) (evE_call (evV_cons i0 evV_nil) c_lot)))))
  have t2 : evE G1 (.or [.not (.call "is_whole" none [.idx [.bv 2, .int 1]]), .not (.chain .le .lt [.int 0, .idx [.bv 2, .int 1]] (.var 0))]) ⟨stS m V (some (encP p)) x3, sr⟩ = some (.bool (!(decide (p.2 < m))), ⟨stS m V (some (encP p)) x3, sr⟩) := by
    refine evE_or.trans ((evOr_F (evE_not (b := true) (evE_call (evV_cons i1 evV_nil) c_whole1))).trans (evOr_1 (evE_not ?_)))
    have := evE_chain (Γ := G1) (o := .le) (o' := .lt) (es := [.int 0, .idx [.bv 2, .int 1]]) (c := .var 0) (ρ := ⟨stS m V (some (encP p)) x3, sr⟩) (x := .int 0) (y := .int p.2) (z := .int m) (b := true) (b' := decide (p.2 < m)) (evV_cons (e := .int 0) rfl (evV_cons i1 evV_nil)) (by simp [cmpD, leD]) rfl (by simp [cmpD, ltD]) rfl
    simpa using this
  rw [evSs_nx (evS_iteF t1), evSs_one]
  by_cases h : p.2 < m
  · rw [decide_eq_true h] at t2
    rw [if_pos h, evS_iteF t2]
    rfl
  · rw [decide_eq_false h] at t2
    rw [if_neg h, evS_iteT t2]
    rfl
theorem ev_starts_ok {m : Nat} (hs : ∀ p ∈ s, p.2 < m) (hn : s.length ≤ 1000) : runFn G1 Fare_starts [.int m, encA s] sr = some (.bool (decide (s.map (·.1) = sortP (dd (s.map (·.1))))), sr) := by
  have s1 : evS G1 (.ite (.not (.bi .isTuple [.bv 1])) [.ret (.bl false)] []) ⟨stS m (encA s) none none, sr⟩ = some (.nx, ⟨stS m (encA s) none none, sr⟩) := evS_iteF (evE_not (b := true) (evE_bi1' (f := .isTuple) (d := encA s) rfl rfl))
  have s2 := evS_for (Γ := G1) (hd := []) (ex := []) (t := .nm 2) (it := .var 1) (b := [.ite (.or [.not (.bi .isTuple [.bv 2]), .cmp .ne [.bi .len [.bv 2], .int 2], .not (.call "is_lot" none [.idx [.bv 2, .int 0]])]) [.ret (.bl false)] [],
    .ite (.or [.not (.call "is_whole" none [.idx [.bv 2, .int 1]]), .not (.chain .le .lt [.int 0, .idx [.bv 2, .int 1]] (.var 0))]) [.ret (.bl false)] []]) (ρ := ⟨stS m (encA s) none none, sr⟩) encP s (d := encA s) (ρ1 := ⟨stS m (encA s) none none, sr⟩) rfl rfl
    (fun done ρ => ∃ x2, ρ = ⟨stS m (encA s) x2 none, sr⟩) ⟨none, rfl⟩ (fun done p rest ρ e ⟨x2, hρ⟩ => by
      subst hρ
      refine ⟨stS m (encA s) (some (encP p)) none, _, rfl, ?_, some (encP p), rfl⟩
      have := starts_body (sr := sr) (m := m) (V := encA s) (x3 := none) (p := p)
      rw [if_pos (hs p (by rw [e]; simp))] at this
      exact this)
  obtain ⟨ρ1, s2, x2, hρ1⟩ := s2
  subst hρ1
  have s3 := evS_asg1 (i := 3) (evE_compA (Γ := G1) (s := sr) (own := [2]) (t := .nm 2) (it := .bv 1) (elt := .idx [.bv 2, .int 0]) (sl0 := stS m (encA s) x2 none) (sl := stS m (encA s) none none) (d := encA s) encP (fun p => pairD p.1) s rfl rfl rfl (fun p hp =>
    ⟨stS m (encA s) (some (encP p)) none, rfl, evE_idx (evV_bv (d := encP p) rfl (evV_cons (e := .int 0) rfl evV_nil) rfl) rfl, rfl⟩) (lim1000 hn) rfl)
  have hd1 := evE_compA (Γ := G1) (s := sr) (own := [4]) (t := .nm 4) (it := .bv 3) (elt := .tup [.var 4, .bl true]) (sl0 := stS m (encA s) x2 (some (.list (s.map fun p => pairD p.1)))) (sl := stS m (encA s) x2 (some (.list (s.map fun p => pairD p.1)))) (d := .list (s.map fun p => pairD p.1)) (fun p : (Int × Int) × Nat => pairD p.1) (fun p => PyData.tuple [pairD p.1, .bool true]) s rfl rfl rfl (fun p hp =>
    ⟨[some (.int m), some (encA s), x2, some (.list (s.map fun p => pairD p.1)), some (pairD p.1)], rfl, evE_tup (evV_cons (e := .var 4) (d := pairD p.1) rfl (evV_cons (e := .bl true) rfl evV_nil)), rfl⟩) (lim1000 hn) rfl
  have hdict := dictB_const pairD_enc (.bool true) (s.map (·.1))
  rw [List.map_map] at hdict
  have hs1 : itemsD (.dict (dmap pairD ((dd (s.map (·.1))).map fun x => (x, PyData.bool true)))) = some ((dd (s.map (·.1))).map pairD) := by
    simp [itemsD, dmap, List.map_map]
  have hd2 := evE_bi1 (f := .sorted) (evE_bi1 (f := .dict) hd1 (z := .dict (dmap pairD ((dd (s.map (·.1))).map fun x => (x, PyData.bool true)))) (by simp only [biD, dictB]; exact hdict)) (z := .list ((sortP (dd (s.map (·.1)))).map pairD)) (by simp only [biD, sortedB, hs1, Option.bind_some, sortD_lots, Option.map_some])
  have hsh : ∀ l : List (Int × Int), SeqAt.shaped (.list (l.map pairD)) = true := fun l => (Sh.lst (k := 1) fun x hx => by
    obtain ⟨a, _, rfl⟩ := List.mem_map.mp hx
    exact pairD_sh a).ok (by decide)
  have heq : cmpD .eq (.list (s.map fun p => pairD p.1)) (.list ((sortP (dd (s.map (·.1)))).map pairD)) = some (decide (s.map (·.1) = sortP (dd (s.map (·.1))))) := by
    have e1 : (s.map fun p => pairD p.1) = (s.map (·.1)).map pairD := by rw [List.map_map]; rfl
    have := eqvAll_map pairD_eqv (s.map (·.1)) (sortP (dd (s.map (·.1))))
    rw [e1]
    simp only [cmpD, eqD, shapedEq, hsh, Bool.and_self, if_true, eqv_lst, this]
  have s4 := evS_ret (evE_cmp (o := .eq) (evV_bv (i := 3) (d := .list (s.map fun p => pairD p.1)) rfl (evV_cons hd2 evV_nil) rfl) heq)
  exact runFn_of _ rfl ((evSs_nx s1).trans ((evSs_nx s2).trans ((evSs_nx s3).trans (evSs_rt s4)))) rfl
/-- the first pair's state is too great -/
theorem ev_starts_bad {m : Nat} {p : (Int × Int) × Nat} (hp : ¬ p.2 < m) : ∃ s1, runFn G1 Fare_starts [.int m, encA (p :: s)] sr = some (.bool false, s1) := by
  have s1 : evS G1 (.ite (.not (.bi .isTuple [.bv 1])) [.ret (.bl false)] []) ⟨stS m (encA (p :: s)) none none, sr⟩ = some (.nx, ⟨stS m (encA (p :: s)) none none, sr⟩) := evS_iteF (evE_not (b := true) (evE_bi1' (f := .isTuple) (d := encA (p :: s)) rfl rfl))
  have s2 := evS_forR (Γ := G1) (hd := []) (ex := []) (t := .nm 2) (it := .var 1) (b := [.ite (.or [.not (.bi .isTuple [.bv 2]), .cmp .ne [.bi .len [.bv 2], .int 2], .not (.call "is_lot" none [.idx [.bv 2, .int 0]])]) [.ret (.bl false)] [],
    .ite (.or [.not (.call "is_whole" none [.idx [.bv 2, .int 1]]), .not (.chain .le .lt [.int 0, .idx [.bv 2, .int 1]] (.var 0))]) [.ret (.bl false)] []]) (ρ := ⟨stS m (encA (p :: s)) none none, sr⟩) encP [] p s (r := .bool false) (d := encA (p :: s)) (ρ1 := ⟨stS m (encA (p :: s)) none none, sr⟩) rfl rfl
    (fun done ρ => ρ = ⟨stS m (encA (p :: s)) none none, sr⟩) rfl (fun done x rest ρ e _ => by simp at e) (fun ρ hρ => by
      subst hρ
      refine ⟨stS m (encA (p :: s)) (some (encP p)) none, ⟨stS m (encA (p :: s)) (some (encP p)) none, sr⟩, rfl, ?_⟩
      have := starts_body (sr := sr) (m := m) (V := encA (p :: s)) (x3 := none) (p := p)
      rw [if_neg hp] at this
      exact this)
  obtain ⟨ρ1, s2⟩ := s2
  exact ⟨ρ1.src, runFn_of _ rfl ((evSs_nx s1).trans (evSs_rt s2)) rfl⟩
theorem ev_starts_list {m : Nat} {xs : List D} : runFn G1 Fare_starts [.int m, .list xs] sr = some (.bool false, sr) := by
  have s1 : evS G1 (.ite (.not (.bi .isTuple [.bv 1])) [.ret (.bl false)] []) ⟨stS m (.list xs) none none, sr⟩ = some (.rt (.bool false), ⟨stS m (.list xs) none none, sr⟩) := (evS_iteT (evE_not (b := false) (evE_bi1' (f := .isTuple) (d := .list xs) rfl rfl))).trans rfl
  exact runFn_of _ rfl (evSs_rt s1) rfl
/-! ### are_lines -/
/-- a line as a state's -/
def goodL (d n : Nat) (l : Line) : Prop := l.length = d ∧ somes l ≠ [] ∧ ∀ j, some j ∈ l → j < n
def blS (d : Nat) (V : D) (x2 x3 : Option D) : Slots := [some (.int d), some V, x2, x3, none]
def lnB : List Ev.S := [.ite (.or [.not (.bi .isTuple [.bv 2]), .cmp .ne [.bi .len [.bv 2], .bv 0]]) [.ret (.bl false)] [],
  .asg (.nm 3) (.comp [4] (.nm 4) (.bv 2) [.cmp .isNot [.bv 4, .non]] (.var 4)),
  .ite (.or [.cmp .eq [.bv 3, .lst []], .not (.bi .all [.comp [4] (.nm 4) (.bv 3) [] (.and [.call "is_whole" none [.var 4], .chain .le .lt [.int 0, .var 4] (.bi .len [.bv 1])])])]) [.ret (.bl false)] []]
theorem lenB_L {l : Line} : lenB [encL l] = some (.int l.length) := by simp [lenB, encL]
/-- the first two rows of a line's turn -/
theorem lines_head {V : D} {l : Line} {x3 : Option D} (hl : l.length ≤ 1000) : evSs G0 lnB ⟨blS d V (some (encL l)) x3, sr⟩ = if l.length = d then evSs G0 (lnB.drop 2) ⟨blS d V (some (encL l)) (some (encFL (somes l))), sr⟩ else some (.rt (.bool false), ⟨blS d V (some (encL l)) x3, sr⟩) := by
  have hc : evE G0 (.cmp .ne [.bi .len [.bv 2], .bv 0]) ⟨blS d V (some (encL l)) x3, sr⟩ = some (.bool (!decide (l.length = d)), ⟨blS d V (some (encL l)) x3, sr⟩) :=
    evE_cmp (evV_cons (evE_bi1' (f := .len) (d := encL l) (z := .int l.length) rfl lenB_L) (evV_bv (d := .int d) rfl evV_nil rfl)) (by
      show (some ((l.length : Int) == (d : Int))).map not = _
      rw [Option.map_some]
      congr 2
      rw [Bool.eq_iff_iff]
      simp [Int.ofNat_inj])
  have t1 := (evE_or (es := [.not (.bi .isTuple [.bv 2]), .cmp .ne [.bi .len [.bv 2], .bv 0]])).trans ((evOr_F (evE_not (b := true) (evE_bi1' (Γ := G0) (ρ := ⟨blS d V (some (encL l)) x3, sr⟩) (f := .isTuple) (i := 2) (d := encL l) rfl rfl))).trans (evOr_1 hc))
  by_cases h : l.length = d
  · rw [if_pos h]
    rw [decide_eq_true h] at t1
    have s1 := evE_comp (Γ := G0) (s := sr) (own := [4]) (t := .nm 4) (it := .bv 2) (cond := [.cmp .isNot [.bv 4, .non]]) (elt := .var 4) (sl0 := blS d V (some (encL l)) x3) (sl := blS d V (some (encL l)) x3) (d := encL l) encO Option.isSome encO l rfl rfl rfl (fun o ho => by
      refine ⟨[some (.int d), some V, some (encL l), x3, some (encO o)], rfl, ?_, fun _ => rfl, rfl⟩
      refine evAnd_1 (evE_cmp (evV_bv (d := encO o) rfl (evV_cons (e := .non) rfl evV_nil) rfl) ?_)
      cases o <;> rfl) (lim1000 hl) rfl
    have e2 : (l.filter Option.isSome).map encO = (somes l).map fun n : Nat => PyData.int n := by
      unfold somes
      clear s1 t1 hc h hl
      induction l with
      | nil => rfl
      | cons o l ih => cases o <;> simp [List.filter_cons, List.filterMap_cons, encO] at ih ⊢ <;> exact ih
    rw [e2] at s1
    exact (evSs_nx (evS_iteF t1)).trans ((evSs_nx (evS_asg1 s1)).trans rfl)
  · rw [if_neg h]
    rw [decide_eq_false h] at t1
    exact evSs_rt ((evS_iteT t1).trans rfl)
theorem eqFLnil {f : List Nat} : cmpD .eq (encFL f) (.list []) = some (decide (f = [])) := by
  have h1 : SeqAt.shaped (encFL f) = true := (Sh.lst (k := 0) fun x hx => by
    obtain ⟨a, _, rfl⟩ := List.mem_map.mp hx
    exact Sh.int).ok (by decide)
  have h2 : SeqAt.shaped (.list []) = true := (Sh.lst (k := 0) fun x hx => by simp at hx).ok (by decide)
  have h3 : PyData.eqv (encFL f) (.list []) = decide (f = []) := by
    cases f with
    | nil => rfl
    | cons x f =>
      unfold encFL
      rw [eqv_lst, eqvAll_len (by simp)]
      simp
  show shapedEq (encFL f) (.list []) = _
  simp only [shapedEq, h1, h2, Bool.and_self, if_true, h3]
theorem lines_tail {V : D} {n : Nat} (hV : lenB [V] = some (.int n)) {x2 : Option D} {f : List Nat} (hf : f.length ≤ 1000) (hlt : ∀ j ∈ f, j < n) : evSs G0 (lnB.drop 2) ⟨blS d V x2 (some (encFL f)), sr⟩ = some (if f = [] then .rt (.bool false) else .nx, ⟨blS d V x2 (some (encFL f)), sr⟩) := by
  show evSs G0 [.ite _ _ _] _ = _
  rw [evSs_one]
  have c1 := evE_cmp (Γ := G0) (ρ := ⟨blS d V x2 (some (encFL f)), sr⟩) (o := .eq) (es := [.bv 3, .lst []]) (evV_bv (d := encFL f) rfl (evV_cons (e := .lst []) (d := .list []) rfl evV_nil) rfl) eqFLnil
  by_cases h : f = []
  · rw [if_pos h]
    rw [decide_eq_true h] at c1
    exact (evS_iteT (evE_or.trans (evOr_T c1))).trans rfl
  · rw [if_neg h]
    rw [decide_eq_false h] at c1
    have s1 := evE_compA (Γ := G0) (s := sr) (own := [4]) (t := .nm 4) (it := .bv 3) (elt := .and [.call "is_whole" none [.var 4], .chain .le .lt [.int 0, .var 4] (.bi .len [.bv 1])]) (sl0 := blS d V x2 (some (encFL f))) (sl := blS d V x2 (some (encFL f))) (d := encFL f) (fun n : Nat => PyData.int n) (fun _ => .bool true) f rfl rfl rfl (fun j hj => by
      refine ⟨[some (.int d), some V, x2, some (encFL f), some (.int j)], rfl, ?_, rfl⟩
      refine evE_and.trans ((evAnd_T (evE_call (evV_cons (e := .var 4) (d := .int j) rfl evV_nil) c_whole0)).trans (evAnd_1 ?_))
      have := evE_chain (Γ := G0) (o := .le) (o' := .lt) (es := [.int 0, .var 4]) (c := .bi .len [.bv 1]) (ρ := ⟨[some (.int d), some V, x2, some (encFL f), some (.int j)], sr⟩) (x := .int 0) (y := .int j) (z := .int n) (b := true) (b' := true) (evV_cons (e := .int 0) rfl (evV_cons (e := .var 4) rfl evV_nil)) (by simp [cmpD, leD]) (evE_bi1' (f := .len) (d := V) rfl hV) (by simp [cmpD, ltD]; exact hlt j hj) rfl
      exact this) (lim1000 hf) rfl
    have hall : evE G0 (.bi .all [.comp [4] (.nm 4) (.bv 3) [] (.and [.call "is_whole" none [.var 4], .chain .le .lt [.int 0, .var 4] (.bi .len [.bv 1])])]) ⟨blS d V x2 (some (encFL f)), sr⟩ = some (.bool true, ⟨blS d V x2 (some (encFL f)), sr⟩) := by
      refine evE_bi1 s1 ?_
      have : ∀ l : List Nat, isBls (l.map fun _ => PyData.bool true) = some (l.map fun _ => true) := fun l => by
        induction l with
        | nil => rfl
        | cons x l ih => rw [List.map_cons, isBls, ih]; rfl
      simp only [biD, allB, this, Option.map_some]
      simp
    exact (evS_iteF (evE_or.trans ((evOr_F c1).trans (evOr_1 (evE_not hall))))).trans rfl
theorem somes_len {l : Line} : (somes l).length ≤ l.length := List.length_filterMap_le _ _
theorem lines_good {V : D} {n : Nat} (hV : lenB [V] = some (.int n)) {l : Line} {x3 : Option D} (hd : d ≤ 1000) (h : goodL d n l) : ∃ y3, evSs G0 lnB ⟨blS d V (some (encL l)) x3, sr⟩ = some (.nx, ⟨blS d V (some (encL l)) y3, sr⟩) := by
  have hl : l.length ≤ 1000 := by rw [h.1]; exact hd
  refine ⟨some (encFL (somes l)), (lines_head hl).trans ?_⟩
  rw [if_pos h.1]
  refine (lines_tail hV (Nat.le_trans somes_len hl) fun j hj => h.2.2 j (mem_somes.mp hj)).trans ?_
  rw [if_neg h.2.1]
theorem ev_lines_ok {n : Nat} (hd : d ≤ 1000) (hst : ∀ l ∈ st, goodL d st.length l) : runFn G0 Fare_lines [.int d, encS st] sr = some (.bool true, sr) := by
  have s1 : evS G0 (.ite (.not (.bi .isTuple [.bv 1])) [.ret (.bl false)] []) ⟨blS d (encS st) none none, sr⟩ = some (.nx, ⟨blS d (encS st) none none, sr⟩) := evS_iteF (evE_not (b := true) (evE_bi1' (f := .isTuple) (d := encS st) rfl rfl))
  have s2 := evS_for (Γ := G0) (hd := []) (ex := []) (t := .nm 2) (it := .var 1) (b := lnB) (ρ := ⟨blS d (encS st) none none, sr⟩) encL st (d := encS st) (ρ1 := ⟨blS d (encS st) none none, sr⟩) rfl rfl
    (fun done ρ => ∃ x2 x3, ρ = ⟨blS d (encS st) x2 x3, sr⟩) ⟨none, none, rfl⟩ (fun done l rest ρ e ⟨x2, x3, hρ⟩ => by
      subst hρ
      obtain ⟨y3, h⟩ := lines_good (sr := sr) (V := encS st) lenB_S (x3 := x3) hd (hst l (by rw [e]; simp))
      exact ⟨blS d (encS st) (some (encL l)) x3, _, rfl, h, some (encL l), y3, rfl⟩)
  obtain ⟨ρ1, s2, x2, x3, hρ1⟩ := s2
  subst hρ1
  exact runFn_of _ rfl ((evSs_nx s1).trans ((evSs_nx s2).trans (evSs_rt (evS_ret (e := .bl true) rfl)))) rfl
/-- a line that is none ends it -/
theorem ev_lines_bad {pre post : Steps} {l : Line} (hd : d ≤ 1000) (hl : l.length ≤ 1000) (hlt : ∀ j, some j ∈ l → j < (pre ++ l :: post).length) (hbad : l.length ≠ d ∨ somes l = []) (hpre' : ∀ x ∈ pre, goodL d (pre ++ l :: post).length x) :
    ∃ s1, runFn G0 Fare_lines [.int d, encS (pre ++ l :: post)] sr = some (.bool false, s1) := by
  have s1 : evS G0 (.ite (.not (.bi .isTuple [.bv 1])) [.ret (.bl false)] []) ⟨blS d (encS (pre ++ l :: post)) none none, sr⟩ = some (.nx, ⟨blS d (encS (pre ++ l :: post)) none none, sr⟩) := evS_iteF (evE_not (b := true) (evE_bi1' (f := .isTuple) (d := encS (pre ++ l :: post)) rfl rfl))
  have s2 := evS_forR (Γ := G0) (hd := []) (ex := []) (t := .nm 2) (it := .var 1) (b := lnB) (ρ := ⟨blS d (encS (pre ++ l :: post)) none none, sr⟩) encL pre l post (r := .bool false) (d := encS (pre ++ l :: post)) (ρ1 := ⟨blS d (encS (pre ++ l :: post)) none none, sr⟩) rfl rfl
    (fun done ρ => ∃ x2 x3, ρ = ⟨blS d (encS (pre ++ l :: post)) x2 x3, sr⟩) ⟨none, none, rfl⟩ (fun done x rest ρ e ⟨x2, x3, hρ⟩ => by
      subst hρ
      obtain ⟨y3, h⟩ := lines_good (sr := sr) (V := encS (pre ++ l :: post)) lenB_S (x3 := x3) hd (hpre' x (by rw [e]; simp))
      exact ⟨blS d (encS (pre ++ l :: post)) (some (encL x)) x3, _, rfl, h, some (encL x), y3, rfl⟩) (fun ρ ⟨x2, x3, hρ⟩ => by
      subst hρ
      refine ⟨blS d (encS (pre ++ l :: post)) (some (encL l)) x3, ?_⟩
      have h1 := lines_head (sr := sr) (d := d) (V := encS (pre ++ l :: post)) (x3 := x3) hl
      by_cases h : l.length = d
      · rw [if_pos h] at h1
        have h2 := hbad.resolve_left (fun z => z h)
        refine ⟨⟨blS d (encS (pre ++ l :: post)) (some (encL l)) (some (encFL (somes l))), sr⟩, rfl, h1.trans ?_⟩
        refine (lines_tail lenB_S (Nat.le_trans somes_len hl) fun j hj => hlt j (mem_somes.mp hj)).trans ?_
        rw [if_pos h2]
      · rw [if_neg h] at h1
        exact ⟨_, rfl, h1⟩)
  obtain ⟨ρ1, s2⟩ := s2
  exact ⟨ρ1.src, runFn_of _ rfl ((evSs_nx s1).trans (evSs_rt s2)) rfl⟩
end
end K48
set_option linter.all false
set_option Elab.async false
set_option maxRecDepth 100000
set_option maxHeartbeats 1000000
/-! K48p: is_complete of the law's values. -/
namespace K48
open PySem Ev
section
variable {Γ : Calls} {sr : Src} {s : List ((Int × Int) × Nat)} {st : Steps} {d : Nat}
def icS (d : Nat) (v : D) : Slots := [some (.int d), some v]
theorem ic_not {v : D} (h : isTupleB [v] = some (.bool false)) : ∃ s1, runFn G2 Fis_complete [.int d, v] sr = some (.bool false, s1) := by
  have s1 : evS G2 (.ite (.or [.not (.bi .isTuple [.bv 1]), .cmp .ne [.bi .len [.bv 1], .int 2], .not (.call "are_lines" none [.var 0, .idx [.bv 1, .int 1]])]) [.ret (.bl false)] []) ⟨icS d v, sr⟩ = some (.rt (.bool false), ⟨icS d v, sr⟩) :=
    (evS_iteT (evE_or.trans (evOr_T (evE_not (b := false) (evE_bi1' (f := .isTuple) (d := v) rfl h))))).trans rfl
  exact ⟨_, runFn_of _ rfl (evSs_rt s1) rfl⟩
theorem ic_len {xs : List D} (h : xs.length ≠ 2) : ∃ s1, runFn G2 Fis_complete [.int d, .tuple xs] sr = some (.bool false, s1) := by
  have hl : cmpD .ne (.int (xs.length : Int)) (.int 2) = some true := by
    have : ¬ (xs.length : Int) = 2 := by omega
    simp [cmpD, eqD, this]
  have s1 : evS G2 (.ite (.or [.not (.bi .isTuple [.bv 1]), .cmp .ne [.bi .len [.bv 1], .int 2], .not (.call "are_lines" none [.var 0, .idx [.bv 1, .int 1]])]) [.ret (.bl false)] []) ⟨icS d (.tuple xs), sr⟩ = some (.rt (.bool false), ⟨icS d (.tuple xs), sr⟩) :=
    (evS_iteT (evE_or.trans ((evOr_F (evE_not (b := true) (evE_bi1' (f := .isTuple) (d := .tuple xs) rfl rfl))).trans (evOr_T (evE_cmp (evV_cons (evE_bi1' (f := .len) (d := .tuple xs) (z := .int xs.length) rfl rfl) (evV_cons (e := .int 2) rfl evV_nil)) hl))))).trans rfl
  exact ⟨_, runFn_of _ rfl (evSs_rt s1) rfl⟩
theorem ic_head {A S : D} {b : Bool} {s2 : Src} (h : G2 "are_lines" [.int d, S] {} = some (.bool b, s2)) : evE G2 (.or [.not (.bi .isTuple [.bv 1]), .cmp .ne [.bi .len [.bv 1], .int 2], .not (.call "are_lines" none [.var 0, .idx [.bv 1, .int 1]])]) ⟨icS d (.tuple [A, S]), sr⟩ = some (.bool (!b), ⟨icS d (.tuple [A, S]), sr⟩) :=
  evE_or.trans ((evOr_F (evE_not (b := true) (evE_bi1' (f := .isTuple) (d := .tuple [A, S]) rfl rfl))).trans ((evOr_F (evE_cmp (b := false) (evV_cons (evE_bi1' (f := .len) (d := .tuple [A, S]) (z := .int 2) rfl rfl) (evV_cons (e := .int 2) rfl evV_nil)) rfl)).trans
    (evOr_1 (evE_not (evE_call (evV_cons (e := .var 0) (d := .int d) rfl (evV_cons (evE_idx (z := S) (evV_bv (d := .tuple [A, S]) rfl (evV_cons (e := .int 1) rfl evV_nil) rfl) rfl) evV_nil)) h)))))
theorem ic_lines {A S : D} {s2 : Src} (h : G2 "are_lines" [.int d, S] {} = some (.bool false, s2)) : ∃ s1, runFn G2 Fis_complete [.int d, .tuple [A, S]] sr = some (.bool false, s1) :=
  ⟨_, runFn_of _ rfl (evSs_rt (ρ' := ⟨icS d (.tuple [A, S]), sr⟩) ((evS_iteT (ic_head h)).trans rfl)) rfl⟩
theorem ic_tail {A S : D} {n : Nat} {b : Bool} {s3 : Src} (hn : lenB [S] = some (.int n)) (h : G2 "are_starts" [.int n, A] {} = some (.bool b, s3)) : evE G2 (.call "are_starts" none [.bi .len [.idx [.bv 1, .int 1]], .idx [.bv 1, .int 0]]) ⟨icS d (.tuple [A, S]), sr⟩ = some (.bool b, ⟨icS d (.tuple [A, S]), sr⟩) :=
  evE_call (evV_cons (evE_bi1 (f := .len) (evE_idx (z := S) (evV_bv (d := .tuple [A, S]) rfl (evV_cons (e := .int 1) rfl evV_nil) rfl) rfl) hn) (evV_cons (evE_idx (z := A) (evV_bv (d := .tuple [A, S]) rfl (evV_cons (e := .int 0) rfl evV_nil) rfl) rfl) evV_nil)) h
theorem ic_starts {A S : D} {n : Nat} {s2 s3 : Src} (hl : G2 "are_lines" [.int d, S] {} = some (.bool true, s2)) (hn : lenB [S] = some (.int n)) (h : G2 "are_starts" [.int n, A] {} = some (.bool false, s3)) : ∃ s1, runFn G2 Fis_complete [.int d, .tuple [A, S]] sr = some (.bool false, s1) :=
  ⟨_, runFn_of _ rfl ((evSs_nx (ρ' := ⟨icS d (.tuple [A, S]), sr⟩) ((evS_iteF (ic_head hl)).trans rfl)).trans (evSs_rt (evS_ret (evE_and.trans (evAnd_F (ic_tail hn h)))))) rfl⟩
theorem ic_told {A S v w : D} {n : Nat} {b : Bool} {s2 s3 s4 : Src} (hl : G2 "are_lines" [.int d, S] {} = some (.bool true, s2)) (hn : lenB [S] = some (.int n)) (h : G2 "are_starts" [.int n, A] {} = some (.bool true, s3)) (ht : G2 "told_by" [A, S] {} = some (.tuple [v, w], s4)) (he : cmpD .eq v (.tuple [A, S]) = some b) : ∃ s1, runFn G2 Fis_complete [.int d, .tuple [A, S]] sr = some (.bool b, s1) := by
  have c1 := evE_call (Γ := G2) (ρ := ⟨icS d (.tuple [A, S]), sr⟩) (es := [.idx [.bv 1, .int 0], .idx [.bv 1, .int 1]]) (evV_cons (evE_idx (z := A) (evV_bv (d := .tuple [A, S]) rfl (evV_cons (e := .int 0) rfl evV_nil) rfl) rfl) (evV_cons (evE_idx (z := S) (evV_bv (d := .tuple [A, S]) rfl (evV_cons (e := .int 1) rfl evV_nil) rfl) rfl) evV_nil)) ht
  have c2 := evE_cmp (o := .eq) (evV_cons (evE_idx (z := v) (evV_cons c1 (evV_cons (e := .int 0) rfl evV_nil)) rfl) (evV_bv (i := 1) (d := .tuple [A, S]) rfl evV_nil rfl)) he
  exact ⟨_, runFn_of _ rfl ((evSs_nx (ρ' := ⟨icS d (.tuple [A, S]), sr⟩) ((evS_iteF (ic_head hl)).trans rfl)).trans (evSs_rt (evS_ret (evE_and.trans ((evAnd_T (ic_tail hn h)).trans (evAnd_1 c2)))))) rfl⟩
theorem g2_lines {ds : List D} {z : Src} : G2 "are_lines" ds z = runFn G0 Fare_lines ds z := by
  rw [show G2 "are_lines" = runFn G0 Fare_lines by simp [G2, G1]]
theorem g2_starts {ds : List D} {z : Src} : G2 "are_starts" ds z = runFn G1 Fare_starts ds z := by
  rw [show G2 "are_starts" = runFn G1 Fare_starts by simp [G2]]
theorem g2_told {ds : List D} {z : Src} : G2 "told_by" ds z = runFn G0 Ftold_by ds z := by
  rw [show G2 "told_by" = runFn G0 Ftold_by by simp [G2, G1]]
theorem encO_sh {o : Option Nat} {k : Nat} : Sh k (encO o) := by
  cases o
  · exact Sh.none
  · exact Sh.int
theorem encV_sh : Sh 4 (encV s st) := Sh.tup fun x hx => by
  simp at hx
  rcases hx with rfl | rfl
  · refine Sh.tup (k := 2) fun y hy => ?_
    obtain ⟨p, _, rfl⟩ := List.mem_map.mp hy
    refine Sh.tup (k := 1) fun z hz => ?_
    simp at hz
    rcases hz with rfl | rfl
    · exact pairD_sh _
    · exact Sh.int
  · refine Sh.tup (k := 2) fun y hy => ?_
    obtain ⟨l, _, rfl⟩ := List.mem_map.mp hy
    refine Sh.tup (k := 1) fun z hz => ?_
    obtain ⟨o, _, rfl⟩ := List.mem_map.mp hz
    exact encO_sh
theorem told_sh {B hb heads : List Nat} : Sh 4 (.tuple [encA' B hb s, encS' B hb heads st]) := Sh.tup fun x hx => by
  simp at hx
  rcases hx with rfl | rfl
  · refine Sh.tup (k := 2) fun y hy => ?_
    obtain ⟨p, _, rfl⟩ := List.mem_map.mp hy
    refine Sh.tup (k := 1) fun z hz => ?_
    simp at hz
    rcases hz with rfl | rfl
    · exact pairD_sh _
    · exact encO_sh
  · refine Sh.tup (k := 2) fun y hy => ?_
    obtain ⟨l, _, rfl⟩ := List.mem_map.mp hy
    refine Sh.tup (k := 1) fun z hz => ?_
    obtain ⟨o, _, rfl⟩ := List.mem_map.mp hz
    exact encO_sh
theorem cmp_shaped {v w : D} {j k : Nat} (h1 : Sh j v) (h2 : Sh k w) (hj : j ≤ 64) (hk : k ≤ 64) {xs ys : List D} (e1 : v = .tuple xs) (e2 : w = .tuple ys) : cmpD .eq v w = some (PyData.eqv v w) := by
  subst e1; subst e2
  show shapedEq (.tuple xs) (.tuple ys) = _
  simp only [shapedEq, h1.ok hj, h2.ok hk, Bool.and_self, if_true]
/-! ### the law's values -/
/-- what the law's form is -/
structure LV (d : Nat) (s : List ((Int × Int) × Nat)) (st : Steps) (P line : List Nat) (k : Nat) : Prop where
  L : LW s st P line k
  d9 : d ≤ 900
  s9 : s.length ≤ 900
  good : ∀ l ∈ st, goodL d st.length l
  s0 : s ≠ []
  srt : SortedP (s.map (·.1))
  nd : (s.map (·.1)).Nodup
  few : st.length ≤ 6
section
variable {P line : List Nat} {k : Nat}
theorem LV.d1 (V : LV d s st P line k) : d ≤ 1000 := Nat.le_trans V.d9 (by decide)
theorem LV.lots (V : LV d s st P line k) : (leastOf s st P line).1.map (·.1) = s.map (·.1) := by simp [leastOf, List.map_map]
theorem LV.goodV (V : LV d s st P line k) : ∀ l ∈ (leastOf s st P line).2, goodL d (leastOf s st P line).2.length l := fun l hl => by
  obtain ⟨a, ha, rfl⟩ := List.mem_map.mp hl
  have hg := V.good _ (getD_mem (V.L.lt a ha))
  refine ⟨by rw [List.length_map]; exact hg.1, ?_, fun j hj => (V.L.wf V.s0).ok _ hl j hj⟩
  intro e
  apply hg.2.1
  generalize st.getD a [] = m at e
  unfold somes at *
  induction m with
  | nil => rfl
  | cons o m ih =>
    cases o with
    | none => simpa using ih (by simpa using e)
    | some x => simp at e
theorem plc_range {n b : Nat} (h : b < n) : plc (List.range n) b = some b := by
  unfold plc
  rw [if_pos (List.mem_range.mpr h)]
  have := idx_lb (f := List.range n) List.nodup_range (i := b) (by simpa using h)
  rw [lb_range h] at this
  rw [this]
theorem LV.complete (V : LV d s st P line k) : ∃ s1, runFn G2 Fis_complete [.int d, encV (leastOf s st P line).1 (leastOf s st P line).2] sr = some (.bool true, s1) := by
  have W' := V.L.wf V.s0
  have e1 := ev_lines_ok (sr := {}) (n := 0) V.d1 V.goodV
  have e2 := ev_starts_ok (sr := {}) (m := (leastOf s st P line).2.length) W'.hs W'.n3
  rw [V.lots, lots_again V.srt V.nd, decide_eq_true rfl] at e2
  obtain ⟨f, heads, k', hB, hR, hk, e3⟩ := ev_told (sr := {}) W'
  have hf := V.L.blocks hB
  rw [hf] at hR
  have hh := V.L.heads V.s0 hR hk
  have hhb : heads.map (lb f) = List.range line.length := by
    rw [hh, hf]
    apply List.ext_getElem
    · simp
    · intro i h1 h2
      simp at h1
      simp [lb_range h1]
  rw [hhb, hh, hf] at e3
  have ea : encA' (List.range line.length) (List.range line.length) (leastOf s st P line).1 = encA (leastOf s st P line).1 := by
    unfold encA' encA
    congr 1
    refine List.map_congr_left fun p hp => ?_
    have := W'.hs p hp
    rw [V.L.vlen] at this
    rw [lb_range this, plc_range this]
    rfl
  have es : encS' (List.range line.length) (List.range line.length) (List.range line.length) (leastOf s st P line).2 = encS (leastOf s st P line).2 := by
    unfold encS' encS
    congr 1
    apply List.ext_getElem
    · simp [V.L.vlen]
    · intro i h1 h2
      simp at h1
      have hi : i < (leastOf s st P line).2.length := by rw [V.L.vlen]; exact h1
      simp only [List.getElem_map, List.getElem_range]
      have : (leastOf s st P line).2.getD i [] = (leastOf s st P line).2[i] := by simp [List.getD, hi]
      rw [this]
      unfold encL
      congr 1
      refine List.map_congr_left fun o ho => ?_
      cases o with
      | none => rfl
      | some j =>
        have hj := W'.ok _ (List.getElem_mem hi) j ho
        rw [V.L.vlen] at hj
        simp only [Option.bind_some]
        rw [lb_range hj, plc_range hj]
  rw [ea, es] at e3
  refine ic_told (b := true) (v := encV (leastOf s st P line).1 (leastOf s st P line).2) (g2_lines.trans e1) lenB_S (g2_starts.trans e2) (g2_told.trans e3) ?_
  rw [show PyData.tuple [encA (leastOf s st P line).1, encS (leastOf s st P line).2] = encV (leastOf s st P line).1 (leastOf s st P line).2 from rfl, cmp_shaped encV_sh encV_sh (by decide) (by decide) rfl rfl, SeqAt.eqv_refl _ encV_sh.1]
end
end
end K48
set_option linter.all false
set_option Elab.async false
set_option maxRecDepth 100000
set_option maxHeartbeats 1000000
/-! K48q: bent forms are none. -/
namespace K48
open PySem Ev
section
variable {sr : Src} {s : List ((Int × Int) × Nat)} {st : Steps} {d : Nat} {P line : List Nat} {k : Nat}
def sV (V : LV d s st P line k) : List ((Int × Int) × Nat) := (leastOf s st P line).1
def tV (V : LV d s st P line k) : Steps := (leastOf s st P line).2
theorem LV.tlen (V : LV d s st P line k) : (tV V).length = line.length := V.L.vlen
theorem LV.wf (V : LV d s st P line k) : WfB (sV V) (tV V) := V.L.wf V.s0
theorem LV.lot' (V : LV d s st P line k) : (sV V).map (·.1) = s.map (·.1) := V.lots
theorem LV.slen (V : LV d s st P line k) : (sV V).length = s.length := by simp [sV, leastOf]
theorem LV.t6 (V : LV d s st P line k) : (tV V).length ≤ 6 := by rw [V.tlen]; exact Nat.le_trans V.L.len V.few
theorem LV.cons (V : LV d s st P line k) : ∃ p r, sV V = p :: r := by
  cases h : sV V with
  | nil =>
    have := V.slen
    rw [h] at this
    have := V.s0
    cases s with
    | nil => exact absurd rfl V.s0
    | cons => simp at *
  | cons p r => exact ⟨p, r, rfl⟩
theorem g_lines_ok (V : LV d s st P line k) : G2 "are_lines" [.int d, encS (tV V)] {} = some (.bool true, {}) := g2_lines.trans (ev_lines_ok (n := 0) V.d1 V.goodV)
/-- starts that are not ascending, each once -/
theorem bent_starts (V : LV d s st P line k) {x : List ((Int × Int) × Nat)} (hx : ∀ p ∈ x, p.2 < (tV V).length) (hn : x.length ≤ 1000) (hne : x.map (·.1) ≠ sortP (dd (x.map (·.1)))) : ∃ s1, runFn G2 Fis_complete [.int d, .tuple [encA x, encS (tV V)]] sr = some (.bool false, s1) := by
  have e2 := ev_starts_ok (sr := {}) (m := (tV V).length) hx hn
  rw [decide_eq_false hne] at e2
  exact ic_starts (g_lines_ok V) lenB_S (g2_starts.trans e2)
theorem bent_rev (V : LV d s st P line k) (h2 : 2 ≤ s.length) : ∃ s1, runFn G2 Fis_complete [.int d, .tuple [encA (sV V).reverse, encS (tV V)]] sr = some (.bool false, s1) := by
  refine bent_starts V (fun p hp => V.wf.hs p (by simpa using hp)) (by have := V.wf.n3; simpa using this) ?_
  rw [List.map_reverse, V.lot']
  intro e
  have hs := sortP_sorted (dd (s.map (·.1)).reverse)
  rw [← e] at hs
  have hs0 := V.srt
  have nd := V.nd
  obtain ⟨a, b, r, h⟩ : ∃ a b r, s.map (·.1) = a :: b :: r := by
    match s, h2 with
    | p :: q :: r, _ => exact ⟨_, _, _, rfl⟩
  · rw [h] at hs hs0 nd
    unfold SortedP at hs hs0
    rw [List.pairwise_cons] at hs0
    have h1 := hs0.1 b (by simp)
    rw [List.reverse_cons, List.pairwise_append] at hs
    have h2 := hs.2.2 b (by simp) a (by simp)
    have := leP_antisymm h1 h2
    simp [this] at nd
theorem bent_twice (V : LV d s st P line k) {p : (Int × Int) × Nat} {r : List ((Int × Int) × Nat)} (e : sV V = p :: r) : ∃ s1, runFn G2 Fis_complete [.int d, .tuple [encA (p :: r ++ [p]), encS (tV V)]] sr = some (.bool false, s1) := by
  have hw := V.wf
  refine bent_starts V (fun q hq => hw.hs q (by rw [e]; simp at hq ⊢; rcases hq with h | h | h <;> simp [h])) (by
    have h2 := V.slen
    have h3 := V.s9
    rw [e] at h2
    simp at h2 ⊢
    omega) ?_
  intro h
  have hl := congrArg List.length h
  rw [sortP_len] at hl
  have : (dd ((p :: r ++ [p]).map (·.1))).length ≤ ((p :: r).map (·.1)).length := length_le_of_subset nodup_dd fun x hx => by
    have := mem_dd.mp hx
    simp at this ⊢
    rcases this with h | h | h
    · exact .inl h
    · exact .inr h
    · exact .inl h
  simp at hl this
  omega
theorem bent_list (V : LV d s st P line k) {xs : List D} : ∃ s1, runFn G2 Fis_complete [.int d, .tuple [.list xs, encS (tV V)]] sr = some (.bool false, s1) :=
  ic_starts (g_lines_ok V) lenB_S (g2_starts.trans ev_starts_list)
theorem bent_nine (V : LV d s st P line k) {l : Int × Int} : ∃ s1, runFn G2 Fis_complete [.int d, .tuple [encA [(l, 9)], encS (tV V)]] sr = some (.bool false, s1) := by
  obtain ⟨s1, h⟩ := ev_starts_bad (sr := {}) (m := (tV V).length) (p := (l, 9)) (s := []) (by have := V.t6; simp; omega)
  exact ic_starts (g_lines_ok V) lenB_S (g2_starts.trans h)
theorem bent_none (V : LV d s st P line k) : ∃ s1, runFn G2 Fis_complete [.int d, .tuple [encA (sV V), .tuple []]] sr = some (.bool false, s1) := by
  obtain ⟨p, r, e⟩ := V.cons
  obtain ⟨s1, h⟩ := ev_starts_bad (sr := {}) (m := 0) (p := p) (s := r) (Nat.not_lt_zero _)
  rw [← e] at h
  have hl := ev_lines_ok (sr := {}) (st := []) (n := 0) V.d1 fun l hl => by simp at hl
  exact ic_starts (S := encS []) (n := 0) (g2_lines.trans hl) rfl (g2_starts.trans h)
theorem bent_line (V : LV d s st P line k) {x : List ((Int × Int) × Nat)} : ∃ s1, runFn G2 Fis_complete [.int d, .tuple [encA x, encS (tV V ++ [List.replicate d none])]] sr = some (.bool false, s1) := by
  have hg := V.goodV
  obtain ⟨s1, h⟩ := ev_lines_bad (sr := {}) (d := d) (pre := tV V) (post := []) (l := List.replicate d none) V.d1 (by simpa using V.d1) (fun j hj => by
    have := List.eq_of_mem_replicate hj
    cases this) (.inr (by
    unfold somes
    rw [List.filterMap_replicate_of_none rfl])) (fun x hx => by
    have := hg x hx
    exact ⟨this.1, this.2.1, fun j hj => by have := this.2.2 j hj; simp [tV] at this ⊢; omega⟩)
  exact ic_lines (g2_lines.trans h)
theorem bent_long (V : LV d s st P line k) {x : List ((Int × Int) × Nat)} : ∃ s1, runFn G2 Fis_complete [.int d, .tuple [encA x, encS ((tV V).map fun l => l ++ [none])]] sr = some (.bool false, s1) := by
  have hg := V.goodV
  cases ht : tV V with
  | nil => have := V.wf.n0; rw [ht] at this; simp at this
  | cons l r =>
    have hl := hg l (by rw [show (leastOf s st P line).2 = tV V from rfl, ht]; simp)
    have hlen : (tV V).length = r.length + 1 := by rw [ht]; rfl
    obtain ⟨s1, h⟩ := ev_lines_bad (sr := {}) (d := d) (pre := []) (post := r.map fun l => l ++ [none]) (l := l ++ [none]) V.d1 (by
        rw [List.length_append, hl.1]
        have := V.d9
        simp; omega) (fun j hj => by
        have := hl.2.2 j (by simpa using hj)
        simp [tV] at hlen
        simp; omega) (.inl (by rw [List.length_append, hl.1]; simp)) (fun x hx => by simp at hx)
    exact ic_lines (g2_lines.trans (by simpa using h))
/-- a state twice -/
theorem bent_state (V : LV d s st P line k) {l : Line} {r : Steps} (e : tV V = l :: r) : ∃ s1, runFn G2 Fis_complete [.int d, .tuple [encA (sV V), encS (l :: r ++ [l])]] sr = some (.bool false, s1) := by
  have hw := V.wf
  have hg : ∀ x ∈ tV V, goodL d (tV V).length x := V.goodV
  have hlen : (l :: r ++ [l]).length = (tV V).length + 1 := by rw [e]; simp
  have hmem : ∀ x, x ∈ l :: r ++ [l] → x ∈ tV V := fun x hx => by
    rw [e]; simp at hx ⊢; rcases hx with h | h | h <;> simp [h]
  have W2 : WfB (sV V) (l :: r ++ [l]) := ⟨fun x hx j hj => by rw [hlen]; have := hw.ok x (hmem x hx) j hj; omega, fun x hx => hw.hd x (hmem x hx), fun p hp => by rw [hlen]; have := hw.hs p hp; omega, by rw [hlen]; have := V.t6; omega, by rw [hlen]; omega, hw.n3⟩
  have e1 := ev_lines_ok (sr := {}) (st := l :: r ++ [l]) (n := 0) V.d1 fun x hx => by
    have := hg x (hmem x hx)
    exact ⟨this.1, this.2.1, fun j hj => by rw [hlen]; have := this.2.2 j hj; omega⟩
  have e2 := ev_starts_ok (sr := {}) (m := (l :: r ++ [l]).length) W2.hs W2.n3
  rw [V.lot', lots_again V.srt V.nd, decide_eq_true rfl] at e2
  obtain ⟨f, heads, k', hB, hR, hk, e3⟩ := ev_told (sr := {}) W2
  refine ic_told (b := false) (g2_lines.trans e1) lenB_S (g2_starts.trans e2) (g2_told.trans e3) ?_
  -- the first and the last state are not parted
  have hlast : lb f (r.length + 1) = lb f 0 := by
    refine hB.coarse (fun a b => a = b ∨ (a = r.length + 1 ∧ b = 0)) (fun i j hi hj h => ?_) _ _ (by simp) (by simp) (.inr ⟨rfl, rfl⟩)
    have heq : (l :: r ++ [l]).getD i [] = (l :: r ++ [l]).getD j [] := by
      rcases h with rfl | ⟨rfl, rfl⟩
      · rfl
      · simp [List.getD]
    rw [heq]
    exact al_of_map (u := id) (fun x y _ _ e => .inl e) rfl
  have hin := hR.sub (· < (l :: r ++ [l]).length) (fun x hx => by
    obtain ⟨q, hq, rfl⟩ := List.mem_map.mp hx
    exact W2.hs q hq) fun a ha x hx => W2.ok _ (getD_mem ha) x (mem_somes.mp hx)
  have hhl : (heads.map (lb f)).length ≤ ((List.range (r.length + 1)).map (lb f)).length := length_le_of_subset hR.nodup fun x hx => by
    obtain ⟨y, hy, rfl⟩ := List.mem_map.mp hx
    have := hin y hy
    simp at this
    by_cases h : y = r.length + 1
    · rw [h, hlast]
      exact List.mem_map_of_mem (by simp)
    · exact List.mem_map_of_mem (by simp; omega)
  simp at hhl
  have h1 := told_sh (s := sV V) (st := l :: r ++ [l]) (B := f) (hb := heads.map (lb f)) (heads := heads)
  have h2 : Sh 4 (.tuple [encA (sV V), encS (l :: r ++ [l])]) := encV_sh
  rw [cmp_shaped h1 h2 (by decide) (by decide) rfl rfl, eqv_tup, eqvAll_cons, eqvAll_cons]
  have : PyData.eqv (encS' f (heads.map (lb f)) heads (l :: r ++ [l])) (encS (l :: r ++ [l])) = false := by
    unfold encS' encS
    rw [eqv_tup]
    exact eqvAll_len (by simp; omega)
  rw [this]
  simp
end
end K48
set_option linter.all false
set_option Elab.async false
set_option maxRecDepth 100000
set_option maxHeartbeats 1000000
/-! K48r: counts, rows, drawn things of k48. -/
namespace K48
open PySem Ev
/-! ### the source -/
theorem pickS_range (m : Int) (hm : 1 ≤ m) (s : Src) : 0 ≤ (pickS m s).1 ∧ (pickS m s).1 < m := by
  have hmax : max 1 m = m := by omega
  unfold pickS
  simp only
  split
  · simp only [hmax]
    exact ⟨Int.emod_nonneg _ (by omega), Int.emod_lt_of_pos _ (by omega)⟩
  · exact ⟨Int.emod_nonneg _ (by omega), Int.emod_lt_of_pos _ (by omega)⟩
theorem pick_ok (m : Nat) (hm : 0 < m) (h2 : m < 1073741824) (s : Src) : ∃ (r : Nat) (s' : Src), r < m ∧ pick [.int m] s = some (.int r, s') := by
  obtain ⟨h3, h4⟩ := pickS_range m (by omega) s
  refine ⟨(pickS m s).1.toNat, (pickS m s).2, by omega, ?_⟩
  show (if (m : Int) < 1073741824 then some (PyData.int (pickS m s).1, (pickS m s).2) else none) = _
  rw [if_pos (by omega), Int.toNat_of_nonneg h3]
/-- things one by one -/
inductive All2 {α β : Type} (Q : α → β → Prop) : List α → List β → Prop
  | nil : All2 Q [] []
  | cons {x : α} {y : β} {xs : List α} {ys : List β} : Q x y → All2 Q xs ys → All2 Q (x :: xs) (y :: ys)
theorem All2.length {α β : Type} {Q : α → β → Prop} {xs : List α} {ys : List β} (h : All2 Q xs ys) : ys.length = xs.length := by
  induction h with
  | nil => rfl
  | cons _ _ ih => simp [ih]
theorem All2.right {α β : Type} {Q : α → β → Prop} {p : β → Prop} {xs : List α} {ys : List β} (h : All2 Q xs ys) (hp : ∀ x y, Q x y → p y) : ∀ y ∈ ys, p y := by
  induction h with
  | nil => simp
  | cons a _ ih =>
    intro y hy
    rcases List.mem_cons.mp hy with rfl | hy
    · exact hp _ _ a
    · exact ih y hy
theorem compL_src {own : List Nat} {t : Tgt} {c f : R D} {α β : Type} {sl : Slots} (enc : α → D) (g : β → D) (Q : α → β → Prop) (hc : ∀ ρ, c ρ = some (.bool true, ρ)) : ∀ (xs : List α) (s : Src),
    (∀ x ∈ xs, ∀ s, ∃ sl' z s', asgT t (enc x) sl = some sl' ∧ f ⟨sl', s⟩ = some (g z, ⟨sl', s'⟩) ∧ Q x z ∧ wipe sl' own = sl) → xs.length ≤ lim →
    ∃ zs s', compL own t c f (xs.map enc) ⟨sl, s⟩ = some (zs.map g, ⟨sl, s'⟩) ∧ All2 Q xs zs
  | [], s, _, _ => ⟨[], s, rfl, .nil⟩
  | x :: xs, s, h, hl => by
    obtain ⟨sl', z, s1, h1, h2, h3, h4⟩ := h x (by simp) s
    obtain ⟨zs, s2, e, q⟩ := compL_src enc g Q hc xs s1 (fun y hy => h y (by simp [hy])) (by simp at hl; omega)
    refine ⟨z :: zs, s2, ?_, .cons h3 q⟩
    have hlen : (zs.map g).length < lim := by
      have := q.length
      simp at hl ⊢; omega
    rw [List.map_cons, compL, h1]
    simp only [hc, boolR_bool, h2, h4, e, hlen, if_true, List.map_cons]
theorem evE_compS {Γ : Calls} {own : List Nat} {t : Tgt} {it : E} {elt : E} {sl0 sl : Slots} {s s0 : Src} {d : D} {α β : Type} (enc : α → D) (g : β → D) (Q : α → β → Prop) (xs : List α)
    (hit : evE Γ it ⟨sl0, s⟩ = some (d, ⟨sl0, s0⟩)) (hd : seqD d = some (xs.map enc)) (hw : wipe sl0 own = sl)
    (h : ∀ x ∈ xs, ∀ s, ∃ sl' z s', asgT t (enc x) sl = some sl' ∧ evE Γ elt ⟨sl', s⟩ = some (g z, ⟨sl', s'⟩) ∧ Q x z ∧ wipe sl' own = sl) (hl : xs.length ≤ lim) (hr : restore sl0 sl own = sl0) :
    ∃ zs s', evE Γ (.comp own t it [] elt) ⟨sl0, s⟩ = some (.list (zs.map g), ⟨sl0, s'⟩) ∧ All2 Q xs zs := by
  obtain ⟨zs, s', e, q⟩ := compL_src (own := own) (t := t) (c := evAnd Γ []) (f := evE Γ elt) enc g Q (fun ρ => evAnd_nil) xs s0 h hl
  refine ⟨zs, s', ?_, q⟩
  simp only [evE, hit, Option.bind_some, hd, hw, e, Option.map_some, hr]
theorem g0_pick {ds : List D} {z : Src} : G0 "_law_pick" ds z = pick ds z := by
  rw [show G0 "_law_pick" = pick by simp [G0]]
theorem g2_pick {ds : List D} {z : Src} : G2 "_law_pick" ds z = pick ds z := by
  rw [show G2 "_law_pick" = pick by simp [G2, G1, G0]]
theorem g3_pick {ds : List D} {z : Src} : G3 "_law_pick" ds z = pick ds z := by
  rw [show G3 "_law_pick" = pick by simp [G3, G2, G1, G0]]
section
variable {Γ : Calls} {sr : Src} {s : List ((Int × Int) × Nat)} {st : Steps} {d : Nat}
/-- a drawn number -/
theorem ev_pick {Γ : Calls} (hΓ : ∀ ds z, Γ "_law_pick" ds z = pick ds z) {i : Nat} {e : E} {m : Nat} {sl : Slots} {d0 : D} (h0 : getS sl i = some d0) (he : evE Γ e ⟨sl, sr⟩ = some (.int m, ⟨sl, sr⟩)) (hm : 0 < m) (h2 : m < 1073741824) (hb : ∀ i, e ≠ .bv i := by nofun) :
    ∃ (r : Nat) (s' : Src), r < m ∧ evE Γ (.call "_law_pick" (some i) [e]) ⟨sl, sr⟩ = some (.int r, ⟨sl, s'⟩) := by
  obtain ⟨r, s', hr, e2⟩ := pick_ok m hm h2 sr
  exact ⟨r, s', hr, evE_callS h0 (evV_cons he evV_nil hb) ((hΓ _ _).trans e2)⟩
/-! ### _law_of -/
theorem ev_of {xs : List D} (h0 : xs ≠ []) (hl : xs.length < 1073741824) : ∃ x s', x ∈ xs ∧ runFn G0 F_law_of [.list xs] sr = some (x, s') := by
  have hpos : 0 < xs.length := List.length_pos_iff.mpr h0
  obtain ⟨r, s', hr, e⟩ := ev_pick (Γ := G0) (sr := sr) (fun ds z => g0_pick) (i := 0) (e := .bi .len [.bv 1]) (m := xs.length) (sl := [some .none, some (.list xs)]) (d0 := .none) rfl (evE_bi1' (f := .len) (d := .list xs) rfl rfl) hpos hl
  refine ⟨xs[r], s', List.getElem_mem hr, runFn_of _ rfl (evSs_rt (evS_ret (evE_idx (z := xs[r]) (evV_bv (d := .list xs) rfl (evV_cons e evV_nil) rfl) ?_))) rfl⟩
  rw [atD_nat hr]
  simp [List.getD, hr]
/-! ### _law_drawn_steps -/
def dsS (m d : Nat) (found : List D) (x4 x5 : Option D) : Slots := [some .none, some (.int m), some (.int d), some (.list found), x4, x5, none, none]
theorem ev_drawn {m : Nat} (hm : 0 < m) (hm2 : m ≤ 1000) (hd : 0 < d) (hd2 : d ≤ 1000) : ∃ (st : Steps) (s' : Src), st.length = m ∧ (∀ l ∈ st, goodL d m l) ∧ runFn G0 F_law_drawn_steps [.int m, .int d] sr = some (encSL st, s') := by
  have s1 : evS G0 (.asg (.nm 3) (.lst [])) ⟨[some .none, some (.int m), some (.int d), none, none, none, none, none], sr⟩ = some (.nx, ⟨dsS m d [] none none, sr⟩) := rfl
  have s2 := evS_for (Γ := G0) (hd := [3]) (ex := [3]) (t := .nm 4) (it := .rng1 (.var 1)) (b := [.asg (.nm 5) (.comp [6] (.nm 6) (.rng1 (.var 2)) [] (.ite (.cmp .eq [.call "_law_pick" (some 0) [.int 2], .int 0]) (.call "_law_pick" (some 0) [.var 1]) (.non))),
    .ite (.cmp .eq [.comp [7] (.nm 7) (.bv 5) [.cmp .isNot [.bv 7, .non]] (.var 7), .lst []]) [.setI 5 (.call "_law_pick" (some 0) [.var 2]) (.call "_law_pick" (some 0) [.var 1])] [],
    .app 3 (.var 5)]) (ρ := ⟨dsS m d [] none none, sr⟩) (fun i : Nat => PyData.int i) (List.range m) (ρ1 := ⟨dsS m d [] none none, sr⟩) (evE_rng1 (n := m) rfl (by omega)) rfl
    (fun done ρ => ∃ (st : Steps) (x4 x5 : Option D) (sr : Src), st.length = done.length ∧ (∀ l ∈ st, goodL d m l) ∧ ρ = ⟨dsS m d (st.map encLL) x4 x5, sr⟩) ⟨[], none, none, sr, rfl, by simp, rfl⟩
    (fun done i rest ρ e ⟨st, x4, x5, sr, hlen, hg, hρ⟩ => by
      subst hρ
      have hdl : done.length < m := by
        have := congrArg List.length e
        simp at this; omega
      obtain ⟨l, s3, e3, q3⟩ := evE_compS (Γ := G0) (s := sr) (s0 := sr) (own := [6]) (t := .nm 6) (it := .rng1 (.var 2)) (elt := .ite (.cmp .eq [.call "_law_pick" (some 0) [.int 2], .int 0]) (.call "_law_pick" (some 0) [.var 1]) (.non)) (sl0 := dsS m d (st.map encLL) (some (.int i)) x5) (sl := dsS m d (st.map encLL) (some (.int i)) x5)
        (fun i : Nat => PyData.int i) encO (fun _ o => ∀ j, o = some j → j < m) (List.range d) (evE_rng1 (n := d) rfl (by omega)) rfl rfl (fun j hj sr => by
          obtain ⟨r, s', hr, e1⟩ := ev_pick (Γ := G0) (sr := sr) (fun ds z => g0_pick) (i := 0) (e := .int 2) (m := 2) (sl := [some .none, some (.int m), some (.int d), some (.list (st.map encLL)), some (.int i), x5, some (.int j), none]) (d0 := .none) rfl rfl (by decide) (by decide)
          have ht := evE_cmp (o := .eq) (evV_cons e1 (evV_cons (e := .int 0) (d := .int 0) (ρ' := ⟨[some .none, some (.int m), some (.int d), some (.list (st.map encLL)), some (.int i), x5, some (.int j), none], s'⟩) rfl evV_nil)) (b := decide (r = 0)) (by
            show some ((r : Int) == 0) = _
            congr 1
            rw [Bool.eq_iff_iff]
            simp)
          by_cases h : r = 0
          · rw [decide_eq_true h] at ht
            obtain ⟨r2, s2, hr2, e2⟩ := ev_pick (Γ := G0) (sr := s') (fun ds z => g0_pick) (i := 0) (e := .var 1) (m := m) (sl := [some .none, some (.int m), some (.int d), some (.list (st.map encLL)), some (.int i), x5, some (.int j), none]) (d0 := .none) rfl rfl hm (by omega)
            exact ⟨_, some r2, s2, rfl, (evE_iteT ht).trans e2, fun j hj => by cases hj; exact hr2, rfl⟩
          · rw [decide_eq_false h] at ht
            exact ⟨_, none, s', rfl, (evE_iteF ht).trans rfl, (fun j hj => by cases hj), rfl⟩) (by simp; unfold lim; omega) rfl
      have hll : l.length = d := by rw [q3.length]; simp
      have hlt : ∀ j, some j ∈ l → j < m := fun j hj => q3.right (p := fun o => ∀ j, o = some j → j < m) (fun _ _ h => h) (some j) hj j rfl
      have t1 : evS G0 (.asg (.nm 5) (.comp [6] (.nm 6) (.rng1 (.var 2)) [] (.ite (.cmp .eq [.call "_law_pick" (some 0) [.int 2], .int 0]) (.call "_law_pick" (some 0) [.var 1]) (.non)))) ⟨dsS m d (st.map encLL) (some (.int i)) x5, sr⟩ = some (.nx, ⟨dsS m d (st.map encLL) (some (.int i)) (some (encLL l)), s3⟩) := evS_asg1 e3
      have c1 := evE_comp (Γ := G0) (s := s3) (own := [7]) (t := .nm 7) (it := .bv 5) (cond := [.cmp .isNot [.bv 7, .non]]) (elt := .var 7) (sl0 := dsS m d (st.map encLL) (some (.int i)) (some (encLL l))) (sl := dsS m d (st.map encLL) (some (.int i)) (some (encLL l))) (d := encLL l) encO Option.isSome encO l rfl rfl rfl (fun o ho => by
        refine ⟨[some .none, some (.int m), some (.int d), some (.list (st.map encLL)), some (.int i), some (encLL l), none, some (encO o)], rfl, ?_, fun _ => rfl, rfl⟩
        refine evAnd_1 (evE_cmp (evV_bv (d := encO o) rfl (evV_cons (e := .non) rfl evV_nil) rfl) ?_)
        cases o <;> rfl) (by rw [hll]; exact lim1000 hd2) rfl
      have e2 : (l.filter Option.isSome).map encO = (somes l).map fun n : Nat => PyData.int n := by
        unfold somes
        clear c1 t1 e3 q3 hlt hll
        induction l with
        | nil => rfl
        | cons o l ih => cases o <;> simp [List.filter_cons, List.filterMap_cons, encO] at ih ⊢ <;> exact ih
      rw [e2] at c1
      have c2 := evE_cmp (o := .eq) (evV_cons c1 (evV_cons (e := .lst []) (d := .list []) (ρ' := ⟨dsS m d (st.map encLL) (some (.int i)) (some (encLL l)), s3⟩) rfl evV_nil)) (eqFLnil (f := somes l))
      -- the line as it is told
      have : ∃ (l' : Line) (s4 : Src), goodL d m l' ∧ evS G0 (.ite (.cmp .eq [.comp [7] (.nm 7) (.bv 5) [.cmp .isNot [.bv 7, .non]] (.var 7), .lst []]) [.setI 5 (.call "_law_pick" (some 0) [.var 2]) (.call "_law_pick" (some 0) [.var 1])] []) ⟨dsS m d (st.map encLL) (some (.int i)) (some (encLL l)), s3⟩ = some (.nx, ⟨dsS m d (st.map encLL) (some (.int i)) (some (encLL l')), s4⟩) := by
        by_cases h : somes l = []
        · rw [decide_eq_true h] at c2
          obtain ⟨r2, s5, hr2, e5⟩ := ev_pick (Γ := G0) (sr := s3) (fun ds z => g0_pick) (i := 0) (e := .var 1) (m := m) (sl := dsS m d (st.map encLL) (some (.int i)) (some (encLL l))) (d0 := .none) rfl rfl hm (by omega)
          obtain ⟨r6, s6, hr6, e6⟩ := ev_pick (Γ := G0) (sr := s5) (fun ds z => g0_pick) (i := 0) (e := .var 2) (m := d) (sl := dsS m d (st.map encLL) (some (.int i)) (some (encLL l))) (d0 := .none) rfl rfl hd (by omega)
          refine ⟨l.set r6 (some r2), s6, ⟨by rw [List.length_set]; exact hll, ?_, fun j hj => ?_⟩, ?_⟩
          · intro z
            have : some r2 ∈ l.set r6 (some r2) := List.mem_set (by omega) _
            have := mem_somes.mpr this
            rw [z] at this
            simp at this
          · rcases List.mem_or_eq_of_mem_set hj with h | h
            · exact hlt j h
            · cases h; exact hr2
          · have hix : ixD (l.map encO).length (r6 : Int) = some r6 := by
              unfold ixD
              simp
              omega
            have hset : (l.map encO).set r6 (.int r2) = (l.set r6 (some r2)).map encO := by rw [List.map_set]; rfl
            refine (evS_iteT c2).trans (evSs_one.trans ((evS_setI e5 (d0 := encLL l) rfl e6 (xs := l.map encO) rfl hix).trans ?_))
            rw [hset]
            rfl
        · rw [decide_eq_false h] at c2
          exact ⟨l, s3, ⟨hll, h, hlt⟩, (evS_iteF c2).trans rfl⟩
      obtain ⟨l', s4, hgl, t2⟩ := this
      have t3 : evS G0 (.app 3 (.var 5)) ⟨dsS m d (st.map encLL) (some (.int i)) (some (encLL l')), s4⟩ = some (.nx, ⟨dsS m d ((st ++ [l']).map encLL) (some (.int i)) (some (encLL l')), s4⟩) := by
        refine (evS_app (d0 := .list (st.map encLL)) (xs := st.map encLL) rfl rfl rfl rfl ?_).trans ?_
        · simp; unfold lim; omega
        · simp [dsS]
      exact ⟨_, _, rfl, (evSs_nx t1).trans ((evSs_nx t2).trans ((evSs_nx t3).trans rfl)), st ++ [l'], some (.int i), some (encLL l'), s4, by simp [hlen], fun x hx => by
        rcases List.mem_append.mp hx with h | h
        · exact hg x h
        · simp at h; subst h; exact hgl, rfl⟩)
  obtain ⟨ρ1, s2, st, x4, x5, sr', hlen, hg, hρ⟩ := s2
  subst hρ
  exact ⟨st, sr', by simpa using hlen, hg, runFn_of _ rfl ((evSs_nx s1).trans ((evSs_nx s2).trans (evSs_rt (ρ' := ⟨dsS m d (st.map encLL) x4 x5, sr'⟩) rfl))) rfl⟩
end
end K48
set_option linter.all false
set_option Elab.async false
set_option maxRecDepth 100000
set_option maxHeartbeats 1000000
/-! K48s: counts, rows, states led, bent forms. -/
namespace K48
open PySem Ev
section
variable {Γ : Calls} {sr : Src} {s : List ((Int × Int) × Nat)} {st : Steps} {d : Nat}
/-! ### _law_counts -/
def cntAt (s : List ((Int × Int) × Nat)) (st : Steps) (n : Nat) : Int := (s.map fun p => (wayN st n).getD p.2 0).sum
def cnS (s : List ((Int × Int) × Nat)) (st : Steps) (m : Nat) (w f : List Int) (x4 : Option D) : Slots := [some (encV s st), some (.int m), some (encW w), some (encW f), x4, none, none, none, none]
theorem ev_counts (W : Wf d s st) {m : Nat} (hm : m ≤ 1000) : runFn Γ F_law_counts [encV s st, .int m] sr = some (encW ((List.range (m + 1)).map (cntAt s st)), sr) := by
  have s1 : evS Γ (.par [2, 3] [.bin .mul [.lst [.int 1], .bi .len [.idx [.bv 0, .int 1]]], .lst []]) ⟨[some (encV s st), some (.int m), none, none, none, none, none, none, none], sr⟩ = some (.nx, ⟨cnS s st m (wayN st 0) [] none, sr⟩) := by
    simp [evS, evE, evV, getS, biD, binD, setAll, mulD_one W.n1, wayN, cnS, encW]
  have s2 := evS_for (Γ := Γ) (hd := [2, 3]) (ex := [2, 3]) (t := .nm 4) (it := .rng1 (.bin .add [.bv 1, .int 1])) (b := [.app 3 (.bi .sum [.comp [5, 6] (.tup [.nm 5, .nm 6]) (.idx [.bv 0, .int 0]) [] (.idx [.bv 2, .bv 6])]),
    .asg (.nm 2) (.comp [8] (.nm 8) (.idx [.bv 0, .int 1]) [] (.bi .sum [.comp [7] (.nm 7) (.bv 8) [.cmp .isNot [.bv 7, .non]] (.idx [.bv 2, .bv 7])]))]) (ρ := ⟨cnS s st m (wayN st 0) [] none, sr⟩) (fun i : Nat => PyData.int i) (List.range (m + 1)) (ρ1 := ⟨cnS s st m (wayN st 0) [] none, sr⟩) (evE_rng1 (n := m + 1) (evE_bin (evV_bv (d := .int m) rfl (evV_cons (e := .int 1) rfl evV_nil) rfl) rfl) (by omega)) rfl
    (fun done ρ => ∃ x4, ρ = ⟨cnS s st m (wayN st done.length) ((List.range done.length).map (cntAt s st)) x4, sr⟩) ⟨none, rfl⟩
    (fun done i rest ρ e ⟨x4, hρ⟩ => by
      subst hρ
      have hdl : done.length < m + 1 := by
        have := congrArg List.length e
        simp at this; omega
      have hlen : st.length ≤ (wayN st done.length).length := by rw [wayN_len]; exact Nat.le_refl _
      have h1 := ev_startways (Γ := Γ) (sr := sr) 5 6 2 (sl := cnS s st m (wayN st done.length) ((List.range done.length).map (cntAt s st)) (some (.int i))) (it := .idx [.bv 0, .int 0]) W (evE_idx (evV_bv (d := encV s st) rfl (evV_cons (e := .int 0) rfl evV_nil) rfl) rfl) hlen rfl rfl (by decide) (by decide) (by decide) (by simp [cnS]) (by simp [cnS]) rfl
      have t1 : evS Γ (.app 3 (.bi .sum [.comp [5, 6] (.tup [.nm 5, .nm 6]) (.idx [.bv 0, .int 0]) [] (.idx [.bv 2, .bv 6])])) ⟨cnS s st m (wayN st done.length) ((List.range done.length).map (cntAt s st)) (some (.int i)), sr⟩ = some (.nx, ⟨cnS s st m (wayN st done.length) ((List.range (done.length + 1)).map (cntAt s st)) (some (.int i)), sr⟩) := by
        refine (evS_app (d0 := encW ((List.range done.length).map (cntAt s st))) (xs := ((List.range done.length).map (cntAt s st)).map PyData.int) rfl rfl h1 rfl ?_).trans ?_
        · simp; unfold lim; omega
        · simp [cnS, encW, List.range_succ, cntAt]
      have h2 := ev_ways (Γ := Γ) (sr := sr) 7 8 2 (sl := cnS s st m (wayN st done.length) ((List.range (done.length + 1)).map (cntAt s st)) (some (.int i))) (it := .idx [.bv 0, .int 1]) W (evE_idx (evV_bv (d := encV s st) rfl (evV_cons (e := .int 1) rfl evV_nil) rfl) rfl) hlen rfl rfl rfl (by decide) (by decide) (by decide) (by simp [cnS]) (by simp [cnS]) rfl rfl
      have t2 := evS_asg1 (i := 2) h2
      refine ⟨_, _, rfl, (evSs_nx t1).trans ((evSs_nx t2).trans rfl), some (.int i), ?_⟩
      simp [cnS, wayN])
  obtain ⟨ρ1, s2, x4, hρ⟩ := s2
  subst hρ
  refine runFn_of _ rfl ((evSs_nx s1).trans ((evSs_nx s2).trans (evSs_rt (ρ' := ⟨cnS s st m (wayN st (List.range (m + 1)).length) ((List.range (List.range (m + 1)).length).map (cntAt s st)) x4, sr⟩) ?_))) rfl
  rw [List.length_range]
  rfl
/-! ### _law_rows -/
def encR (r : List Nat) : D := .tuple (r.map fun n : Nat => PyData.int n)
def rwS (d m : Nat) (f : List (List Nat)) (x3 x4 x5 : Option D) : Slots := [some (.int d), some (.int m), some (.list (f.map encR)), x3, x4, x5, none]
theorem sum_const {α : Type} (d : Nat) : ∀ l : List α, (l.map fun _ => d).sum = l.length * d
  | [] => by simp
  | x :: l => by rw [List.map_cons, List.sum_cons, sum_const d l, List.length_cons, Nat.add_mul]; omega
theorem rowsN_len (d : Nat) : ∀ m, (rowsN d m).length = d ^ m
  | 0 => by simp [rowsN]
  | m + 1 => by
    rw [rowsN, List.length_flatMap]
    simp only [List.length_map, List.length_range]
    rw [sum_const, rowsN_len d m, Nat.pow_succ]
theorem mem_rowsN {d : Nat} : ∀ {m : Nat} {r : List Nat}, r ∈ rowsN d m → r.length = m ∧ ∀ x ∈ r, x < d
  | 0, r, h => by simp [rowsN] at h; subst h; simp
  | m + 1, r, h => by
    obtain ⟨q, h1, h2⟩ := List.mem_flatMap.mp h
    obtain ⟨x, h3, rfl⟩ := List.mem_map.mp h2
    obtain ⟨h4, h5⟩ := mem_rowsN h1
    refine ⟨by simp [h4], fun y hy => ?_⟩
    rcases List.mem_append.mp hy with z | z
    · exact h5 y z
    · simp at z; subst z; exact List.mem_range.mp h3
theorem ev_rows {m : Nat} (hd : d ≤ 1000) (hm : m ≤ 1000) (hlim : ∀ k, k ≤ m → d ^ k ≤ 10000) : runFn Γ F_law_rows [.int d, .int m] sr = some (.list ((rowsN d m).map encR), sr) := by
  have s1 : evS Γ (.asg (.nm 2) (.lst [.tup []])) ⟨[some (.int d), some (.int m), none, none, none, none, none], sr⟩ = some (.nx, ⟨rwS d m (rowsN d 0) none none none, sr⟩) := rfl
  have s2 := evS_for (Γ := Γ) (hd := []) (ex := []) (t := .nm 3) (it := .rng1 (.var 1)) (b := [.asg (.nm 4) (.lst []), .forr [4] [4] (.nm 5) (.var 2) [.asg (.nm 4) (.bin .add [.bv 4, .comp [6] (.nm 6) (.rng1 (.var 0)) [] (.bin .add [.bv 5, .tup [.var 6]])])], .asg (.nm 2) (.var 4)]) (ρ := ⟨rwS d m (rowsN d 0) none none none, sr⟩) (fun i : Nat => PyData.int i) (List.range m) (ρ1 := ⟨rwS d m (rowsN d 0) none none none, sr⟩) (evE_rng1 (n := m) rfl (by omega)) rfl
    (fun done ρ => ∃ x3 x4 x5, ρ = ⟨rwS d m (rowsN d done.length) x3 x4 x5, sr⟩) ⟨none, none, none, rfl⟩
    (fun done i rest ρ e ⟨x3, x4, x5, hρ⟩ => by
      subst hρ
      have hdl : done.length < m := by
        have := congrArg List.length e
        simp at this; omega
      have t1 : evS Γ (.asg (.nm 4) (.lst [])) ⟨rwS d m (rowsN d done.length) (some (.int i)) x4 x5, sr⟩ = some (.nx, ⟨rwS d m (rowsN d done.length) (some (.int i)) (some (.list (([] : List (List Nat)).map encR))) x5, sr⟩) := rfl
      have t2 := evS_for (Γ := Γ) (hd := [4]) (ex := [4]) (t := .nm 5) (it := .var 2) (b := [.asg (.nm 4) (.bin .add [.bv 4, .comp [6] (.nm 6) (.rng1 (.var 0)) [] (.bin .add [.bv 5, .tup [.var 6]])])]) (ρ := ⟨rwS d m (rowsN d done.length) (some (.int i)) (some (.list (([] : List (List Nat)).map encR))) x5, sr⟩) encR (rowsN d done.length) (d := .list ((rowsN d done.length).map encR)) (ρ1 := ⟨rwS d m (rowsN d done.length) (some (.int i)) (some (.list (([] : List (List Nat)).map encR))) x5, sr⟩) rfl rfl
        (fun dn ρ => ∃ x5, ρ = ⟨rwS d m (rowsN d done.length) (some (.int i)) (some (.list ((dn.flatMap fun r => (List.range d).map fun x => r ++ [x]).map encR))) x5, sr⟩) ⟨x5, rfl⟩
        (fun dn r rst ρ e2 ⟨y5, hρ⟩ => by
          subst hρ
          have hr := (mem_rowsN (d := d) (m := done.length) (r := r) (by rw [e2]; simp)).1
          refine ⟨rwS d m (rowsN d done.length) (some (.int i)) (some (.list ((dn.flatMap fun r => (List.range d).map fun x => r ++ [x]).map encR))) (some (encR r)), _, rfl, ?_, some (encR r), rfl⟩
          have c1 := evE_compA (Γ := Γ) (s := sr) (own := [6]) (t := .nm 6) (it := .rng1 (.var 0)) (elt := .bin .add [.bv 5, .tup [.var 6]]) (sl0 := rwS d m (rowsN d done.length) (some (.int i)) (some (.list ((dn.flatMap fun r => (List.range d).map fun x => r ++ [x]).map encR))) (some (encR r))) (sl := rwS d m (rowsN d done.length) (some (.int i)) (some (.list ((dn.flatMap fun r => (List.range d).map fun x => r ++ [x]).map encR))) (some (encR r)))
            (fun i : Nat => PyData.int i) (fun x => encR (r ++ [x])) (List.range d) (evE_rng1 (n := d) rfl (by omega)) rfl rfl (fun x hx => by
              refine ⟨[some (.int d), some (.int m), some (.list ((rowsN d done.length).map encR)), some (.int i), some (.list ((dn.flatMap fun r => (List.range d).map fun x => r ++ [x]).map encR)), some (encR r), some (.int x)], rfl, ?_, rfl⟩
              refine evE_bin (evV_bv (d := encR r) rfl (evV_cons (evE_tup (evV_cons (e := .var 6) (d := .int x) rfl evV_nil)) evV_nil) rfl) ?_
              simp [binD, encR, addD, hr, lim]
              omega) (by simp; unfold lim; omega) rfl
          have hl2 : (dn.flatMap fun r => (List.range d).map fun x => r ++ [x]).length = dn.length * d := by
            rw [List.length_flatMap]; simp only [List.length_map, List.length_range]; exact sum_const d dn
          have hdn : dn.length < d ^ done.length := by
            have := congrArg List.length e2
            rw [rowsN_len] at this
            simp at this; omega
          have hb : dn.length * d + d ≤ d ^ (done.length + 1) := by
            rw [Nat.pow_succ, ← Nat.succ_mul]
            exact Nat.mul_le_mul_right _ hdn
          have hb2 := hlim (done.length + 1) (by omega)
          have c2 : evE Γ (.bin .add [.bv 4, .comp [6] (.nm 6) (.rng1 (.var 0)) [] (.bin .add [.bv 5, .tup [.var 6]])]) ⟨rwS d m (rowsN d done.length) (some (.int i)) (some (.list ((dn.flatMap fun r => (List.range d).map fun x => r ++ [x]).map encR))) (some (encR r)), sr⟩ = some (.list (((dn ++ [r]).flatMap fun r => (List.range d).map fun x => r ++ [x]).map encR), ⟨rwS d m (rowsN d done.length) (some (.int i)) (some (.list ((dn.flatMap fun r => (List.range d).map fun x => r ++ [x]).map encR))) (some (encR r)), sr⟩) := by
            refine evE_bin (evV_bv (d := .list ((dn.flatMap fun r => (List.range d).map fun x => r ++ [x]).map encR)) rfl (evV_cons c1 evV_nil) rfl) ?_
            have hcond : ((dn.flatMap fun r => (List.range d).map fun x => r ++ [x]).map encR).length + ((List.range d).map fun x => encR (r ++ [x])).length ≤ lim := by
              rw [List.length_map, hl2]
              simp
              unfold lim; omega
            show (if _ then _ else _) = _
            rw [if_pos hcond]
            simp [List.flatMap_append]
          exact evSs_one.trans ((evS_asg1 c2).trans rfl))
      obtain ⟨ρ2, t2, y5, hρ2⟩ := t2
      subst hρ2
      refine ⟨_, _, rfl, (evSs_nx t1).trans ((evSs_nx t2).trans ((evSs_nx (evS_asg1 (i := 2) (e := .var 4) (d := .list ((rowsN d (done.length + 1)).map encR)) rfl)).trans rfl)), some (.int i), some (.list ((rowsN d (done.length + 1)).map encR)), y5, ?_⟩
      simp [rwS]
      rfl)
  obtain ⟨ρ1, s2, x3, x4, x5, hρ⟩ := s2
  subst hρ
  refine runFn_of _ rfl ((evSs_nx s1).trans ((evSs_nx s2).trans (evSs_rt (ρ' := ⟨rwS d m (rowsN d (List.range m).length) x3 x4 x5, sr⟩) ?_))) rfl
  rw [List.length_range]
  rfl
/-! ### state_led -/
def slS (s : List ((Int × Int) × Nat)) (st : Steps) (l : Int × Int) (r : List Nat) (o : Option Nat) (x4 : Option D) : Slots := [some (encV s st), some (pairD l), some (encR r), some (encO o), x4]
theorem encA_dict (s : List ((Int × Int) × Nat)) (nd : (s.map (·.1)).Nodup) : dictB [encA s] = some (.dict (dmap pairD (s.map fun p => (p.1, .int p.2)))) := by
  have := dictB_nodup pairD_enc (fun p : (Int × Int) × Nat => p.1) (fun p => PyData.int p.2) s nd
  exact this
theorem ev_led1 {Γ : Calls} {sl : Slots} (iv is ix : Nat) {o : Option Nat} {x : Nat} (hok : Ok st) (hd : ∀ l ∈ st, l.length = d) (ho : ∀ h, o = some h → h < st.length) (hx : x < d) (hv : getS sl iv = some (encV s st)) (hs : getS sl is = some (encO o)) (hxx : getS sl ix = some (.int x)) :
    evE Γ (.ite (.cmp .isNot [.bv is, .non]) (.idx [.idx [.idx [.bv iv, .int 1], .bv is], .bv ix]) (.non)) ⟨sl, sr⟩ = some (encO (led1 st o x), ⟨sl, sr⟩) := by
  cases o with
  | none => exact evE_iteF (evE_cmp (b := false) (evV_bv hs (evV_cons (e := .non) rfl evV_nil) hs) rfl)
  | some h =>
    have hh := ho h rfl
    have hl := hd _ (getD_mem hh)
    refine (evE_iteT (evE_cmp (b := true) (evV_bv hs (evV_cons (e := .non) rfl evV_nil) hs) rfl)).trans ?_
    refine evE_idx (evV_cons (evE_idx (z := encL (st.getD h [])) (evV_cons (evE_idx (z := encS st) (evV_bv hv (evV_cons (e := .int 1) rfl evV_nil) hv) rfl) (evV_bv hs evV_nil hs)) (atD_S hh)) (evV_bv hxx evV_nil hxx)) ?_
    have : x < ((st.getD h []).map encO).length := by rw [List.length_map, hl]; exact hx
    unfold encL
    rw [atD_natT this]
    have h2 : x < (st.getD h []).length := by rw [hl]; exact hx
    show some (((st.getD h []).map encO).getD x .none) = some (encO ((st.getD h []).getD x none))
    generalize st.getD h [] = q at h2
    rw [List.getD_eq_getElem?_getD, List.getD_eq_getElem?_getD, List.getElem?_map, List.getElem?_eq_getElem h2]
    rfl
theorem led_lt (hok : Ok st) {o : Option Nat} (ho : ∀ h, o = some h → h < st.length) : ∀ (r : List Nat) (h : Nat), led st o r = some h → h < st.length := by
  intro r
  induction r generalizing o with
  | nil => exact ho
  | cons x r ih =>
    refine ih (o := led1 st o x) fun h e => ?_
    cases o with
    | none => simp [led1] at e
    | some g =>
      have hg := ho g rfl
      simp only [led1, Option.bind_some] at e
      refine hok _ (getD_mem hg) h ?_
      rw [List.getD_eq_getElem?_getD] at e
      cases hx : (st.getD g [])[x]? with
      | none => rw [hx] at e; simp at e
      | some w =>
        rw [hx] at e
        simp at e
        subst e
        exact List.mem_of_getElem? hx
theorem ev_state_led (W : Wf d s st) (nd : (s.map (·.1)).Nodup) {l : Int × Int} {r : List Nat} {o : Option Nat} (hr : ∀ x ∈ r, x < d) (ho : aget (s.map fun p => (p.1, PyData.int p.2)) l = o.map fun h : Nat => PyData.int h) (ho2 : ∀ h, o = some h → h < st.length) :
    runFn Γ Fstate_led [encV s st, pairD l, encR r] sr = some (encO (led st o r), sr) := by
  have hget : get1B [.dict (dmap pairD (s.map fun p => (p.1, .int p.2))), pairD l] = some (encO o) := by
    have h1 := okK_dmap pairD_enc (s.map fun p => (p.1, PyData.int p.2)) l
    have h2 := dget_dmap pairD_enc (s.map fun p => (p.1, PyData.int p.2)) l
    rw [ho] at h2
    simp only [get1B, h1, h2, if_true]
    cases o <;> rfl
  have s1 : evS Γ (.asg (.nm 3) (.bi .get1 [.bi .dict [.idx [.bv 0, .int 0]], .bv 1])) ⟨[some (encV s st), some (pairD l), some (encR r), none, none], sr⟩ = some (.nx, ⟨slS s st l r o none, sr⟩) :=
    evS_asg1 (evE_bi (f := .get1) (evV_cons (evE_bi1 (f := .dict) (evE_idx (z := encA s) (evV_bv (d := encV s st) rfl (evV_cons (e := .int 0) rfl evV_nil) rfl) rfl) (encA_dict s nd)) (evV_bv (d := pairD l) rfl evV_nil rfl)) hget)
  have s2 := evS_for (Γ := Γ) (hd := []) (ex := []) (t := .nm 4) (it := .var 2) (b := [.asg (.nm 3) (.ite (.cmp .isNot [.bv 3, .non]) (.idx [.idx [.idx [.bv 0, .int 1], .bv 3], .bv 4]) (.non))]) (ρ := ⟨slS s st l r o none, sr⟩) (fun n : Nat => PyData.int n) r (d := encR r) (ρ1 := ⟨slS s st l r o none, sr⟩) rfl rfl
    (fun done ρ => ∃ x4, ρ = ⟨slS s st l r (led st o done) x4, sr⟩) ⟨none, rfl⟩
    (fun done x rest ρ e ⟨x4, hρ⟩ => by
      subst hρ
      refine ⟨slS s st l r (led st o done) (some (.int x)), _, rfl, ?_, some (.int x), rfl⟩
      have h1 := ev_led1 (Γ := Γ) (sr := sr) (sl := slS s st l r (led st o done) (some (.int x))) 0 3 4 (o := led st o done) (x := x) W.ok W.hd (led_lt W.ok ho2 done) (hr x (by rw [e]; simp)) rfl rfl rfl
      have h2 : led st o (done ++ [x]) = led1 st (led st o done) x := by simp [led, List.foldl_append]
      rw [h2]
      exact evSs_one.trans ((evS_asg1 h1).trans rfl))
  obtain ⟨ρ1, s2, x4, hρ⟩ := s2
  subst hρ
  exact runFn_of _ rfl ((evSs_nx s1).trans ((evSs_nx s2).trans (evSs_rt (ρ' := ⟨slS s st l r (led st o r) x4, sr⟩) rfl))) rfl
end
end K48
set_option linter.all false
set_option Elab.async false
set_option maxRecDepth 100000
set_option maxHeartbeats 1000000
/-! K48t: the bent forms of the law. -/
namespace K48
open PySem Ev
section
variable {Γ : Calls} {sr : Src} {s : List ((Int × Int) × Nat)} {st : Steps} {d : Nat}
def bents (s : List ((Int × Int) × Nat)) (st : Steps) (d : Nat) : List D := [.tuple [encA s.reverse, encS st], .tuple [encA (s ++ s.take 1), encS st], .tuple [encA s, encS (st ++ st.take 1)], .tuple [.list (s.map encP), encS st],
  .tuple [encA s, encS st, .tuple []], .tuple [encA (s.take 1), encS (st ++ [List.replicate d none])], .tuple [encA s, .tuple []], .none, .tuple [encA [((0, 0), 9)], encS st], .tuple [encA s, encS (st.map fun l => l ++ [none])], .str (Str.ofString "x"), .tuple []]
theorem slc1 {α : Type} (f : α → D) (xs : List α) : slcV false true [.tuple (xs.map f), .int 1] = some (.tuple ((xs.take 1).map f)) := by
  show slcD (.tuple (xs.map f)) none (some 1) = _
  unfold slcD cutD sIxD
  simp only [if_neg (show ¬ ((1 : Int) < 0) by decide)]
  cases xs with
  | nil => simp
  | cons x xs =>
    have : min (Int.toNat 1) (List.map f (x :: xs)).length = 1 := by simp
    simp [this]
theorem addT {α : Type} (f : α → D) (xs ys : List α) (h : xs.length + ys.length ≤ lim) : binD .add (.tuple (xs.map f)) (.tuple (ys.map f)) = some (.tuple ((xs ++ ys).map f)) := by
  show (if _ then _ else _) = _
  rw [if_pos (by simpa using h)]
  simp
def bnS (s : List ((Int × Int) × Nat)) (st : Steps) (d : Nat) (x5 : Option D) : Slots := [some .none, some (encV s st), some (.int d), some (encA s), some (encS st), x5, none]
theorem addLL {xs ys : List D} (h : xs.length + ys.length ≤ lim) : binD .add (.list xs) (.list ys) = some (.list (xs ++ ys)) := by
  show (if _ then _ else _) = _
  rw [if_pos h]
theorem ev_bent (hd : d ≤ 1000) (hs : s.length ≤ 900) (hst : st.length ≤ 900) (hl : ∀ l ∈ st, l.length ≤ 900) : ∃ x s', x ∈ bents s st d ∧ runFn G1 F_law_bent [encV s st, .int d] sr = some (x, s') := by
  have v3 : ∀ {x5 : Option D}, evE G1 (.var 3) ⟨bnS s st d x5, sr⟩ = some (encA s, ⟨bnS s st d x5, sr⟩) := rfl
  have v4 : ∀ {x5 : Option D}, evE G1 (.var 4) ⟨bnS s st d x5, sr⟩ = some (encS st, ⟨bnS s st d x5, sr⟩) := rfl
  have s1 : evS G1 (.asg (.tup [.nm 3, .nm 4]) (.var 1)) ⟨[some .none, some (encV s st), some (.int d), none, none, none, none], sr⟩ = some (.nx, ⟨bnS s st d none, sr⟩) := rfl
  have hcut3 : ∀ {x5 : Option D}, evE G1 (.slc false true [.bv 3, .int 1]) ⟨bnS s st d x5, sr⟩ = some (encA (s.take 1), ⟨bnS s st d x5, sr⟩) := evE_slc (evV_bv (d := encA s) rfl (evV_cons (e := .int 1) rfl evV_nil) rfl) (slc1 encP s)
  have hcut4 : ∀ {x5 : Option D}, evE G1 (.slc false true [.bv 4, .int 1]) ⟨bnS s st d x5, sr⟩ = some (encS (st.take 1), ⟨bnS s st d x5, sr⟩) := evE_slc (evV_bv (d := encS st) rfl (evV_cons (e := .int 1) rfl evV_nil) rfl) (slc1 encL st)
  have ht1 : (s.take 1).length ≤ 1 := by simp; omega
  have ht2 : (st.take 1).length ≤ 1 := by simp; omega
  have s2 : evS G1 (.asg (.nm 5) (.lst [.tup [.rev [.bv 3], .var 4], .tup [.bin .add [.bv 3, .slc false true [.bv 3, .int 1]], .var 4], .tup [.var 3, .bin .add [.bv 4, .slc false true [.bv 4, .int 1]]], .tup [.bi .list [.bv 3], .var 4]])) ⟨bnS s st d none, sr⟩ = some (.nx, ⟨bnS s st d (some (.list ((bents s st d).take 4))), sr⟩) := by
    refine (evS_asg1 (evE_lst (evV_cons (evE_tup (evV_cons (evE_rev (z := encA s.reverse) (evV_bv (d := encA s) rfl evV_nil rfl) ?_) (evV_cons v4 evV_nil))) (evV_cons (evE_tup (evV_cons (evE_bin (z := encA (s ++ s.take 1)) (evV_bv (d := encA s) rfl (evV_cons hcut3 evV_nil) rfl) (addT encP _ _ (by unfold lim; omega))) (evV_cons v4 evV_nil)))
      (evV_cons (evE_tup (evV_cons v3 (evV_cons (evE_bin (z := encS (st ++ st.take 1)) (evV_bv (d := encS st) rfl (evV_cons hcut4 evV_nil) rfl) (addT encL _ _ (by unfold lim; omega))) evV_nil))) (evV_cons (evE_tup (evV_cons (evE_bi1' (f := .list) (i := 3) (d := encA s) rfl rfl) (evV_cons v4 evV_nil))) evV_nil)))))).trans rfl
    simp [revD, encA]
  have s3 : evS G1 (.asg (.nm 5) (.bin .add [.bv 5, .lst [.tup [.var 3, .var 4, .tup []], .tup [.slc false true [.bv 3, .int 1], .bin .add [.bv 4, .tup [.bin .mul [.tup [.non], .bv 2]]]], .tup [.var 3, .tup []], .non]])) ⟨bnS s st d (some (.list ((bents s st d).take 4))), sr⟩ = some (.nx, ⟨bnS s st d (some (.list ((bents s st d).take 8))), sr⟩) := by
    have hmul : binD .mul (.tuple [.none]) (.int d) = some (encL (List.replicate d none)) := by
      show (if _ then _ else _) = _
      rw [if_pos (by refine ⟨by decide, ?_, ?_⟩ <;> omega)]
      congr 2
      simp [encO]
    refine (evS_asg1 (evE_bin (evV_bv (d := .list ((bents s st d).take 4)) rfl (evV_cons (evE_lst (evV_cons (evE_tup (evV_cons v3 (evV_cons v4 (evV_cons (e := .tup []) (d := .tuple []) rfl evV_nil)))) (evV_cons (evE_tup (evV_cons hcut3 (evV_cons (evE_bin (z := encS (st ++ [List.replicate d none])) (evV_bv (d := encS st) rfl (evV_cons (evE_tup (evV_cons (evE_bin (evV_cons (e := .tup [.non]) (d := .tuple [.none]) rfl (evV_bv (d := .int d) rfl evV_nil rfl)) hmul) evV_nil)) evV_nil) rfl) (addT encL st [List.replicate d none] (by simp; unfold lim; omega))) evV_nil)))
      (evV_cons (evE_tup (evV_cons v3 (evV_cons (e := .tup []) (d := .tuple []) rfl evV_nil))) (evV_cons (e := .non) (d := .none) rfl evV_nil))))) evV_nil) rfl) (addLL (by simp [bents, lim])))).trans rfl
  have s4 : evS G1 (.app 5 (.tup [.tup [.tup [.tup [.int 0, .int 0], .int 9]], .var 4])) ⟨bnS s st d (some (.list ((bents s st d).take 8))), sr⟩ = some (.nx, ⟨bnS s st d (some (.list ((bents s st d).take 9))), sr⟩) :=
    (evS_app (d0 := .list ((bents s st d).take 8)) (d := .tuple [encA [((0, 0), 9)], encS st]) (xs := (bents s st d).take 8) rfl rfl rfl rfl (by simp [bents, lim])).trans rfl
  have hlong := evE_bi1 (f := .tuple) (z := encS (st.map fun l => l ++ [none])) (evE_compA (Γ := G1) (s := sr) (own := [6]) (t := .nm 6) (it := .bv 4) (elt := .bin .add [.bv 6, .tup [.non]]) (sl0 := bnS s st d (some (.list ((bents s st d).take 9)))) (sl := bnS s st d (some (.list ((bents s st d).take 9)))) (d := encS st) encL (fun l => encL (l ++ [none])) st rfl rfl rfl (fun l hm => by
      refine ⟨[some .none, some (encV s st), some (.int d), some (encA s), some (encS st), some (.list ((bents s st d).take 9)), some (encL l)], rfl, ?_, rfl⟩
      exact evE_bin (evV_bv (d := encL l) rfl (evV_cons (e := .tup [.non]) (d := .tuple ([(none : Option Nat)].map encO)) rfl evV_nil) rfl) (addT encO l [none] (by have := hl l hm; simp; unfold lim; omega))) (by unfold lim; omega) rfl) (by simp [biD, tupleB, encS, List.map_map])
  have s5 : evS G1 (.asg (.nm 5) (.bin .add [.bv 5, .lst [.tup [.var 3, .bi .tuple [.comp [6] (.nm 6) (.bv 4) [] (.bin .add [.bv 6, .tup [.non]])]], .str "x", .tup []]])) ⟨bnS s st d (some (.list ((bents s st d).take 9))), sr⟩ = some (.nx, ⟨bnS s st d (some (.list (bents s st d))), sr⟩) :=
    (evS_asg1 (evE_bin (evV_bv (d := .list ((bents s st d).take 9)) rfl (evV_cons (evE_lst (evV_cons (evE_tup (evV_cons v3 (evV_cons hlong evV_nil))) (evV_cons (e := .str "x") rfl (evV_cons (e := .tup []) (d := .tuple []) rfl evV_nil)))) evV_nil) rfl) (addLL (by simp [bents, lim])))).trans rfl
  obtain ⟨x, s', hx, e6⟩ := ev_of (sr := sr) (xs := bents s st d) (by simp [bents]) (by simp [bents])
  have c6 : G1 "_law_of" [.list (bents s st d)] sr = some (x, s') := by
    rw [show G1 "_law_of" = runFn G0 F_law_of by simp [G1]]
    exact e6
  have s6 := evS_ret (evE_callS (Γ := G1) (ρ := ⟨bnS s st d (some (.list (bents s st d))), sr⟩) (f := "_law_of") (i := 0) (d0 := .none) rfl (evV_cons (e := .var 5) (d := .list (bents s st d)) rfl evV_nil) c6)
  exact ⟨x, s', hx, runFn_of _ rfl ((evSs_nx s1).trans ((evSs_nx s2).trans ((evSs_nx s3).trans ((evSs_nx s4).trans ((evSs_nx s5).trans (evSs_rt s6)))))) rfl⟩
end
end K48
set_option linter.all false
set_option Elab.async false
set_option maxRecDepth 100000
set_option maxHeartbeats 1000000
/-! K48u: what is due of bent forms. -/
namespace K48
open PySem Ev
section
variable {Γ : Calls} {sr : Src} {s : List ((Int × Int) × Nat)} {st : Steps} {d : Nat}
/-! ### texts -/
theorem rdb_pair (p : Int × Int) : rdb 1 (pairD p) := fun x hx => by
  simp at hx
  rcases hx with rfl | rfl <;> trivial
theorem rdb_O {n : Nat} (o : Option Nat) : rdb n (encO o) := by
  cases o <;> cases n <;> trivial
theorem rdb_P (p : (Int × Int) × Nat) : rdb 2 (encP p) := fun x hx => by
  simp at hx
  rcases hx with rfl | rfl
  · exact rdb_pair _
  · trivial
theorem rdb_A : rdb 3 (encA s) := fun x hx => by
  obtain ⟨p, _, rfl⟩ := List.mem_map.mp hx
  exact rdb_P p
theorem rdb_AL : rdb 3 (.list (s.map encP)) := fun x hx => by
  obtain ⟨p, _, rfl⟩ := List.mem_map.mp hx
  exact rdb_P p
theorem rdb_S : rdb 3 (encS st) := fun x hx => by
  obtain ⟨l, _, rfl⟩ := List.mem_map.mp hx
  show rdb 2 (.tuple _)
  intro y hy
  obtain ⟨o, _, rfl⟩ := List.mem_map.mp hy
  exact rdb_O o
theorem rdb_two {n : Nat} {a b : D} (h1 : rdb n a) (h2 : rdb n b) : rdb (n + 1) (.tuple [a, b]) := fun x hx => by
  simp at hx
  rcases hx with rfl | rfl
  · exact h1
  · exact h2
theorem rdb_V : rdb 4 (encV s st) := rdb_two rdb_A rdb_S
theorem rdb_nil {n : Nat} : rdb (n + 1) (.tuple []) := fun x hx => by simp at hx
/-- states and lots that are small -/
def smallS (s : List ((Int × Int) × Nat)) : Prop := s.length ≤ 20 ∧ ∀ p ∈ s, p.1.1.natAbs < 100 ∧ p.1.2.natAbs < 100 ∧ p.2 < 100
def smallT (st : Steps) : Prop := st.length ≤ 20 ∧ ∀ l ∈ st, l.length ≤ 20 ∧ ∀ j, some j ∈ l → j < 100
theorem rp_int {k : Nat} {i : Int} (h : i.natAbs < 100) : Rp k 4 (.int i) := (Rp.int (j := 2) (by decide) (by decide) h).mono (by decide) (Nat.le_refl _)
theorem rp_O {k : Nat} {o : Option Nat} (h : ∀ j, o = some j → j < 100) : Rp k 4 (encO o) := by
  cases o with
  | none => exact Rp.none (Nat.le_refl _)
  | some j => exact rp_int (by have := h j rfl; omega)
theorem rp_P {p : (Int × Int) × Nat} (h : p.1.1.natAbs < 100 ∧ p.1.2.natAbs < 100 ∧ p.2 < 100) : Rp 2 50 (encP p) := by
  have h1 : Rp 1 15 (pairD p.1) := Rp.tup (k := 0) (N := 4) (c := 2) (fun x hx => by
    simp at hx
    rcases hx with rfl | rfl
    · exact rp_int h.1
    · exact rp_int h.2.1) (by simp)
  refine (Rp.tup (k := 1) (N := 15) (c := 2) (xs := [pairD p.1, .int p.2]) (fun x hx => ?_) (by simp)).mono (by decide) (Nat.le_refl _)
  simp at hx
  rcases hx with rfl | rfl
  · exact h1
  · exact (rp_int (by omega)).mono (by decide) (Nat.le_refl _)
theorem rp_A (h : smallS s) : Rp 3 2000 (encA s) := (Rp.tup (k := 2) (N := 50) (c := 20) (fun x hx => by
  obtain ⟨p, hp, rfl⟩ := List.mem_map.mp hx
  exact rp_P (h.2 p hp)) (by rw [List.length_map]; exact h.1)).mono (by decide) (Nat.le_refl _)
theorem rp_AL (h : smallS s) : Rp 3 2000 (.list (s.map encP)) := (Rp.lst (k := 2) (N := 50) (c := 20) (fun x hx => by
  obtain ⟨p, hp, rfl⟩ := List.mem_map.mp hx
  exact rp_P (h.2 p hp)) (by rw [List.length_map]; exact h.1)).mono (by decide) (Nat.le_refl _)
theorem rp_L {l : Line} (h : l.length ≤ 20 ∧ ∀ j, some j ∈ l → j < 100) : Rp 1 150 (encL l) := (Rp.tup (k := 0) (N := 4) (c := 20) (fun x hx => by
  obtain ⟨o, ho, rfl⟩ := List.mem_map.mp hx
  exact rp_O fun j e => h.2 j (e ▸ ho)) (by rw [List.length_map]; exact h.1)).mono (by decide) (Nat.le_refl _)
theorem rp_S (h : smallT st) : Rp 3 4000 (encS st) := (Rp.tup (k := 2) (N := 150) (c := 20) (fun x hx => by
  obtain ⟨l, hl, rfl⟩ := List.mem_map.mp hx
  exact (rp_L (h.2 l hl)).mono (Nat.le_refl _) (by decide)) (by rw [List.length_map]; exact h.1)).mono (by decide) (Nat.le_refl _)
theorem rp_two {a b : D} (h1 : Rp 3 4000 a) (h2 : Rp 3 4000 b) : Rp 4 20000 (.tuple [a, b]) := (Rp.tup (k := 3) (N := 4000) (c := 2) (fun x hx => by
  simp at hx
  rcases hx with rfl | rfl
  · exact h1
  · exact h2) (by simp)).mono (by decide) (Nat.le_refl _)
theorem rp_V (h1 : smallS s) (h2 : smallT st) : Rp 4 20000 (encV s st) := rp_two ((rp_A h1).mono (by decide) (Nat.le_refl _)) (rp_S h2)
theorem rp_nil {k N : Nat} (h : 3 ≤ N) : Rp (k + 1) N (.tuple []) := (Rp.tup (k := k) (N := 0) (c := 0) (fun x hx => by simp at hx) (by simp)).mono (by omega) (Nat.le_refl _)
theorem encA_inj {s s' : List ((Int × Int) × Nat)} (h : encA s = encA s') : s.length = s'.length := by
  unfold encA at h
  injection h with h
  have := congrArg List.length h
  simpa using this
theorem encS_inj {t t' : Steps} (h : encS t = encS t') : t.length = t'.length := by
  unfold encS at h
  injection h with h
  have := congrArg List.length h
  simpa using this
theorem tup2_inj {a b a' b' : D} (h : PyData.tuple [a, b] = .tuple [a', b']) : a = a' ∧ b = b' := by
  injection h with h
  simp at h
  exact h
/-- what is due of a form: taken just if it is the very one -/
structure Due (d : Nat) (V : D) (short : Bool) (x : D) : Prop where
  ic : ∀ sr : Src, ∃ s1, runFn G2 Fis_complete [.int d, x] sr = some (.bool (short && decide (x.shown = V.shown)), s1)
  rp : ∃ k N, k ≤ 60 ∧ N ≤ 100000 ∧ Rp k N x
theorem Due.no {V x : D} {short : Bool} (h : ∀ sr : Src, ∃ s1, runFn G2 Fis_complete [.int d, x] sr = some (.bool false, s1)) (hs : x.shown ≠ V.shown) (hr : ∃ k N, k ≤ 60 ∧ N ≤ 100000 ∧ Rp k N x) : Due d V short x := by
  refine ⟨fun sr => ?_, hr⟩
  obtain ⟨s1, e⟩ := h sr
  refine ⟨s1, ?_⟩
  rw [decide_eq_false hs, Bool.and_false]
  exact e
section
variable {P line : List Nat} {k : Nat}
theorem LV.smallS (V : LV d s st P line k) (h4 : s.length ≤ 4) (hc : ∀ p ∈ s, p.1.1.natAbs < 3 ∧ p.1.2.natAbs < 3) : smallS (sV V) := by
  refine ⟨by rw [V.slen]; omega, fun p hp => ?_⟩
  have h1 := V.wf.hs p hp
  have h2 := V.t6
  have : p.1 ∈ (sV V).map (·.1) := List.mem_map_of_mem hp
  rw [V.lot'] at this
  obtain ⟨q, hq, e⟩ := List.mem_map.mp this
  have := hc q hq
  rw [e] at this
  omega
theorem LV.smallT (V : LV d s st P line k) (hd : d ≤ 5) : smallT (tV V) := by
  refine ⟨by have := V.t6; omega, fun l hl => ?_⟩
  have := V.goodV l hl
  refine ⟨by rw [this.1]; omega, fun j hj => ?_⟩
  have h1 := this.2.2 j hj
  have h2 := V.t6
  unfold tV at h2
  omega
theorem LV.due (V : LV d s st P line k) (hd : d ≤ 5) (h4 : s.length ≤ 4) (hS : K48.smallS (sV V)) (hT : K48.smallT (tV V)) : ∀ x ∈ bents (sV V) (tV V) d, Due d (encV (sV V) (tV V)) (decide ((sV V).length < 2)) x := by
  have hlen := V.slen
  have h6 := V.t6
  have w := V.wf
  obtain ⟨p, r, ep⟩ := V.cons
  have et : ∃ l q, tV V = l :: q := by
    cases h : tV V with
    | nil => have := w.n0; rw [h] at this; simp at this
    | cons l q => exact ⟨l, q, rfl⟩
  obtain ⟨l, q, et⟩ := et
  have hS1 : K48.smallS ((sV V).take 1) := ⟨by simp; omega, fun x hx => hS.2 x (List.mem_of_mem_take hx)⟩
  have A4 := (rp_A hS).mono (N' := 4000) (by decide) (Nat.le_refl _)
  have S4 := rp_S hT
  have two : ∀ {a b : D}, Rp 3 4000 a → Rp 3 4000 b → ∃ k N, k ≤ 60 ∧ N ≤ 100000 ∧ Rp k N (.tuple [a, b]) := fun h1 h2 => ⟨4, 20000, by decide, by decide, rp_two h1 h2⟩
  have ne2 : ∀ {a b : D}, rdb 3 a → rdb 3 b → (a = encA (sV V) → b = encS (tV V) → False) → (PyData.tuple [a, b]).shown ≠ (encV (sV V) (tV V)).shown := fun h1 h2 hn e => by
    obtain ⟨e1, e2⟩ := tup2_inj (shown_inj (rdb_two h1 h2) rdb_V e)
    exact hn e1 e2
  intro x hx
  unfold bents at hx
  simp only [List.mem_cons, List.not_mem_nil, or_false] at hx
  rcases hx with rfl | rfl | rfl | rfl | rfl | rfl | rfl | rfl | rfl | rfl | rfl | rfl
  · -- starts the other way round
    have hR : K48.smallS (sV V).reverse := ⟨by rw [List.length_reverse]; exact hS.1, fun x hx => hS.2 x (by simpa using hx)⟩
    have rp := two ((rp_A hR).mono (N' := 4000) (by decide) (Nat.le_refl _)) S4
    by_cases h2 : (sV V).length < 2
    · have er : r = [] := by
        rw [ep] at h2
        cases r with
        | nil => rfl
        | cons => simp at h2; omega
      have : (sV V).reverse = sV V := by rw [ep, er]; rfl
      refine ⟨fun sr => ?_, rp⟩
      rw [this]
      obtain ⟨s1, e⟩ := V.complete (sr := sr)
      refine ⟨s1, ?_⟩
      rw [decide_eq_true h2]
      have : decide ((PyData.tuple [encA (sV V), encS (tV V)]).shown = (encV (sV V) (tV V)).shown) = true := decide_eq_true rfl
      rw [this]
      exact e
    · refine ⟨fun sr => ?_, rp⟩
      obtain ⟨s1, e⟩ := bent_rev (sr := sr) V (by omega)
      refine ⟨s1, ?_⟩
      rw [decide_eq_false h2, Bool.false_and]
      exact e
  · -- the first start once more
    have e1 : (sV V).take 1 = [p] := by rw [ep]; rfl
    rw [e1]
    refine Due.no (fun sr => by have := bent_twice (sr := sr) V ep; rw [ep]; exact this) (ne2 rdb_A rdb_S fun a _ => by have := encA_inj a; simp at this) (two ((rp_A (s := sV V ++ [p]) ⟨?_, fun x hx => ?_⟩).mono (N' := 4000) (by decide) (Nat.le_refl _)) S4)
    · have := hS.1
      simp; omega
    · rcases List.mem_append.mp hx with h | h
      · exact hS.2 x h
      · simp at h; subst h; exact hS.2 x (by rw [ep]; simp)
  · -- the first state once more
    have e1 : (tV V).take 1 = [l] := by rw [et]; rfl
    rw [e1]
    refine Due.no (fun sr => by have := bent_state (sr := sr) V et; rw [et]; exact this) (ne2 rdb_A rdb_S fun _ b => by have := encS_inj b; simp at this) (two A4 (rp_S (st := tV V ++ [l]) ⟨by simp; omega, fun x hx => ?_⟩))
    rcases List.mem_append.mp hx with h | h
    · exact hT.2 x h
    · simp at h; subst h; exact hT.2 x (by rw [et]; simp)
  · -- a list of starts
    exact Due.no (fun sr => bent_list V) (ne2 rdb_AL rdb_S fun a _ => by unfold encA at a; cases a) (two ((rp_AL hS).mono (by decide) (Nat.le_refl _)) S4)
  · -- three
    refine Due.no (fun sr => ic_len (by simp)) (fun e => ?_) ⟨4, 20000, by decide, by decide, ?_⟩
    · have : rdb 4 (.tuple [encA (sV V), encS (tV V), .tuple []]) := fun x hx => by
        simp at hx
        rcases hx with rfl | rfl | rfl
        · exact rdb_A
        · exact rdb_S
        · exact rdb_nil
      have := shown_inj this rdb_V e
      unfold encV at this
      simp at this
    · refine (Rp.tup (k := 3) (N := 4000) (c := 3) (fun x hx => ?_) (by simp)).mono (by decide) (Nat.le_refl _)
      simp at hx
      rcases hx with rfl | rfl | rfl
      · exact A4
      · exact S4
      · exact rp_nil (by decide)
  · -- a line of nothing
    refine Due.no (fun sr => bent_line V) (ne2 rdb_A rdb_S fun _ b => by have := encS_inj b; simp at this) (two ((rp_A hS1).mono (N' := 4000) (by decide) (Nat.le_refl _)) (rp_S ⟨by simp; omega, fun x hx => ?_⟩))
    rcases List.mem_append.mp hx with h | h
    · exact hT.2 x h
    · simp at h
      subst h
      exact ⟨by simp; omega, fun j hj => by have := List.eq_of_mem_replicate hj; cases this⟩
  · -- no states
    refine Due.no (fun sr => bent_none V) (ne2 rdb_A (rdb_nil (n := 2)) fun _ b => by
      have h0 : encS [] = encS (tV V) := b
      have := encS_inj h0
      rw [et] at this; simp at this) (two A4 (rp_nil (by decide)))
  · -- None
    refine Due.no (fun sr => ic_not rfl) (fun e => ?_) ⟨0, 4, by decide, by decide, Rp.none (Nat.le_refl _)⟩
    have := shown_inj (n := 4) (d := .none) trivial rdb_V e
    unfold encV at this
    cases this
  · -- a state that is not there
    refine Due.no (fun sr => bent_nine V) (ne2 rdb_A rdb_S fun a _ => ?_) (two ((rp_A (s := [((0, 0), 9)]) ⟨by simp, fun x hx => by simp at hx; subst hx; decide⟩).mono (N' := 4000) (by decide) (Nat.le_refl _)) S4)
    have := encA_inj a
    unfold encA at a
    injection a with a
    rw [ep] at a
    have hp := w.hs p (by rw [ep]; simp)
    simp [encP] at a
    have := a.1.2
    omega
  · -- longer lines
    have h1 : ∀ x ∈ (tV V).map (fun l => l ++ [none]), x.length ≤ 20 ∧ ∀ j, some j ∈ x → j < 100 := fun x hx => by
      obtain ⟨y, hy, rfl⟩ := List.mem_map.mp hx
      have hy2 := V.goodV y hy
      exact ⟨by rw [List.length_append, hy2.1]; simp; omega, fun j hj => (hT.2 y hy).2 j (by simpa using hj)⟩
    refine Due.no (fun sr => bent_long V) (ne2 rdb_A rdb_S fun _ b => ?_) (two A4 (rp_S ⟨by simpa using hT.1, h1⟩))
    rw [et] at b
    unfold encS at b
    injection b with b
    simp [encL] at b
  · -- a text
    refine Due.no (fun sr => ic_not rfl) (fun e => ?_) ⟨0, 3, by decide, by decide, ?_⟩
    · have h1 : cs (PyData.shown (.str (Str.ofString "x"))) = cs (encV (sV V) (tV V)).shown := by rw [e]
      rw [cs_shown, cs_shown] at h1
      unfold encV at h1
      rw [tx, tx] at h1
      have h2 : cs (reprText (Str.ofString "x")) = [39, 120, 39] := by decide +kernel
      rw [h2] at h1
      simp at h1
    · refine ⟨⟨by decide +kernel, Nat.zero_le _⟩, rfl, by simp [PyData.hasDict], ?_⟩
      decide +kernel
  · -- an empty tuple
    refine Due.no (fun sr => ic_len (by simp)) (fun e => ?_) ⟨1, 3, by decide, by decide, rp_nil (k := 0) (by decide)⟩
    have := shown_inj (n := 4) rdb_nil rdb_V e
    unfold encV at this
    simp at this
end
end
end K48
set_option linter.all false
set_option Elab.async false
set_option maxRecDepth 100000
set_option maxHeartbeats 1000000
/-! K48v: the law of k48 is kept. -/
namespace K48
open PySem Ev
/-! ### how great counts are -/
theorem way_le {st : Steps} {d : Nat} (hok : Ok st) (hd : ∀ l ∈ st, l.length = d) : ∀ n j, j < st.length → 0 ≤ (wayN st n).getD j 0 ∧ (wayN st n).getD j 0 ≤ ((d ^ n : Nat) : Int)
  | 0, j, hj => by simp [wayN, List.getD, hj]
  | n + 1, j, hj => by
    rw [way_succ hj]
    have hl := hd _ (getD_mem hj)
    have hk := hok _ (getD_mem hj)
    have : ∀ xs : List Nat, (∀ x ∈ xs, x < st.length) → 0 ≤ (xs.map fun j => (wayN st n).getD j 0).sum ∧ (xs.map fun j => (wayN st n).getD j 0).sum ≤ ((xs.length * d ^ n : Nat) : Int) := fun xs => by
      induction xs with
      | nil => intro _; simp
      | cons x xs ih =>
        intro h
        obtain ⟨a, b⟩ := ih fun y hy => h y (by simp [hy])
        obtain ⟨a2, b2⟩ := way_le hok hd n x (h x (by simp))
        rw [List.map_cons, List.sum_cons, List.length_cons, Nat.add_mul, Nat.one_mul]
        omega
    obtain ⟨a, b⟩ := this (somes (st.getD j [])) fun x hx => hk x (mem_somes.mp hx)
    refine ⟨a, Int.le_trans b ?_⟩
    have h1 : (somes (st.getD j [])).length ≤ d := by
      have := somes_len (l := st.getD j [])
      omega
    have := Nat.mul_le_mul_right (d ^ n) h1
    rw [Nat.pow_succ, Nat.mul_comm (d ^ n) d]
    omega
theorem cnt_small {s : List ((Int × Int) × Nat)} {st : Steps} {d : Nat} (W : Wf d s st) (hd : d ≤ 5) {n : Nat} (hn : n ≤ 60) : (cntAt s st n).natAbs < 10 ^ 100 := by
  have h1 : 0 ≤ cntAt s st n ∧ cntAt s st n ≤ ((s.length * 5 ^ 60 : Nat) : Int) := by
    unfold cntAt
    have : ∀ xs : List ((Int × Int) × Nat), (∀ x ∈ xs, x.2 < st.length) → 0 ≤ (xs.map fun p => (wayN st n).getD p.2 0).sum ∧ (xs.map fun p => (wayN st n).getD p.2 0).sum ≤ ((xs.length * 5 ^ 60 : Nat) : Int) := fun xs => by
      induction xs with
      | nil => intro _; simp
      | cons x xs ih =>
        intro h
        obtain ⟨a, b⟩ := ih fun y hy => h y (by simp [hy])
        obtain ⟨a2, b2⟩ := way_le W.ok W.hd n x.2 (h x (by simp))
        have h3 : d ^ n ≤ 5 ^ 60 := Nat.le_trans (Nat.pow_le_pow_left hd n) (Nat.pow_le_pow_right (by decide) hn)
        rw [List.map_cons, List.sum_cons, List.length_cons, Nat.add_mul, Nat.one_mul]
        omega
    exact this s W.hs
  have h2 : s.length * 5 ^ 60 ≤ 1000 * 5 ^ 60 := Nat.mul_le_mul_right _ W.n3
  have h3 : 1000 * 5 ^ 60 < 10 ^ 100 := by decide
  omega
theorem rp_cnt {s : List ((Int × Int) × Nat)} {st : Steps} {d : Nat} (W : Wf d s st) (hd : d ≤ 5) {n : Nat} (hn : n ≤ 60) : reprB [.int (cntAt s st n)] = some (.str (PyData.shown (.int (cntAt s st n)))) := (Rp.int (k := 0) (j := 100) (by decide) (by decide) (cnt_small W hd hn)).ok (by decide) (by unfold lim; decide)
theorem repr_bool {b : Bool} : reprB [.bool b] = some (.str (PyData.shown (.bool b))) := (Rp.bool (k := 0) (N := 5) (Nat.le_refl _)).ok (by decide) (by unfold lim; decide)
theorem ne_same {x : Str} : cmpD .ne (.str x) (.str x) = some false := by
  show (some (x == x)).map not = _
  simp
theorem eq_str {x y : Str} : cmpD .eq (.str x) (.str y) = some (decide (x = y)) := by
  show some (x == y) = _
  congr 1
section
variable {s : List ((Int × Int) × Nat)} {st : Steps} {d m most : Nat} {sr : Src}
/-- the slots of the law -/
def lw (x2 x3 x4 x5 x6 x7 x8 x9 x10 x11 x12 x13 x14 x15 x16 x17 x18 x19 x20 x21 : Option D) : Slots := [none, some .none, x2, x3, x4, x5, x6, x7, x8, x9, x10, x11, x12, x13, x14, x15, x16, x17, x18, x19, x20, x21]
theorem g3_steps {ds : List D} {z : Src} : G3 "_law_drawn_steps" ds z = runFn G0 F_law_drawn_steps ds z := by
  rw [show G3 "_law_drawn_steps" = runFn G0 F_law_drawn_steps by simp [G3, G2, G1]]
theorem g3_least {ds : List D} {z : Src} : G3 "_law_least" ds z = runFn G0 F_law_least ds z := by
  rw [show G3 "_law_least" = runFn G0 F_law_least by simp [G3, G2, G1]]
theorem g3_complete {ds : List D} {z : Src} : G3 "is_complete" ds z = runFn G2 Fis_complete ds z := by
  rw [show G3 "is_complete" = runFn G2 Fis_complete by simp [G3]]
theorem g3_bent {ds : List D} {z : Src} : G3 "_law_bent" ds z = runFn G1 F_law_bent ds z := by
  rw [show G3 "_law_bent" = runFn G1 F_law_bent by simp [G3, G2]]
theorem g3_counts {ds : List D} {z : Src} : G3 "_law_counts" ds z = runFn noC F_law_counts ds z := by
  rw [show G3 "_law_counts" = runFn noC F_law_counts by simp [G3, G2, G1, G0]]
theorem g3_rows {ds : List D} {z : Src} : G3 "_law_rows" ds z = runFn noC F_law_rows ds z := by
  rw [show G3 "_law_rows" = runFn noC F_law_rows by simp [G3, G2, G1, G0]]
theorem g3_pieces {ds : List D} {z : Src} : G3 "pieces_counted" ds z = runFn noC Fpieces_counted ds z := by
  rw [show G3 "pieces_counted" = runFn noC Fpieces_counted by simp [G3, G2, G1, G0]]
theorem g3_led {ds : List D} {z : Src} : G3 "state_led" ds z = runFn noC Fstate_led ds z := by
  rw [show G3 "state_led" = runFn noC Fstate_led by simp [G3, G2, G1, G0]]
/-- a number and a drawn one -/
theorem ev_plus {sl : Slots} (h1 : getS sl 1 = some .none) (a m : Nat) (hm : 0 < m) (h2 : m < 1000) : ∃ (r : Nat) (s' : Src), r < m ∧ evE G3 (.bin .add [.int a, .call "_law_pick" (some 1) [.int m]]) ⟨sl, sr⟩ = some (.int ((a + r : Nat) : Int), ⟨sl, s'⟩) := by
  obtain ⟨r, s', hr, e⟩ := ev_pick (Γ := G3) (sr := sr) (fun ds z => g3_pick) (i := 1) (e := .int m) (m := m) (sl := sl) (d0 := .none) h1 rfl hm (by omega)
  exact ⟨r, s', hr, evE_bin (evV_cons (e := .int a) rfl (evV_cons e evV_nil)) (by simp [binD, addD])⟩
theorem ev_minus {sl : Slots} (h1 : getS sl 1 = some .none) : ∃ (r : Int) (s' : Src), r.natAbs < 3 ∧ evE G3 (.bin .sub [.call "_law_pick" (some 1) [.int 5], .int 2]) ⟨sl, sr⟩ = some (.int r, ⟨sl, s'⟩) := by
  obtain ⟨r, s', hr, e⟩ := ev_pick (Γ := G3) (sr := sr) (fun ds z => g3_pick) (i := 1) (e := .int 5) (m := 5) (sl := sl) (d0 := .none) h1 rfl (by decide) (by decide)
  exact ⟨(r : Int) - 2, s', by omega, evE_bin (evV_cons e (evV_cons (e := .int 2) rfl evV_nil)) rfl⟩
theorem wfOf {P line : List Nat} {k : Nat} (V : LV d s st P line k) : Wf d (sV V) (tV V) := ⟨V.wf.ok, fun l hl => (V.goodV l hl).1, V.wf.hs, V.wf.n1, V.d1, V.wf.n3⟩
/-! ### drawn -/
theorem law_drawn (sr : Src) : ∃ (d m : Nat) (L : List (Int × Int)) (st : Steps) (s : List ((Int × Int) × Nat)) (P line : List Nat) (k : Nat) (V : LV d s st P line k) (sr' : Src), 2 ≤ d ∧ d ≤ 5 ∧ s.length ≤ 4 ∧ (∀ p ∈ s, p.1.1.natAbs < 3 ∧ p.1.2.natAbs < 3) ∧
    evSs G3 (blaw.take 6) ⟨lawS 20, sr⟩ = some (.nx, ⟨lw (some (.int d)) (some (.int m)) (some (.list (L.map pairD))) none none (some (encSL st)) (some (encV (sV V) (tV V))) none none none none none none none none none none none none none, sr'⟩) := by
  -- digits, many
  obtain ⟨r1, q1, hr1, e1⟩ := ev_plus (sr := sr) (sl := lawS 20) rfl 2 4 (by decide) (by decide)
  obtain ⟨r2, q2, hr2, e2⟩ := ev_plus (sr := q1) (sl := lawS 20) rfl 1 6 (by decide) (by decide)
  have s1 : evS G3 (.par [2, 3] [.bin .add [.int 2, .call "_law_pick" (some 1) [.int 4]], .bin .add [.int 1, .call "_law_pick" (some 1) [.int 6]]]) ⟨lawS 20, sr⟩ = some (.nx, ⟨lw (some (.int (2 + r1 : Nat))) (some (.int (1 + r2 : Nat))) none none none none none none none none none none none none none none none none none none, q2⟩) :=
    evS_par (evV_cons e1 (evV_cons e2 evV_nil)) rfl
  generalize hdd : 2 + r1 = d at s1
  generalize hmm : 1 + r2 = m at s1
  -- lots
  obtain ⟨r3, q3, hr3, e3⟩ := ev_plus (sr := q2) (sl := lw (some (.int d)) (some (.int m)) none none none none none none none none none none none none none none none none none none) rfl 1 4 (by decide) (by decide)
  obtain ⟨zs, q4, e4, hz⟩ := evE_compS (Γ := G3) (s := q2) (s0 := q3) (own := [5]) (t := .nm 5) (it := .rng1 (.bin .add [.int 1, .call "_law_pick" (some 1) [.int 4]])) (elt := .tup [.bin .sub [.call "_law_pick" (some 1) [.int 5], .int 2], .bin .sub [.call "_law_pick" (some 1) [.int 5], .int 2]])
    (sl0 := lw (some (.int d)) (some (.int m)) none none none none none none none none none none none none none none none none none none) (sl := lw (some (.int d)) (some (.int m)) none none none none none none none none none none none none none none none none none none)
    (fun i : Nat => PyData.int i) pairD (fun _ z => z.1.natAbs < 3 ∧ z.2.natAbs < 3) (List.range (1 + r3)) (evE_rng1 e3 (by omega)) rfl rfl (fun i hi sr => by
      obtain ⟨a, p1, ha, f1⟩ := ev_minus (sr := sr) (sl := lw (some (.int d)) (some (.int m)) none (some (.int i)) none none none none none none none none none none none none none none none none) rfl
      obtain ⟨b, p2, hb, f2⟩ := ev_minus (sr := p1) (sl := lw (some (.int d)) (some (.int m)) none (some (.int i)) none none none none none none none none none none none none none none none none) rfl
      exact ⟨_, (a, b), p2, rfl, evE_tup (evV_cons f1 (evV_cons f2 evV_nil)), ⟨ha, hb⟩, rfl⟩) (by simp; unfold lim; omega) rfl
  have s2 := evS_asg1 (i := 4) e4
  have hzl : zs.length = 1 + r3 := by rw [hz.length]; simp
  have hzc : ∀ z ∈ zs, z.1.natAbs < 3 ∧ z.2.natAbs < 3 := hz.right fun _ _ h => h
  -- sorted, each once
  have c3 := evE_compA (Γ := G3) (s := q4) (own := [6]) (t := .nm 6) (it := .bv 4) (elt := .tup [.var 6, .int 0]) (sl0 := lw (some (.int d)) (some (.int m)) (some (.list (zs.map pairD))) none none none none none none none none none none none none none none none none none) (sl := lw (some (.int d)) (some (.int m)) (some (.list (zs.map pairD))) none none none none none none none none none none none none none none none none none)
    (d := .list (zs.map pairD)) pairD (fun z => PyData.tuple [pairD z, .int 0]) zs rfl rfl rfl (fun z hz => ⟨lw (some (.int d)) (some (.int m)) (some (.list (zs.map pairD))) none (some (pairD z)) none none none none none none none none none none none none none none none, rfl, evE_tup (evV_cons (e := .var 6) (d := pairD z) rfl (evV_cons (e := .int 0) rfl evV_nil)), rfl⟩) (by rw [hzl]; unfold lim; omega) rfl
  have hdict := dictB_const pairD_enc (.int 0) zs
  have hs1 : itemsD (.dict (dmap pairD ((dd zs).map fun x => (x, PyData.int 0)))) = some ((dd zs).map pairD) := by
    simp [itemsD, dmap, List.map_map]
  have s3 := evS_asg1 (i := 4) (evE_bi1 (f := .sorted) (evE_bi1 (f := .dict) c3 (z := .dict (dmap pairD ((dd zs).map fun x => (x, PyData.int 0)))) (by simp only [biD, dictB]; exact hdict)) (z := .list ((sortP (dd zs)).map pairD)) (by simp only [biD, sortedB, hs1, Option.bind_some, sortD_lots, Option.map_some]))
  have hLs : SortedP (sortP (dd zs)) := sortP_sorted _
  have hLn : (sortP (dd zs)).Nodup := sortP_nodup nodup_dd
  have hLm : ∀ z ∈ sortP (dd zs), z.1.natAbs < 3 ∧ z.2.natAbs < 3 := fun z hz => hzc z (mem_dd.mp (mem_sortP.mp hz))
  have hLl : (sortP (dd zs)).length ≤ 4 := by
    rw [sortP_len]
    have := dd_length_le (xs := zs)
    omega
  have hL0 : sortP (dd zs) ≠ [] := by
    intro h
    cases zs with
    | nil => simp at hzl; omega
    | cons z zs =>
      have : z ∈ sortP (dd (z :: zs)) := mem_sortP.mpr (mem_dd.mpr (by simp))
      rw [h] at this
      simp at this
  generalize sortP (dd zs) = L at s3 hLs hLn hLm hLl hL0
  -- steps
  obtain ⟨st, q5, hstl, hstg, e5⟩ := ev_drawn (sr := q4) (m := m) (d := d) (by omega) (by omega) (by omega) (by omega)
  have s4 : evS G3 (.asg (.nm 7) (.call "_law_drawn_steps" (some 1) [.var 3, .var 2])) ⟨lw (some (.int d)) (some (.int m)) (some (.list (L.map pairD))) none none none none none none none none none none none none none none none none none, q4⟩ = some (.nx, ⟨lw (some (.int d)) (some (.int m)) (some (.list (L.map pairD))) none none (some (encSL st)) none none none none none none none none none none none none none none, q5⟩) :=
    (evS_asg1 (i := 7) (evE_callS (Γ := G3) (ρ := ⟨lw (some (.int d)) (some (.int m)) (some (.list (L.map pairD))) none none none none none none none none none none none none none none none none none, q4⟩) (f := "_law_drawn_steps") (i := 1) (d0 := .none) (es := [.var 3, .var 2]) rfl (evV_cons (e := .var 3) (d := .int m) rfl (evV_cons (e := .var 2) (d := .int d) rfl evV_nil)) (g3_steps.trans e5))).trans rfl
  -- starts
  obtain ⟨s, q6, e6, hs⟩ := evE_compS (Γ := G3) (s := q5) (s0 := q5) (own := [6]) (t := .nm 6) (it := .bv 4) (elt := .tup [.var 6, .call "_law_pick" (some 1) [.var 3]]) (sl0 := lw (some (.int d)) (some (.int m)) (some (.list (L.map pairD))) none none (some (encSL st)) none none none none none none none none none none none none none none) (sl := lw (some (.int d)) (some (.int m)) (some (.list (L.map pairD))) none none (some (encSL st)) none none none none none none none none none none none none none none)
    (d := .list (L.map pairD)) pairD encP (fun x z => z.1 = x ∧ z.2 < m) L rfl rfl rfl (fun x hx sr => by
      obtain ⟨r, q, hr, f⟩ := ev_pick (Γ := G3) (sr := sr) (fun ds z => g3_pick) (i := 1) (e := .var 3) (m := m) (sl := lw (some (.int d)) (some (.int m)) (some (.list (L.map pairD))) none (some (pairD x)) (some (encSL st)) none none none none none none none none none none none none none none) (d0 := .none) rfl rfl (by omega) (by omega)
      exact ⟨_, (x, r), q, rfl, evE_tup (evV_cons (e := .var 6) (d := pairD x) rfl (evV_cons f evV_nil)), ⟨rfl, hr⟩, rfl⟩) (by unfold lim; omega) rfl
  have hsm : s.map (·.1) = L := by
    clear s1 s2 s3 s4 e6 c3 hdict hs1 hLs hLn hLm hLl hL0
    induction hs with
    | nil => rfl
    | cons h _ ih => rw [List.map_cons, ih, h.1]
  have hs2 : ∀ p ∈ s, p.2 < m := hs.right fun _ _ h => h.2
  have hsl : s.length ≤ 4 := by rw [← List.length_map (f := (·.1)), hsm]; exact hLl
  have W : WfB s st := ⟨fun l hl j hj => by rw [hstl]; exact (hstg l hl).2.2 j hj, fun l hl => by rw [(hstg l hl).1]; omega, fun p hp => by rw [hstl]; exact hs2 p hp, by omega, by omega, by omega⟩
  obtain ⟨P, line, k, hP, hR, hk, e7⟩ := ev_least (sr := {}) W
  have V : LV d s st P line k := ⟨⟨W, hP, hR, hk⟩, by omega, by omega, fun l hl => by rw [hstl]; exact hstg l hl, fun h => hL0 (by rw [← hsm, h]; rfl), by rw [hsm]; exact hLs, by rw [hsm]; exact hLn, by omega⟩
  refine ⟨d, m, L, st, s, P, line, k, V, q6, by omega, by omega, hsl, fun p hp => hLm p.1 (by rw [← hsm]; exact List.mem_map_of_mem hp), ?_⟩
  have s5 : evS G3 (.asg (.nm 8) (.call "_law_least" none [.comp [6] (.nm 6) (.bv 4) [] (.tup [.var 6, .call "_law_pick" (some 1) [.var 3]]), .var 7])) ⟨lw (some (.int d)) (some (.int m)) (some (.list (L.map pairD))) none none (some (encSL st)) none none none none none none none none none none none none none none, q5⟩ = some (.nx, ⟨lw (some (.int d)) (some (.int m)) (some (.list (L.map pairD))) none none (some (encSL st)) (some (encV (sV V) (tV V))) none none none none none none none none none none none none none, q6⟩) :=
    evS_asg1 (evE_call (evV_cons e6 (evV_cons (e := .var 7) (d := encSL st) rfl evV_nil)) (g3_least.trans e7))
  obtain ⟨p1, e8⟩ := V.complete (sr := {})
  have s6 : evS G3 (.ite (.cmp .isNot [.call "is_complete" none [.var 2, .var 8], .bl true]) [.ret (.bl false)] []) ⟨lw (some (.int d)) (some (.int m)) (some (.list (L.map pairD))) none none (some (encSL st)) (some (encV (sV V) (tV V))) none none none none none none none none none none none none none, q6⟩ = some (.nx, ⟨lw (some (.int d)) (some (.int m)) (some (.list (L.map pairD))) none none (some (encSL st)) (some (encV (sV V) (tV V))) none none none none none none none none none none none none none, q6⟩) :=
    (evS_iteF (evE_cmp (b := false) (evV_cons (evE_call (evV_cons (e := .var 2) (d := .int d) rfl (evV_cons (e := .var 8) (d := encV (sV V) (tV V)) rfl evV_nil)) (g3_complete.trans e8)) (evV_cons (e := .bl true) rfl evV_nil)) rfl)).trans rfl
  exact (evSs_nx s1).trans ((evSs_nx s2).trans ((evSs_nx s3).trans ((evSs_nx s4).trans ((evSs_nx s5).trans ((evSs_nx s6).trans rfl)))))
end
end K48
set_option linter.all false
set_option Elab.async false
set_option maxRecDepth 100000
set_option maxHeartbeats 1000000
/-! K48w: the law of k48 is kept: its turns, counts, rows. -/
namespace K48
open PySem Ev
section
variable {s : List ((Int × Int) × Nat)} {st : Steps} {d m : Nat} {sr : Src} {P line : List Nat} {k : Nat}
/-- slots from the turns on -/
def lx (d : Nat) (V : D) (a b c : Option D) (x5 x6 x9 x10 x11 x12 x13 x14 x15 x16 x17 x18 x19 x20 x21 : Option D) : Slots := lw (some (.int d)) a b x5 x6 c (some V) x9 x10 x11 x12 x13 x14 x15 x16 x17 x18 x19 x20 x21
/-! ### three turns -/
theorem law_turns (V : LV d s st P line k) (hd2 : 2 ≤ d) (hd : d ≤ 5) (h4 : s.length ≤ 4) (hc : ∀ p ∈ s, p.1.1.natAbs < 3 ∧ p.1.2.natAbs < 3) {a b c : Option D} : ∃ (x9 x10 x11 : Option D) (sr' : Src),
    evS G3 (.forr [4] [4] (.nm 9) (.rng1 (.int 3)) [.asg (.nm 10) (.call "_law_bent" (some 1) [.var 8, .var 2]),
      .asg (.nm 11) (.and [.cmp .lt [.bi .len [.idx [.bv 8, .int 0]], .int 2], .cmp .eq [.bi .repr [.bv 10], .bi .repr [.bv 8]]]),
      .ite (.cmp .ne [.bi .repr [.call "is_complete" none [.var 2, .var 10]], .bi .repr [.bv 11]]) [.ret (.bl false)] []]) ⟨lx d (encV (sV V) (tV V)) a b c none none none none none none none none none none none none none none none, sr⟩
      = some (.nx, ⟨lx d (encV (sV V) (tV V)) a b c none none x9 x10 x11 none none none none none none none none none none, sr'⟩) := by
  have hS := V.smallS h4 hc
  have hT := V.smallT hd
  have hrV : reprB [encV (sV V) (tV V)] = some (.str (encV (sV V) (tV V)).shown) := (rp_V hS hT).ok (by decide) (by unfold lim; decide)
  have h2 := evS_for (Γ := G3) (hd := [4]) (ex := [4]) (t := .nm 9) (it := .rng1 (.int 3)) (b := [.asg (.nm 10) (.call "_law_bent" (some 1) [.var 8, .var 2]),
      .asg (.nm 11) (.and [.cmp .lt [.bi .len [.idx [.bv 8, .int 0]], .int 2], .cmp .eq [.bi .repr [.bv 10], .bi .repr [.bv 8]]]),
      .ite (.cmp .ne [.bi .repr [.call "is_complete" none [.var 2, .var 10]], .bi .repr [.bv 11]]) [.ret (.bl false)] []]) (ρ := ⟨lx d (encV (sV V) (tV V)) a b c none none none none none none none none none none none none none none none, sr⟩) (fun i : Nat => PyData.int i) (List.range 3) (ρ1 := ⟨lx d (encV (sV V) (tV V)) a b c none none none none none none none none none none none none none none none, sr⟩) (evE_rng1 (n := 3) rfl (by decide)) rfl
    (fun done ρ => ∃ (x9 x10 x11 : Option D) (sr : Src), ρ = ⟨lx d (encV (sV V) (tV V)) a b c none none x9 x10 x11 none none none none none none none none none none, sr⟩) ⟨none, none, none, sr, rfl⟩
    (fun done i rest ρ e ⟨x9, x10, x11, sr, hρ⟩ => by
      subst hρ
      obtain ⟨x, q, hx, e1⟩ := ev_bent (sr := sr) (s := sV V) (st := tV V) (d := d) (by omega) (by rw [V.slen]; omega) (by have := V.t6; omega) (fun l hl => by rw [(V.goodV l hl).1]; omega)
      have D1 := V.due hd h4 hS hT x hx
      obtain ⟨kk, N, hk1, hN1, hrp⟩ := D1.rp
      have hrx : reprB [x] = some (.str x.shown) := hrp.ok (by omega) (by unfold lim; omega)
      have t1 : evS G3 (.asg (.nm 10) (.call "_law_bent" (some 1) [.var 8, .var 2])) ⟨lx d (encV (sV V) (tV V)) a b c none none (some (.int i)) x10 x11 none none none none none none none none none none, sr⟩ = some (.nx, ⟨lx d (encV (sV V) (tV V)) a b c none none (some (.int i)) (some x) x11 none none none none none none none none none none, q⟩) :=
        (evS_asg1 (i := 10) (evE_callS (Γ := G3) (ρ := ⟨lx d (encV (sV V) (tV V)) a b c none none (some (.int i)) x10 x11 none none none none none none none none none none, sr⟩) (f := "_law_bent") (i := 1) (d0 := .none) (es := [.var 8, .var 2]) rfl (evV_cons (e := .var 8) (d := encV (sV V) (tV V)) rfl (evV_cons (e := .var 2) (d := .int d) rfl evV_nil)) (g3_bent.trans e1))).trans rfl
      have hlen : cmpD .lt (.int ((sV V).length : Int)) (.int 2) = some (decide ((sV V).length < 2)) := by
        show some (decide (((sV V).length : Int) < 2)) = _
        congr 1
        rw [decide_eq_decide]
        omega
      have c1 := evE_cmp (o := .lt) (evV_cons (e := .bi .len [.idx [.bv 8, .int 0]]) (evE_bi1 (Γ := G3) (ρ := ⟨lx d (encV (sV V) (tV V)) a b c none none (some (.int i)) (some x) x11 none none none none none none none none none none, q⟩) (f := .len) (z := .int (sV V).length) (evE_idx (z := encA (sV V)) (evV_bv (i := 8) (d := encV (sV V) (tV V)) rfl (evV_cons (e := .int 0) rfl evV_nil) rfl) rfl) (by simp [biD, lenB, encA])) (evV_cons (e := .int 2) rfl evV_nil)) hlen
      have c2 := evE_cmp (o := .eq) (evV_cons (evE_bi1' (Γ := G3) (ρ := ⟨lx d (encV (sV V) (tV V)) a b c none none (some (.int i)) (some x) x11 none none none none none none none none none none, q⟩) (f := .repr) (i := 10) (d := x) rfl hrx) (evV_cons (evE_bi1' (f := .repr) (i := 8) (d := encV (sV V) (tV V)) rfl hrV) evV_nil)) eq_str
      have c3 : evE G3 (.and [.cmp .lt [.bi .len [.idx [.bv 8, .int 0]], .int 2], .cmp .eq [.bi .repr [.bv 10], .bi .repr [.bv 8]]]) ⟨lx d (encV (sV V) (tV V)) a b c none none (some (.int i)) (some x) x11 none none none none none none none none none none, q⟩ = some (.bool (decide ((sV V).length < 2) && decide (x.shown = (encV (sV V) (tV V)).shown)), ⟨lx d (encV (sV V) (tV V)) a b c none none (some (.int i)) (some x) x11 none none none none none none none none none none, q⟩) := by
        refine evE_and.trans ?_
        by_cases h : (sV V).length < 2
        · rw [decide_eq_true h] at c1
          rw [decide_eq_true h, Bool.true_and]
          exact (evAnd_T c1).trans (evAnd_1 c2)
        · rw [decide_eq_false h] at c1
          rw [decide_eq_false h, Bool.false_and]
          exact evAnd_F c1
      have t2 := evS_asg1 (i := 11) c3
      obtain ⟨q2, e3⟩ := D1.ic {}
      generalize (decide ((sV V).length < 2) && decide (x.shown = (encV (sV V) (tV V)).shown)) = bb at t2 e3
      have c4 := evE_cmp (o := .ne) (evV_cons (evE_bi1 (Γ := G3) (f := .repr) (evE_call (ρ := ⟨lx d (encV (sV V) (tV V)) a b c none none (some (.int i)) (some x) (some (.bool bb)) none none none none none none none none none none, q⟩) (f := "is_complete") (evV_cons (e := .var 2) (d := .int d) rfl (evV_cons (e := .var 10) (d := x) rfl evV_nil)) (g3_complete.trans e3)) repr_bool) (evV_cons (evE_bi1' (f := .repr) (i := 11) (d := .bool bb) rfl repr_bool) evV_nil)) ne_same
      exact ⟨_, _, rfl, (evSs_nx t1).trans ((evSs_nx t2).trans ((evSs_nx ((evS_iteF c4).trans rfl)).trans rfl)), some (.int i), some x, some (.bool bb), q, rfl⟩)
  obtain ⟨ρ1, h2, x9, x10, x11, sr', hρ⟩ := h2
  subst hρ
  exact ⟨x9, x10, x11, sr', h2⟩
/-! ### counts -/
def cntL (V : LV d s st P line k) : D := encW ((List.range 61).map (cntAt (sV V) (tV V)))
theorem at_cnt (V : LV d s st P line k) {n : Nat} (hn : n ≤ 60) : atD (cntL V) (.int n) = some (.int (cntAt (sV V) (tV V) n)) := by
  unfold cntL
  rw [atD_W (by simp; omega)]
  have : n < 61 := by omega
  simp [List.getD, this]
theorem law_counts (V : LV d s st P line k) (hd2 : 2 ≤ d) (hd : d ≤ 5) {a b c x9 x10 x11 : Option D} : ∃ (most : Nat) (x9' x14 : Option D) (sr' : Src), most ≤ 60 ∧ (∀ k, k ≤ most → d ^ k ≤ 10000) ∧
    evSs G3 [.par [12, 13] [.call "_law_counts" none [.var 8, .int 60], .ite (.cmp .eq [.bv 2, .int 2]) (.int 4) (.int 2)],
      .forr [4] [4] (.nm 14) (.bin .add [.lst [.int 0, .int 1, .int 2, .var 13, .int 60], .comp [9] (.nm 9) (.rng1 (.int 4)) [] (.call "_law_pick" (some 1) [.int 61])]) [.ite (.cmp .ne [.bi .repr [.call "pieces_counted" none [.var 8, .var 14]], .bi .repr [.idx [.bv 12, .bv 14]]]) [.ret (.bl false)] []]]
      ⟨lx d (encV (sV V) (tV V)) a b c none none x9 x10 x11 none none none none none none none none none none, sr⟩
      = some (.nx, ⟨lx d (encV (sV V) (tV V)) a b c none none x9' x10 x11 (some (cntL V)) (some (.int most)) x14 none none none none none none none, sr'⟩) := by
  have W := wfOf V
  have e1 := ev_counts (Γ := noC) (sr := {}) W (m := 60) (by decide)
  have ht := evE_cmp (Γ := G3) (ρ := ⟨lx d (encV (sV V) (tV V)) a b c none none x9 x10 x11 none none none none none none none none none none, sr⟩) (o := .eq) (b := decide (d = 2)) (evV_bv (i := 2) (d := .int d) rfl (evV_cons (e := .int 2) rfl evV_nil) rfl) (by
    show some ((d : Int) == 2) = _
    congr 1
    rw [Bool.eq_iff_iff]
    simp
    omega)
  have hmost : ∃ most : Nat, most ≤ 60 ∧ (∀ k, k ≤ most → d ^ k ≤ 10000) ∧ evE G3 (.ite (.cmp .eq [.bv 2, .int 2]) (.int 4) (.int 2)) ⟨lx d (encV (sV V) (tV V)) a b c none none x9 x10 x11 none none none none none none none none none none, sr⟩ = some (.int most, ⟨lx d (encV (sV V) (tV V)) a b c none none x9 x10 x11 none none none none none none none none none none, sr⟩) := by
    by_cases h : d = 2
    · rw [decide_eq_true h] at ht
      refine ⟨4, by decide, fun k hk => ?_, (evE_iteT ht).trans rfl⟩
      subst h
      exact Nat.le_trans (Nat.pow_le_pow_right (by decide) hk) (by decide)
    · rw [decide_eq_false h] at ht
      refine ⟨2, by decide, fun k hk => ?_, (evE_iteF ht).trans rfl⟩
      exact Nat.le_trans (Nat.le_trans (Nat.pow_le_pow_left hd k) (Nat.pow_le_pow_right (by decide) hk)) (by decide)
  obtain ⟨most, hm60, hpow, e2⟩ := hmost
  have s1 : evS G3 (.par [12, 13] [.call "_law_counts" none [.var 8, .int 60], .ite (.cmp .eq [.bv 2, .int 2]) (.int 4) (.int 2)]) ⟨lx d (encV (sV V) (tV V)) a b c none none x9 x10 x11 none none none none none none none none none none, sr⟩ = some (.nx, ⟨lx d (encV (sV V) (tV V)) a b c none none x9 x10 x11 (some (cntL V)) (some (.int most)) none none none none none none none none, sr⟩) :=
    evS_par (evV_cons (evE_call (f := "_law_counts") (evV_cons (e := .var 8) (d := encV (sV V) (tV V)) rfl (evV_cons (e := .int 60) (d := .int (60 : Nat)) rfl evV_nil)) (g3_counts.trans e1)) (evV_cons e2 evV_nil)) rfl
  obtain ⟨zs, q, e3, hz⟩ := evE_compS (Γ := G3) (s := sr) (s0 := sr) (own := [9]) (t := .nm 9) (it := .rng1 (.int 4)) (elt := .call "_law_pick" (some 1) [.int 61]) (sl0 := lx d (encV (sV V) (tV V)) a b c none none x9 x10 x11 (some (cntL V)) (some (.int most)) none none none none none none none none) (sl := lx d (encV (sV V) (tV V)) a b c none none none x10 x11 (some (cntL V)) (some (.int most)) none none none none none none none none)
    (fun i : Nat => PyData.int i) (fun n : Nat => PyData.int n) (fun _ z => z ≤ 60) (List.range 4) (evE_rng1 (n := 4) rfl (by decide)) rfl rfl (fun i hi sr => by
      obtain ⟨r, q, hr, f⟩ := ev_pick (Γ := G3) (sr := sr) (fun ds z => g3_pick) (i := 1) (e := .int 61) (m := 61) (sl := lx d (encV (sV V) (tV V)) a b c none none (some (.int i)) x10 x11 (some (cntL V)) (some (.int most)) none none none none none none none none) (d0 := .none) rfl rfl (by decide) (by decide)
      exact ⟨_, r, q, rfl, f, by omega, rfl⟩) (by simp; unfold lim; omega) rfl
  have hz60 : ∀ z ∈ zs, z ≤ 60 := hz.right fun _ _ h => h
  have hzl : zs.length = 4 := by rw [hz.length]; simp
  have e4 : evE G3 (.bin .add [.lst [.int 0, .int 1, .int 2, .var 13, .int 60], .comp [9] (.nm 9) (.rng1 (.int 4)) [] (.call "_law_pick" (some 1) [.int 61])]) ⟨lx d (encV (sV V) (tV V)) a b c none none x9 x10 x11 (some (cntL V)) (some (.int most)) none none none none none none none none, sr⟩ = some (.list (([0, 1, 2, most, 60] ++ zs).map fun n : Nat => PyData.int n), ⟨lx d (encV (sV V) (tV V)) a b c none none x9 x10 x11 (some (cntL V)) (some (.int most)) none none none none none none none none, q⟩) := by
    refine (evE_bin (evV_cons (e := .lst [.int 0, .int 1, .int 2, .var 13, .int 60]) (d := .list ([0, 1, 2, most, 60].map fun n : Nat => PyData.int n)) rfl (evV_cons e3 evV_nil)) (addLL (by simp [hzl, lim]))).trans ?_
    simp
  have s2 := evS_for (Γ := G3) (hd := [4]) (ex := [4]) (t := .nm 14) (it := .bin .add [.lst [.int 0, .int 1, .int 2, .var 13, .int 60], .comp [9] (.nm 9) (.rng1 (.int 4)) [] (.call "_law_pick" (some 1) [.int 61])]) (b := [.ite (.cmp .ne [.bi .repr [.call "pieces_counted" none [.var 8, .var 14]], .bi .repr [.idx [.bv 12, .bv 14]]]) [.ret (.bl false)] []]) (ρ := ⟨lx d (encV (sV V) (tV V)) a b c none none x9 x10 x11 (some (cntL V)) (some (.int most)) none none none none none none none none, sr⟩) (fun n : Nat => PyData.int n) ([0, 1, 2, most, 60] ++ zs) e4 rfl
    (fun done ρ => ∃ x14, ρ = ⟨lx d (encV (sV V) (tV V)) a b c none none x9 x10 x11 (some (cntL V)) (some (.int most)) x14 none none none none none none none, q⟩) ⟨none, rfl⟩
    (fun done n rest ρ e ⟨x14, hρ⟩ => by
      subst hρ
      have hn : n ≤ 60 := by
        have : n ∈ [0, 1, 2, most, 60] ++ zs := by rw [e]; simp
        rcases List.mem_append.mp this with h | h
        · simp at h; omega
        · exact hz60 n h
      have e5 := ev_pieces (Γ := noC) (sr := {}) W (n := n) (by omega)
      have hr := rp_cnt W hd hn
      have c4 := evE_cmp (o := .ne) (evV_cons (evE_bi1 (Γ := G3) (f := .repr) (evE_call (ρ := ⟨lx d (encV (sV V) (tV V)) a b c none none x9 x10 x11 (some (cntL V)) (some (.int most)) (some (.int n)) none none none none none none none, q⟩) (f := "pieces_counted") (evV_cons (e := .var 8) (d := encV (sV V) (tV V)) rfl (evV_cons (e := .var 14) (d := .int n) rfl evV_nil)) (g3_pieces.trans e5)) hr) (evV_cons (evE_bi1 (f := .repr) (evE_idx (evV_bv (i := 12) (d := cntL V) rfl (evV_bv (i := 14) (d := .int n) rfl evV_nil rfl) rfl) (at_cnt V hn)) hr) evV_nil)) ne_same
      exact ⟨_, _, rfl, evSs_one.trans ((evS_iteF c4).trans rfl), some (.int n), rfl⟩)
  obtain ⟨ρ1, s2, x14, hρ⟩ := s2
  subst hρ
  exact ⟨most, x9, x14, q, hm60, hpow, (evSs_nx s1).trans ((evSs_nx s2).trans rfl)⟩
/-! ### rows -/
theorem aget_start (V : LV d s st P line k) {p : (Int × Int) × Nat} (hp : p ∈ sV V) : aget ((sV V).map fun p => (p.1, PyData.int p.2)) p.1 = some (.int p.2) := by
  refine aget_mem ?_ (List.mem_map_of_mem (f := fun p : (Int × Int) × Nat => (p.1, PyData.int p.2)) hp)
  rw [List.map_map]
  have := V.nd
  rw [← V.lot'] at this
  exact this
theorem nd' (V : LV d s st P line k) : ((sV V).map (·.1)).Nodup := by rw [V.lot']; exact V.nd
theorem law_rows (V : LV d s st P line k) (hd : d ≤ 5) {most : Nat} (hm : most ≤ 60) (hpow : ∀ k, k ≤ most → d ^ k ≤ 10000) {a b c x9 x10 x11 x14 : Option D} : ∃ (x6 x16 x17 x18 x19 : Option D),
    evSs G3 [.asg (.nm 15) (.int 0),
      .forr [4, 15] [4, 15] (.tup [.nm 6, .nm 16]) (.idx [.bv 8, .int 0]) [.forr [4, 15] [4, 15] (.nm 17) (.call "_law_rows" none [.var 2, .var 13]) [.asg (.nm 18) (.var 16),
      .forr [4, 15] [4, 15] (.nm 19) (.var 17) [.asg (.nm 18) (.ite (.cmp .isNot [.bv 18, .non]) (.idx [.idx [.idx [.bv 8, .int 1], .bv 18], .bv 19]) (.non))],
      .ite (.cmp .ne [.bi .repr [.call "state_led" none [.var 8, .var 6, .var 17]], .bi .repr [.bv 18]]) [.ret (.bl false)] [],
      .asg (.nm 15) (.bin .add [.bv 15, .bi .int [.cmp .isNot [.bv 18, .non]]])]]]
      ⟨lx d (encV (sV V) (tV V)) a b c none none x9 x10 x11 (some (cntL V)) (some (.int most)) x14 none none none none none none none, sr⟩
      = some (.nx, ⟨lx d (encV (sV V) (tV V)) a b c none x6 x9 x10 x11 (some (cntL V)) (some (.int most)) x14 (some (.int (cntAt (sV V) (tV V) most))) x16 x17 x18 x19 none none, sr⟩) := by
  have W := wfOf V
  have s1 : evS G3 (.asg (.nm 15) (.int 0)) ⟨lx d (encV (sV V) (tV V)) a b c none none x9 x10 x11 (some (cntL V)) (some (.int most)) x14 none none none none none none none, sr⟩ = some (.nx, ⟨lx d (encV (sV V) (tV V)) a b c none none x9 x10 x11 (some (cntL V)) (some (.int most)) x14 (some (.int 0)) none none none none none none, sr⟩) := rfl
  have s2 := evS_for (Γ := G3) (hd := [4, 15]) (ex := [4, 15]) (t := .tup [.nm 6, .nm 16]) (it := .idx [.bv 8, .int 0]) (b := [.forr [4, 15] [4, 15] (.nm 17) (.call "_law_rows" none [.var 2, .var 13]) [.asg (.nm 18) (.var 16),
      .forr [4, 15] [4, 15] (.nm 19) (.var 17) [.asg (.nm 18) (.ite (.cmp .isNot [.bv 18, .non]) (.idx [.idx [.idx [.bv 8, .int 1], .bv 18], .bv 19]) (.non))],
      .ite (.cmp .ne [.bi .repr [.call "state_led" none [.var 8, .var 6, .var 17]], .bi .repr [.bv 18]]) [.ret (.bl false)] [],
      .asg (.nm 15) (.bin .add [.bv 15, .bi .int [.cmp .isNot [.bv 18, .non]]])]]) (ρ := ⟨lx d (encV (sV V) (tV V)) a b c none none x9 x10 x11 (some (cntL V)) (some (.int most)) x14 (some (.int 0)) none none none none none none, sr⟩) encP (sV V) (ρ1 := ⟨lx d (encV (sV V) (tV V)) a b c none none x9 x10 x11 (some (cntL V)) (some (.int most)) x14 (some (.int 0)) none none none none none none, sr⟩) (d := encA (sV V)) (evE_idx (evV_bv (d := encV (sV V) (tV V)) rfl (evV_cons (e := .int 0) rfl evV_nil) rfl) rfl) rfl
    (fun done ρ => ∃ (x6 x16 x17 x18 x19 : Option D), ρ = ⟨lx d (encV (sV V) (tV V)) a b c none x6 x9 x10 x11 (some (cntL V)) (some (.int most)) x14 (some (.int (done.map fun p => (wayN (tV V) most).getD p.2 0).sum)) x16 x17 x18 x19 none none, sr⟩) ⟨none, none, none, none, none, rfl⟩
    (fun done p rest ρ e ⟨x6, x16, x17, x18, x19, hρ⟩ => by
      subst hρ
      have hp : p ∈ sV V := by rw [e]; simp
      have hp2 := V.wf.hs p hp
      have er := ev_rows (Γ := noC) (sr := {}) (d := d) (m := most) (by omega) (by omega) hpow
      generalize hacc : (done.map fun p => (wayN (tV V) most).getD p.2 0).sum = acc
      have t1 := evS_for (Γ := G3) (hd := [4, 15]) (ex := [4, 15]) (t := .nm 17) (it := .call "_law_rows" none [.var 2, .var 13]) (b := [.asg (.nm 18) (.var 16),
        .forr [4, 15] [4, 15] (.nm 19) (.var 17) [.asg (.nm 18) (.ite (.cmp .isNot [.bv 18, .non]) (.idx [.idx [.idx [.bv 8, .int 1], .bv 18], .bv 19]) (.non))],
        .ite (.cmp .ne [.bi .repr [.call "state_led" none [.var 8, .var 6, .var 17]], .bi .repr [.bv 18]]) [.ret (.bl false)] [],
        .asg (.nm 15) (.bin .add [.bv 15, .bi .int [.cmp .isNot [.bv 18, .non]]])]) (ρ := ⟨lx d (encV (sV V) (tV V)) a b c none (some (pairD p.1)) x9 x10 x11 (some (cntL V)) (some (.int most)) x14 (some (.int acc)) (some (.int p.2)) x17 x18 x19 none none, sr⟩) encR (rowsN d most) (d := .list ((rowsN d most).map encR))
        (ρ1 := ⟨lx d (encV (sV V) (tV V)) a b c none (some (pairD p.1)) x9 x10 x11 (some (cntL V)) (some (.int most)) x14 (some (.int acc)) (some (.int p.2)) x17 x18 x19 none none, sr⟩) (evE_call (f := "_law_rows") (evV_cons (e := .var 2) (d := .int d) rfl (evV_cons (e := .var 13) (d := .int most) rfl evV_nil)) (g3_rows.trans er)) rfl
        (fun dn ρ => ∃ (x17 x18 x19 : Option D), ρ = ⟨lx d (encV (sV V) (tV V)) a b c none (some (pairD p.1)) x9 x10 x11 (some (cntL V)) (some (.int most)) x14 (some (.int (acc + (dn.map fun r => if (led (tV V) (some p.2) r).isSome then (1 : Int) else 0).sum))) (some (.int p.2)) x17 x18 x19 none none, sr⟩) ⟨x17, x18, x19, by simp⟩
        (fun dn r rst ρ e2 ⟨x17, x18, x19, hρ⟩ => by
          subst hρ
          have hr := mem_rowsN (d := d) (m := most) (r := r) (by rw [e2]; simp)
          generalize hac2 : acc + (dn.map fun r => if (led (tV V) (some p.2) r).isSome then (1 : Int) else 0).sum = ac2
          have u1 : evS G3 (.asg (.nm 18) (.var 16)) ⟨lx d (encV (sV V) (tV V)) a b c none (some (pairD p.1)) x9 x10 x11 (some (cntL V)) (some (.int most)) x14 (some (.int ac2)) (some (.int p.2)) (some (encR r)) x18 x19 none none, sr⟩ = some (.nx, ⟨lx d (encV (sV V) (tV V)) a b c none (some (pairD p.1)) x9 x10 x11 (some (cntL V)) (some (.int most)) x14 (some (.int ac2)) (some (.int p.2)) (some (encR r)) (some (encO (some p.2))) x19 none none, sr⟩) := rfl
          have u2 := evS_for (Γ := G3) (hd := [4, 15]) (ex := [4, 15]) (t := .nm 19) (it := .var 17) (b := [.asg (.nm 18) (.ite (.cmp .isNot [.bv 18, .non]) (.idx [.idx [.idx [.bv 8, .int 1], .bv 18], .bv 19]) (.non))]) (ρ := ⟨lx d (encV (sV V) (tV V)) a b c none (some (pairD p.1)) x9 x10 x11 (some (cntL V)) (some (.int most)) x14 (some (.int ac2)) (some (.int p.2)) (some (encR r)) (some (encO (some p.2))) x19 none none, sr⟩) (fun n : Nat => PyData.int n) r (d := encR r)
            (ρ1 := ⟨lx d (encV (sV V) (tV V)) a b c none (some (pairD p.1)) x9 x10 x11 (some (cntL V)) (some (.int most)) x14 (some (.int ac2)) (some (.int p.2)) (some (encR r)) (some (encO (some p.2))) x19 none none, sr⟩) rfl rfl
            (fun dq ρ => ∃ (x19 : Option D), ρ = ⟨lx d (encV (sV V) (tV V)) a b c none (some (pairD p.1)) x9 x10 x11 (some (cntL V)) (some (.int most)) x14 (some (.int ac2)) (some (.int p.2)) (some (encR r)) (some (encO (led (tV V) (some p.2) dq))) x19 none none, sr⟩) ⟨x19, rfl⟩
            (fun dq x rsq ρ e3 ⟨x19, hρ⟩ => by
              subst hρ
              have h1 := ev_led1 (Γ := G3) (sr := sr) (s := sV V) (st := tV V) (sl := lx d (encV (sV V) (tV V)) a b c none (some (pairD p.1)) x9 x10 x11 (some (cntL V)) (some (.int most)) x14 (some (.int ac2)) (some (.int p.2)) (some (encR r)) (some (encO (led (tV V) (some p.2) dq))) (some (.int x)) none none) 8 18 19 (o := led (tV V) (some p.2) dq) (x := x) W.ok W.hd (led_lt W.ok (fun h e => by cases e; exact hp2) dq) (hr.2 x (by rw [e3]; simp)) rfl rfl rfl
              have h2 : led (tV V) (some p.2) (dq ++ [x]) = led1 (tV V) (led (tV V) (some p.2) dq) x := by simp [led, List.foldl_append]
              refine ⟨_, _, rfl, evSs_one.trans ((evS_asg1 (i := 18) h1).trans rfl), some (.int x), ?_⟩
              rw [h2]
              rfl)
          obtain ⟨ρ3, u2, y19, hρ3⟩ := u2
          subst hρ3
          have ho := led_lt W.ok (o := some p.2) (fun h e => by cases e; exact hp2) r
          have el := ev_state_led (Γ := noC) (sr := {}) W (nd' V) (l := p.1) (r := r) (o := some p.2) hr.2 (aget_start V hp) (fun h e => by cases e; exact hp2)
          have hrp : reprB [encO (led (tV V) (some p.2) r)] = some (.str (encO (led (tV V) (some p.2) r)).shown) := (rp_O (k := 0) fun j e => by
            have h1 := ho j e
            have h2 := V.t6
            omega).ok (by decide) (by unfold lim; decide)
          generalize ho' : led (tV V) (some p.2) r = o at u2 el hrp ho
          have u3 := evE_cmp (o := .ne) (evV_cons (evE_bi1 (Γ := G3) (f := .repr) (evE_call (ρ := ⟨lx d (encV (sV V) (tV V)) a b c none (some (pairD p.1)) x9 x10 x11 (some (cntL V)) (some (.int most)) x14 (some (.int ac2)) (some (.int p.2)) (some (encR r)) (some (encO o)) y19 none none, sr⟩) (f := "state_led") (evV_cons (e := .var 8) (d := encV (sV V) (tV V)) rfl (evV_cons (e := .var 6) (d := pairD p.1) rfl (evV_cons (e := .var 17) (d := encR r) rfl evV_nil))) (g3_led.trans el)) hrp) (evV_cons (evE_bi1' (f := .repr) (i := 18) (d := encO o) rfl hrp) evV_nil)) ne_same
          have hnn : cmpD .isNot (encO o) .none = some o.isSome := by cases o <;> rfl
          have u4 := evS_asg1 (i := 15) (evE_bin (Γ := G3) (o := .add) (z := .int (ac2 + if o.isSome then 1 else 0)) (evV_bv (ρ := ⟨lx d (encV (sV V) (tV V)) a b c none (some (pairD p.1)) x9 x10 x11 (some (cntL V)) (some (.int most)) x14 (some (.int ac2)) (some (.int p.2)) (some (encR r)) (some (encO o)) y19 none none, sr⟩) (i := 15) (d := .int ac2) rfl (evV_cons (evE_bi1 (f := .int) (z := .int (if o.isSome then 1 else 0)) (evE_cmp (o := .isNot) (evV_bv (i := 18) (d := encO o) rfl (evV_cons (e := .non) rfl evV_nil) rfl) hnn) rfl) evV_nil) rfl) rfl)
          refine ⟨_, _, rfl, (evSs_nx u1).trans ((evSs_nx u2).trans ((evSs_nx ((evS_iteF u3).trans rfl)).trans ((evSs_nx u4).trans rfl))), some (encR r), some (encO o), y19, ?_⟩
          have hsum : acc + ((dn ++ [r]).map fun r => if (led (tV V) (some p.2) r).isSome then (1 : Int) else 0).sum = ac2 + if o.isSome then 1 else 0 := by
            rw [List.map_append, List.sum_append, ← hac2, List.map_singleton, ho']
            simp
            omega
          rw [hsum]
          rfl)
      obtain ⟨ρ2, t1, y17, y18, y19, hρ2⟩ := t1
      subst hρ2
      refine ⟨_, _, rfl, evSs_one.trans t1, some (pairD p.1), some (.int p.2), y17, y18, y19, ?_⟩
      rw [count_rows W.ok W.hd hp2 most, List.map_append, List.sum_append, hacc]
      simp)
  obtain ⟨ρ1, s2, x6, x16, x17, x18, x19, hρ⟩ := s2
  subst hρ
  exact ⟨x6, x16, x17, x18, x19, (evSs_nx s1).trans ((evSs_nx s2).trans rfl)⟩
/-! ### the end -/
def sideS : List ((Int × Int) × Nat) := [((0, 0), 0)]
def sideT : Steps := [[some 0, some 0, none, none]]
theorem side_wf : Wf 4 sideS sideT := ⟨fun l hl j hj => by
  simp [sideT] at hl; subst hl
  simp at hj; subst hj; decide, fun l hl => by simp [sideT] at hl; subst hl; rfl, fun p hp => by simp [sideS] at hp; subst hp; decide, by decide, by decide, by decide⟩
theorem nil_wf : Wf 0 [] [] := ⟨fun l hl => by simp at hl, fun l hl => by simp at hl, fun p hp => by simp at hp, by decide, by decide, by decide⟩
theorem nil_told : runFn G0 Ftold_by [encA [], encS []] {} = some (.tuple [encV [] [], .tuple []], {}) := by
  rfl
theorem nil_complete {sr : Src} : ∃ s1, runFn G2 Fis_complete [.int (3 : Nat), encV [] []] sr = some (.bool true, s1) := by
  have e1 := ev_lines_ok (sr := {}) (d := 3) (st := []) (n := 0) (by decide) fun l hl => by simp at hl
  have e2 := ev_starts_ok (sr := {}) (m := 0) (s := []) (fun p hp => by simp at hp) (by decide)
  have e3 : decide ((([] : List ((Int × Int) × Nat)).map (·.1)) = sortP (dd (([] : List ((Int × Int) × Nat)).map (·.1)))) = true := by decide
  rw [e3] at e2
  refine ic_told (n := 0) (b := true) (v := encV [] []) (g2_lines.trans e1) rfl (g2_starts.trans e2) (g2_told.trans nil_told) ?_
  rw [show PyData.tuple [encA [], encS []] = encV [] [] from rfl, cmp_shaped encV_sh encV_sh (by decide) (by decide) rfl rfl, SeqAt.eqv_refl _ encV_sh.1]
/-- what is told at the end -/
def endL : D := .list [.int (2 ^ 60), .int 0, .int 1, .bool true]
theorem law_end (V : LV d s st P line k) {most : Nat} (hm : most ≤ 60) (hc : ∀ p ∈ s, p.1.1.natAbs < 3 ∧ p.1.2.natAbs < 3) {a b c x6 x9 x10 x11 x14 x16 x17 x18 x19 : Option D} : ∃ ρ',
    evSs G3 (blaw.drop 11) ⟨lx d (encV (sV V) (tV V)) a b c none x6 x9 x10 x11 (some (cntL V)) (some (.int most)) x14 (some (.int (cntAt (sV V) (tV V) most))) x16 x17 x18 x19 none none, sr⟩ = some (.rt (.bool true), ρ') := by
  have W := wfOf V
  have hne : ((9 : Int), (9 : Int)) ∉ ((sV V).map fun p => (p.1, PyData.int p.2)).map (·.1) := by
    rw [List.map_map]
    have : (sV V).map ((·.1) ∘ fun p => (p.1, PyData.int p.2)) = s.map (·.1) := V.lot'
    rw [this]
    intro h
    obtain ⟨p, hp, e⟩ := List.mem_map.mp h
    have := hc p hp
    rw [e] at this
    exact absurd this.1 (by decide)
  have el := ev_state_led (Γ := noC) (sr := {}) W (nd' V) (l := (9, 9)) (r := []) (o := none) (fun x hx => by simp at hx) (aget_none hne) (fun h e => by cases e)
  have c1 := evE_cmp (Γ := G3) (ρ := ⟨lx d (encV (sV V) (tV V)) a b c none x6 x9 x10 x11 (some (cntL V)) (some (.int most)) x14 (some (.int (cntAt (sV V) (tV V) most))) x16 x17 x18 x19 none none, sr⟩) (o := .ne) (b := false) (evV_bv (i := 15) (d := .int (cntAt (sV V) (tV V) most)) rfl (evV_cons (evE_idx (evV_bv (i := 12) (d := cntL V) rfl (evV_bv (i := 13) (d := .int most) rfl evV_nil rfl) rfl) (at_cnt V hm)) evV_nil) rfl) (by
    show (some (cntAt (sV V) (tV V) most == cntAt (sV V) (tV V) most)).map not = _
    simp)
  have c2 := evE_cmp (Γ := G3) (ρ := ⟨lx d (encV (sV V) (tV V)) a b c none x6 x9 x10 x11 (some (cntL V)) (some (.int most)) x14 (some (.int (cntAt (sV V) (tV V) most))) x16 x17 x18 x19 none none, sr⟩) (o := .isNot) (b := false) (evV_cons (evE_call (f := "state_led") (evV_cons (e := .var 8) (d := encV (sV V) (tV V)) rfl (evV_cons (e := .tup [.int 9, .int 9]) (d := pairD (9, 9)) rfl (evV_cons (e := .tup []) (d := encR []) rfl evV_nil))) (g3_led.trans el)) (evV_cons (e := .non) rfl evV_nil)) rfl
  have s1 : evS G3 (.ite (.or [.cmp .ne [.bv 15, .idx [.bv 12, .bv 13]], .cmp .isNot [.call "state_led" none [.var 8, .tup [.int 9, .int 9], .tup []], .non]]) [.ret (.bl false)] []) ⟨lx d (encV (sV V) (tV V)) a b c none x6 x9 x10 x11 (some (cntL V)) (some (.int most)) x14 (some (.int (cntAt (sV V) (tV V) most))) x16 x17 x18 x19 none none, sr⟩ = some (.nx, ⟨lx d (encV (sV V) (tV V)) a b c none x6 x9 x10 x11 (some (cntL V)) (some (.int most)) x14 (some (.int (cntAt (sV V) (tV V) most))) x16 x17 x18 x19 none none, sr⟩) :=
    (evS_iteF (evE_or.trans ((evOr_F c1).trans (evOr_1 c2)))).trans rfl
  have s2 : evS G3 (.asg (.nm 20) (.tup [.tup [.tup [.tup [.int 0, .int 0], .int 0]], .tup [.tup [.int 0, .int 0, .non, .non]]])) ⟨lx d (encV (sV V) (tV V)) a b c none x6 x9 x10 x11 (some (cntL V)) (some (.int most)) x14 (some (.int (cntAt (sV V) (tV V) most))) x16 x17 x18 x19 none none, sr⟩ = some (.nx, ⟨lx d (encV (sV V) (tV V)) a b c none x6 x9 x10 x11 (some (cntL V)) (some (.int most)) x14 (some (.int (cntAt (sV V) (tV V) most))) x16 x17 x18 x19 (some (encV sideS sideT)) none, sr⟩) := rfl
  have p1 := ev_pieces (Γ := noC) (sr := {}) side_wf (n := 60) (by decide)
  have p2 := ev_pieces (Γ := noC) (sr := {}) nil_wf (n := 7) (by decide)
  have p3 := ev_pieces (Γ := noC) (sr := {}) side_wf (n := 0) (by decide)
  have n1 : (sideS.map fun p => (wayN sideT 60).getD p.2 0).sum = 2 ^ 60 := by decide +kernel
  have n2 : (([] : List ((Int × Int) × Nat)).map fun p => (wayN [] 7).getD p.2 0).sum = 0 := by decide +kernel
  have n3 : (sideS.map fun p => (wayN sideT 0).getD p.2 0).sum = 1 := by decide +kernel
  rw [n1] at p1
  rw [n2] at p2
  rw [n3] at p3
  obtain ⟨q, p4⟩ := nil_complete (sr := {})
  have s3 := evS_asg1 (i := 21) (evE_lst (Γ := G3) (evV_cons (evE_call (ρ := ⟨lx d (encV (sV V) (tV V)) a b c none x6 x9 x10 x11 (some (cntL V)) (some (.int most)) x14 (some (.int (cntAt (sV V) (tV V) most))) x16 x17 x18 x19 (some (encV sideS sideT)) none, sr⟩) (f := "pieces_counted") (evV_cons (e := .var 20) (d := encV sideS sideT) rfl (evV_cons (e := .int 60) (d := .int (60 : Nat)) rfl evV_nil)) (g3_pieces.trans p1))
    (evV_cons (evE_call (f := "pieces_counted") (evV_cons (e := .tup [.tup [], .tup []]) (d := encV [] []) rfl (evV_cons (e := .int 7) (d := .int (7 : Nat)) rfl evV_nil)) (g3_pieces.trans p2))
    (evV_cons (evE_call (f := "pieces_counted") (evV_cons (e := .var 20) (d := encV sideS sideT) rfl (evV_cons (e := .int 0) (d := .int (0 : Nat)) rfl evV_nil)) (g3_pieces.trans p3))
    (evV_cons (evE_call (f := "is_complete") (evV_cons (e := .int 3) (d := .int (3 : Nat)) rfl (evV_cons (e := .tup [.tup [], .tup []]) (d := encV [] []) rfl evV_nil)) (g3_complete.trans p4)) evV_nil)))))
  have hrp : reprB [endL] = some (.str (PyData.shown (endL))) := (Rp.lst (k := 0) (N := 31) (c := 4) (fun x hx => by
    simp at hx
    rcases hx with rfl | rfl | rfl | rfl
    · exact Rp.int (j := 30) (by decide) (by decide) (by decide)
    · exact (Rp.int (j := 1) (by decide) (by decide) (by decide)).mono (by decide) (Nat.le_refl _)
    · exact (Rp.int (j := 1) (by decide) (by decide) (by decide)).mono (by decide) (Nat.le_refl _)
    · exact Rp.bool (by decide)) (by simp)).ok (by decide) (by unfold lim; decide)
  have hpow : evE G3 (.bin .pow [.int 2, .int 60]) ⟨lx d (encV (sV V) (tV V)) a b c none x6 x9 x10 x11 (some (cntL V)) (some (.int most)) x14 (some (.int (cntAt (sV V) (tV V) most))) x16 x17 x18 x19 (some (encV sideS sideT)) (some (endL)), sr⟩ = some (.int (2 ^ 60), ⟨lx d (encV (sV V) (tV V)) a b c none x6 x9 x10 x11 (some (cntL V)) (some (.int most)) x14 (some (.int (cntAt (sV V) (tV V) most))) x16 x17 x18 x19 (some (encV sideS sideT)) (some (endL)), sr⟩) := by
    refine evE_bin (evV_cons (e := .int 2) rfl (evV_cons (e := .int 60) rfl evV_nil)) ?_
    simp [binD, powD]
  have s4 := evS_ret (evE_cmp (o := .eq) (b := true) (evV_cons (evE_bi1' (f := .repr) (i := 21) (d := endL) rfl hrp) (evV_cons (evE_bi1 (f := .repr) (evE_lst (evV_cons hpow (evV_cons (e := .int 0) rfl (evV_cons (e := .int 1) rfl (evV_cons (e := .bl true) rfl evV_nil))))) hrp) evV_nil)) (by rw [eq_str, decide_eq_true rfl]))
  exact ⟨_, (evSs_nx s1).trans ((evSs_nx s2).trans ((evSs_nx s3).trans (evSs_rt s4)))⟩
theorem law_true (sr : Src) : ∃ ρ', evSs G3 blaw ⟨lawS 20, sr⟩ = some (.rt (.bool true), ρ') := by
  obtain ⟨d, m, L, st, s, P, line, k, V, q1, hd2, hd, h4, hc, e1⟩ := law_drawn sr
  obtain ⟨x9, x10, x11, q2, e2⟩ := law_turns (sr := q1) V hd2 hd h4 hc (a := some (.int m)) (b := some (.list (L.map pairD))) (c := some (encSL st))
  obtain ⟨most, y9, x14, q3, hm, hpow, e3⟩ := law_counts (sr := q2) V hd2 hd (a := some (.int m)) (b := some (.list (L.map pairD))) (c := some (encSL st)) (x9 := x9) (x10 := x10) (x11 := x11)
  obtain ⟨x6, x16, x17, x18, x19, e4⟩ := law_rows (sr := q3) V hd hm hpow (a := some (.int m)) (b := some (.list (L.map pairD))) (c := some (encSL st)) (x9 := y9) (x10 := x10) (x11 := x11) (x14 := x14)
  obtain ⟨ρ', e5⟩ := law_end (sr := q3) V hm hc (a := some (.int m)) (b := some (.list (L.map pairD))) (c := some (encSL st)) (x6 := x6) (x9 := y9) (x10 := x10) (x11 := x11) (x14 := x14) (x16 := x16) (x17 := x17) (x18 := x18) (x19 := x19)
  refine ⟨ρ', ?_⟩
  have app : ∀ {xs ys : List Ev.S} {ρ ρ1 : Ste}, evSs G3 xs ρ = some (.nx, ρ1) → evSs G3 (xs ++ ys) ρ = evSs G3 ys ρ1 := fun {xs} => by
    induction xs with
    | nil => intro ys ρ ρ1 h; simp [evSs] at h; subst h; rfl
    | cons x xs ih =>
      intro ys ρ ρ1 h
      rw [List.cons_append]
      cases hx : evS G3 x ρ with
      | none => simp [evSs, hx] at h
      | some p =>
        obtain ⟨c, r⟩ := p
        cases c with
        | nx =>
          rw [evSs_nx hx] at h ⊢
          exact ih h
        | rt d => rw [evSs_rt hx] at h; cases h
        | bk => simp [evSs, hx] at h
        | ct => simp [evSs, hx] at h
  show evSs G3 (blaw.take 6 ++ ([blaw.getD 6 .brk] ++ ([blaw.getD 7 .brk, blaw.getD 8 .brk] ++ ([blaw.getD 9 .brk, blaw.getD 10 .brk] ++ blaw.drop 11)))) _ = _
  exact (app e1).trans ((app (xs := [blaw.getD 6 .brk]) (evSs_one.trans e2)).trans ((app (xs := [blaw.getD 7 .brk, blaw.getD 8 .brk]) e3).trans ((app (xs := [blaw.getD 9 .brk, blaw.getD 10 .brk]) e4).trans e5)))
end
end K48
set_option linter.all false
set_option Elab.async false
set_option maxRecDepth 100000
set_option maxHeartbeats 4000000
/-! the join: defs by their checks, the head by facts (printed by gen_join.py) -/
namespace K48
open PySem PySem.Spec PyProof.Rows L2 EvK EvS
open Ev (E S Tgt Calls runFn pick srcOf)
def BL : List Str := ["len", "range", "sum", "enumerate", "tuple", "dict", "isinstance", "all", "sorted", "bool", "int", "list", "repr", "abs", "max"]
theorem rkF_ne (f : String) : rkF f ≠ Kd.src := by
  show Kd.fz ≠ Kd.src
  decide
section
variable {P : Program} {w : World} {K : PySem.W.Frag} {mg : Str → Option Value} {base : Heap}
theorem sc_is_whole : FnScope sis_whole.N ["value"] (defScope (top 1)) := ⟨rfl, rfl, rfl, by decide +kernel, rfl, by decide +kernel, by decide +kernel⟩
theorem j_is_whole {a : Addr} {fd : FuncData} (F : Fun K "is_whole" "is_whole" (top 1) a fd) (hg : mg "is_whole" = some (.ref a)) (hb : Binds K fd ["value"] []) (hBL : ∀ x ∈ BL, mg x = none)  : Cl P w K mg base G3 rkF 1 "is_whole" false 1 := by
  refine cl_def (nm := "is_whole") (S := sis_whole) (fl := Fis_whole) (Γ := noC) (k := 0) F hg hb sc_is_whole rfl rfl rfl (by decide) hBL (by decide +kernel) rkF_ne (by simp [G3, G2, G1, G0]) (fun f hs n hm => ?_) mis_whole
  simp [sis_whole] at hm
theorem sc_pieces_counted : FnScope spieces_counted.N ["value", "many"] (defScope (top 5)) := ⟨rfl, rfl, rfl, by decide +kernel, rfl, by decide +kernel, by decide +kernel⟩
theorem j_pieces_counted {a : Addr} {fd : FuncData} (F : Fun K "pieces_counted" "pieces_counted" (top 5) a fd) (hg : mg "pieces_counted" = some (.ref a)) (hb : Binds K fd ["value", "many"] []) (hBL : ∀ x ∈ BL, mg x = none)  : Cl P w K mg base G3 rkF 1 "pieces_counted" false 2 := by
  refine cl_def (nm := "pieces_counted") (S := spieces_counted) (fl := Fpieces_counted) (Γ := noC) (k := 0) F hg hb sc_pieces_counted rfl rfl rfl (by decide) hBL (by decide +kernel) rkF_ne (by simp [G3, G2, G1, G0]) (fun f hs n hm => ?_) mpieces_counted
  simp [spieces_counted] at hm
theorem sc_blocks_of : FnScope sblocks_of.N ["steps"] (defScope (top 7)) := ⟨rfl, rfl, rfl, by decide +kernel, rfl, by decide +kernel, by decide +kernel⟩
theorem j_blocks_of {a : Addr} {fd : FuncData} (F : Fun K "blocks_of" "blocks_of" (top 7) a fd) (hg : mg "blocks_of" = some (.ref a)) (hb : Binds K fd ["steps"] []) (hBL : ∀ x ∈ BL, mg x = none)  : Cl P w K mg base G3 rkF 1 "blocks_of" false 1 := by
  refine cl_def (nm := "blocks_of") (S := sblocks_of) (fl := Fblocks_of) (Γ := noC) (k := 0) F hg hb sc_blocks_of rfl rfl rfl (by decide) hBL (by decide +kernel) rkF_ne (by simp [G3, G2, G1, G0]) (fun f hs n hm => ?_) mblocks_of
  simp [sblocks_of] at hm
theorem sc_states_come : FnScope sstates_come.N ["starts", "steps", "blocks"] (defScope (top 8)) := ⟨rfl, rfl, rfl, by decide +kernel, rfl, by decide +kernel, by decide +kernel⟩
theorem j_states_come {a : Addr} {fd : FuncData} (F : Fun K "states_come" "states_come" (top 8) a fd) (hg : mg "states_come" = some (.ref a)) (hb : Binds K fd ["starts", "steps", "blocks"] []) (hBL : ∀ x ∈ BL, mg x = none)  : Cl P w K mg base G3 rkF 1 "states_come" false 3 := by
  refine cl_def (nm := "states_come") (S := sstates_come) (fl := Fstates_come) (Γ := noC) (k := 0) F hg hb sc_states_come rfl rfl rfl (by decide) hBL (by decide +kernel) rkF_ne (by simp [G3, G2, G1, G0]) (fun f hs n hm => ?_) mstates_come
  simp [sstates_come] at hm
theorem sc_state_led : FnScope sstate_led.N ["value", "lot", "digits"] (defScope (top 10)) := ⟨rfl, rfl, rfl, by decide +kernel, rfl, by decide +kernel, by decide +kernel⟩
theorem j_state_led {a : Addr} {fd : FuncData} (F : Fun K "state_led" "state_led" (top 10) a fd) (hg : mg "state_led" = some (.ref a)) (hb : Binds K fd ["value", "lot", "digits"] []) (hBL : ∀ x ∈ BL, mg x = none)  : Cl P w K mg base G3 rkF 1 "state_led" false 3 := by
  refine cl_def (nm := "state_led") (S := sstate_led) (fl := Fstate_led) (Γ := noC) (k := 0) F hg hb sc_state_led rfl rfl rfl (by decide) hBL (by decide +kernel) rkF_ne (by simp [G3, G2, G1, G0]) (fun f hs n hm => ?_) mstate_led
  simp [sstate_led] at hm
theorem sc__law_parts : FnScope s_law_parts.N ["steps"] (defScope (top 19)) := ⟨rfl, rfl, rfl, by decide +kernel, rfl, by decide +kernel, by decide +kernel⟩
theorem j__law_parts {a : Addr} {fd : FuncData} (F : Fun K "_law_parts" "_law_parts" (top 19) a fd) (hg : mg "_law_parts" = some (.ref a)) (hb : Binds K fd ["steps"] []) (hBL : ∀ x ∈ BL, mg x = none)  : Cl P w K mg base G3 rkF 1 "_law_parts" false 1 := by
  refine cl_def (nm := "_law_parts") (S := s_law_parts) (fl := F_law_parts) (Γ := noC) (k := 0) F hg hb sc__law_parts rfl rfl rfl (by decide) hBL (by decide +kernel) rkF_ne (by simp [G3, G2, G1, G0]) (fun f hs n hm => ?_) m_law_parts
  simp [s_law_parts] at hm
theorem sc__law_counts : FnScope s_law_counts.N ["value", "most"] (defScope (top 21)) := ⟨rfl, rfl, rfl, by decide +kernel, rfl, by decide +kernel, by decide +kernel⟩
theorem j__law_counts {a : Addr} {fd : FuncData} (F : Fun K "_law_counts" "_law_counts" (top 21) a fd) (hg : mg "_law_counts" = some (.ref a)) (hb : Binds K fd ["value", "most"] []) (hBL : ∀ x ∈ BL, mg x = none)  : Cl P w K mg base G3 rkF 1 "_law_counts" false 2 := by
  refine cl_def (nm := "_law_counts") (S := s_law_counts) (fl := F_law_counts) (Γ := noC) (k := 0) F hg hb sc__law_counts rfl rfl rfl (by decide) hBL (by decide +kernel) rkF_ne (by simp [G3, G2, G1, G0]) (fun f hs n hm => ?_) m_law_counts
  simp [s_law_counts] at hm
theorem sc__law_rows : FnScope s_law_rows.N ["digits", "many"] (defScope (top 22)) := ⟨rfl, rfl, rfl, by decide +kernel, rfl, by decide +kernel, by decide +kernel⟩
theorem j__law_rows {a : Addr} {fd : FuncData} (F : Fun K "_law_rows" "_law_rows" (top 22) a fd) (hg : mg "_law_rows" = some (.ref a)) (hb : Binds K fd ["digits", "many"] []) (hBL : ∀ x ∈ BL, mg x = none)  : Cl P w K mg base G3 rkF 1 "_law_rows" false 2 := by
  refine cl_def (nm := "_law_rows") (S := s_law_rows) (fl := F_law_rows) (Γ := noC) (k := 0) F hg hb sc__law_rows rfl rfl rfl (by decide) hBL (by decide +kernel) rkF_ne (by simp [G3, G2, G1, G0]) (fun f hs n hm => ?_) m_law_rows
  simp [s_law_rows] at hm
theorem sc_is_lot : FnScope sis_lot.N ["value"] (defScope (top 3)) := ⟨rfl, rfl, rfl, by decide +kernel, rfl, by decide +kernel, by decide +kernel⟩
theorem j_is_lot {a : Addr} {fd : FuncData} (F : Fun K "is_lot" "is_lot" (top 3) a fd) (hg : mg "is_lot" = some (.ref a)) (hb : Binds K fd ["value"] []) (hBL : ∀ x ∈ BL, mg x = none) (c_is_whole : Cl P w K mg base G3 rkF 1 "is_whole" false 1) : Cl P w K mg base G3 rkF 2 "is_lot" false 1 := by
  refine cl_def (nm := "is_lot") (S := sis_lot) (fl := Fis_lot) (Γ := G0) (k := 1) F hg hb sc_is_lot rfl rfl rfl (by decide) hBL (by decide +kernel) rkF_ne (by simp [G3, G2, G1, G0]) (fun f hs n hm => ?_) mis_lot
  simp only [sis_lot, List.mem_cons, List.not_mem_nil, or_false, Prod.mk.injEq] at hm
  rcases hm with ⟨rfl, rfl, rfl⟩
  · exact c_is_whole.congr (by simp [G3, G2, G1, G0])
theorem sc_told_by : FnScope stold_by.N ["starts", "steps"] (defScope (top 9)) := ⟨rfl, rfl, rfl, by decide +kernel, rfl, by decide +kernel, by decide +kernel⟩
theorem j_told_by {a : Addr} {fd : FuncData} (F : Fun K "told_by" "told_by" (top 9) a fd) (hg : mg "told_by" = some (.ref a)) (hb : Binds K fd ["starts", "steps"] []) (hBL : ∀ x ∈ BL, mg x = none) (c_blocks_of : Cl P w K mg base G3 rkF 1 "blocks_of" false 1) (c_states_come : Cl P w K mg base G3 rkF 1 "states_come" false 3) : Cl P w K mg base G3 rkF 2 "told_by" false 2 := by
  refine cl_def (nm := "told_by") (S := stold_by) (fl := Ftold_by) (Γ := G0) (k := 1) F hg hb sc_told_by rfl rfl rfl (by decide) hBL (by decide +kernel) rkF_ne (by simp [G3, G2, G1, G0]) (fun f hs n hm => ?_) mtold_by
  simp only [stold_by, List.mem_cons, List.not_mem_nil, or_false, Prod.mk.injEq] at hm
  rcases hm with ⟨rfl, rfl, rfl⟩ | ⟨rfl, rfl, rfl⟩
  · exact c_blocks_of.congr (by simp [G3, G2, G1, G0])
  · exact c_states_come.congr (by simp [G3, G2, G1, G0])
theorem sc_are_lines : FnScope sare_lines.N ["many", "value"] (defScope (top 12)) := ⟨rfl, rfl, rfl, by decide +kernel, rfl, by decide +kernel, by decide +kernel⟩
theorem j_are_lines {a : Addr} {fd : FuncData} (F : Fun K "are_lines" "are_lines" (top 12) a fd) (hg : mg "are_lines" = some (.ref a)) (hb : Binds K fd ["many", "value"] []) (hBL : ∀ x ∈ BL, mg x = none) (c_is_whole : Cl P w K mg base G3 rkF 1 "is_whole" false 1) : Cl P w K mg base G3 rkF 2 "are_lines" false 2 := by
  refine cl_def (nm := "are_lines") (S := sare_lines) (fl := Fare_lines) (Γ := G0) (k := 1) F hg hb sc_are_lines rfl rfl rfl (by decide) hBL (by decide +kernel) rkF_ne (by simp [G3, G2, G1, G0]) (fun f hs n hm => ?_) mare_lines
  simp only [sare_lines, List.mem_cons, List.not_mem_nil, or_false, Prod.mk.injEq] at hm
  rcases hm with ⟨rfl, rfl, rfl⟩
  · exact c_is_whole.congr (by simp [G3, G2, G1, G0])
theorem sc__law_of : FnScope s_law_of.N ["source", "some"] (defScope (top 17)) := ⟨rfl, rfl, rfl, by decide +kernel, rfl, by decide +kernel, by decide +kernel⟩
theorem j__law_of {a : Addr} {fd : FuncData} (F : Fun K "_law_of" "_law_of" (top 17) a fd) (hg : mg "_law_of" = some (.ref a)) (hb : Binds K fd ["source", "some"] []) (hBL : ∀ x ∈ BL, mg x = none) (c__law_pick : Cl P w K mg base G3 rkF 1 "_law_pick" true 1) : Cl P w K mg base G3 rkF 2 "_law_of" true 1 := by
  refine cl_def (nm := "_law_of") (S := s_law_of) (fl := F_law_of) (Γ := G0) (k := 1) F hg hb sc__law_of rfl rfl rfl (by decide) hBL (by decide +kernel) rkF_ne (by simp [G3, G2, G1, G0]) (fun f hs n hm => ?_) m_law_of
  simp only [s_law_of, List.mem_cons, List.not_mem_nil, or_false, Prod.mk.injEq] at hm
  rcases hm with ⟨rfl, rfl, rfl⟩
  · exact c__law_pick.congr (by simp [G3, G2, G1, G0])
theorem sc__law_drawn_steps : FnScope s_law_drawn_steps.N ["source", "many", "digits"] (defScope (top 18)) := ⟨rfl, rfl, rfl, by decide +kernel, rfl, by decide +kernel, by decide +kernel⟩
theorem j__law_drawn_steps {a : Addr} {fd : FuncData} (F : Fun K "_law_drawn_steps" "_law_drawn_steps" (top 18) a fd) (hg : mg "_law_drawn_steps" = some (.ref a)) (hb : Binds K fd ["source", "many", "digits"] []) (hBL : ∀ x ∈ BL, mg x = none) (c__law_pick : Cl P w K mg base G3 rkF 1 "_law_pick" true 1) : Cl P w K mg base G3 rkF 2 "_law_drawn_steps" true 2 := by
  refine cl_def (nm := "_law_drawn_steps") (S := s_law_drawn_steps) (fl := F_law_drawn_steps) (Γ := G0) (k := 1) F hg hb sc__law_drawn_steps rfl rfl rfl (by decide) hBL (by decide +kernel) rkF_ne (by simp [G3, G2, G1, G0]) (fun f hs n hm => ?_) m_law_drawn_steps
  simp only [s_law_drawn_steps, List.mem_cons, List.not_mem_nil, or_false, Prod.mk.injEq] at hm
  rcases hm with ⟨rfl, rfl, rfl⟩
  · exact c__law_pick.congr (by simp [G3, G2, G1, G0])
theorem sc__law_least : FnScope s_law_least.N ["starts", "steps"] (defScope (top 20)) := ⟨rfl, rfl, rfl, by decide +kernel, rfl, by decide +kernel, by decide +kernel⟩
theorem j__law_least {a : Addr} {fd : FuncData} (F : Fun K "_law_least" "_law_least" (top 20) a fd) (hg : mg "_law_least" = some (.ref a)) (hb : Binds K fd ["starts", "steps"] []) (hBL : ∀ x ∈ BL, mg x = none) (c__law_parts : Cl P w K mg base G3 rkF 1 "_law_parts" false 1) : Cl P w K mg base G3 rkF 2 "_law_least" false 2 := by
  refine cl_def (nm := "_law_least") (S := s_law_least) (fl := F_law_least) (Γ := G0) (k := 1) F hg hb sc__law_least rfl rfl rfl (by decide) hBL (by decide +kernel) rkF_ne (by simp [G3, G2, G1, G0]) (fun f hs n hm => ?_) m_law_least
  simp only [s_law_least, List.mem_cons, List.not_mem_nil, or_false, Prod.mk.injEq] at hm
  rcases hm with ⟨rfl, rfl, rfl⟩
  · exact c__law_parts.congr (by simp [G3, G2, G1, G0])
theorem sc_are_starts : FnScope sare_starts.N ["many", "value"] (defScope (top 11)) := ⟨rfl, rfl, rfl, by decide +kernel, rfl, by decide +kernel, by decide +kernel⟩
theorem j_are_starts {a : Addr} {fd : FuncData} (F : Fun K "are_starts" "are_starts" (top 11) a fd) (hg : mg "are_starts" = some (.ref a)) (hb : Binds K fd ["many", "value"] []) (hBL : ∀ x ∈ BL, mg x = none) (c_is_lot : Cl P w K mg base G3 rkF 2 "is_lot" false 1) (c_is_whole : Cl P w K mg base G3 rkF 2 "is_whole" false 1) : Cl P w K mg base G3 rkF 3 "are_starts" false 2 := by
  refine cl_def (nm := "are_starts") (S := sare_starts) (fl := Fare_starts) (Γ := G1) (k := 2) F hg hb sc_are_starts rfl rfl rfl (by decide) hBL (by decide +kernel) rkF_ne (by simp [G3, G2, G1, G0]) (fun f hs n hm => ?_) mare_starts
  simp only [sare_starts, List.mem_cons, List.not_mem_nil, or_false, Prod.mk.injEq] at hm
  rcases hm with ⟨rfl, rfl, rfl⟩ | ⟨rfl, rfl, rfl⟩
  · exact c_is_lot.congr (by simp [G3, G2, G1, G0])
  · exact c_is_whole.congr (by simp [G3, G2, G1, G0])
theorem sc__law_bent : FnScope s_law_bent.N ["source", "value", "digits"] (defScope (top 23)) := ⟨rfl, rfl, rfl, by decide +kernel, rfl, by decide +kernel, by decide +kernel⟩
theorem j__law_bent {a : Addr} {fd : FuncData} (F : Fun K "_law_bent" "_law_bent" (top 23) a fd) (hg : mg "_law_bent" = some (.ref a)) (hb : Binds K fd ["source", "value", "digits"] []) (hBL : ∀ x ∈ BL, mg x = none) (c__law_of : Cl P w K mg base G3 rkF 2 "_law_of" true 1) : Cl P w K mg base G3 rkF 3 "_law_bent" true 2 := by
  refine cl_def (nm := "_law_bent") (S := s_law_bent) (fl := F_law_bent) (Γ := G1) (k := 2) F hg hb sc__law_bent rfl rfl rfl (by decide) hBL (by decide +kernel) rkF_ne (by simp [G3, G2, G1, G0]) (fun f hs n hm => ?_) m_law_bent
  simp only [s_law_bent, List.mem_cons, List.not_mem_nil, or_false, Prod.mk.injEq] at hm
  rcases hm with ⟨rfl, rfl, rfl⟩
  · exact c__law_of.congr (by simp [G3, G2, G1, G0])
theorem sc_is_complete : FnScope sis_complete.N ["many", "value"] (defScope (top 13)) := ⟨rfl, rfl, rfl, by decide +kernel, rfl, by decide +kernel, by decide +kernel⟩
theorem j_is_complete {a : Addr} {fd : FuncData} (F : Fun K "is_complete" "is_complete" (top 13) a fd) (hg : mg "is_complete" = some (.ref a)) (hb : Binds K fd ["many", "value"] []) (hBL : ∀ x ∈ BL, mg x = none) (c_are_starts : Cl P w K mg base G3 rkF 3 "are_starts" false 2) (c_are_lines : Cl P w K mg base G3 rkF 3 "are_lines" false 2) (c_told_by : Cl P w K mg base G3 rkF 3 "told_by" false 2) : Cl P w K mg base G3 rkF 4 "is_complete" false 2 := by
  refine cl_def (nm := "is_complete") (S := sis_complete) (fl := Fis_complete) (Γ := G2) (k := 3) F hg hb sc_is_complete rfl rfl rfl (by decide) hBL (by decide +kernel) rkF_ne (by simp [G3, G2, G1, G0]) (fun f hs n hm => ?_) mis_complete
  simp only [sis_complete, List.mem_cons, List.not_mem_nil, or_false, Prod.mk.injEq] at hm
  rcases hm with ⟨rfl, rfl, rfl⟩ | ⟨rfl, rfl, rfl⟩ | ⟨rfl, rfl, rfl⟩
  · exact c_are_lines.congr (by simp [G3, G2, G1, G0])
  · exact c_are_starts.congr (by simp [G3, G2, G1, G0])
  · exact c_told_by.congr (by simp [G3, G2, G1, G0])
end
abbrev sLaw : Stmt := top 24
theorem sc_law : FnScope slaw.N ["script"] (defScope sLaw) := ⟨rfl, rfl, rfl, by decide +kernel, rfl, by decide +kernel, by decide +kernel⟩
theorem j_law {P : Program} {w : World} {K : PySem.W.Frag} {mg : Str → Option Value} {base : Heap} {f fS : Addr} {fd fdS : FuncData} (F : Fun K "law" "law" sLaw f fd) (FS : Fun K "_law_source" "_law_source" sSource fS fdS) (bS : Binds K fdS ["script"] []) (gS : mg "_law_source" = some (.ref fS)) (hBL : ∀ x ∈ BL, mg x = none) (c__law_drawn_steps : Cl P w K mg base G3 rkF 5 "_law_drawn_steps" true 2) (c__law_least : Cl P w K mg base G3 rkF 5 "_law_least" false 2) (c_is_complete : Cl P w K mg base G3 rkF 5 "is_complete" false 2) (c__law_bent : Cl P w K mg base G3 rkF 5 "_law_bent" true 2) (c__law_counts : Cl P w K mg base G3 rkF 5 "_law_counts" false 2) (c__law_rows : Cl P w K mg base G3 rkF 5 "_law_rows" false 2) (c_pieces_counted : Cl P w K mg base G3 rkF 5 "pieces_counted" false 2) (c__law_pick : Cl P w K mg base G3 rkF 5 "_law_pick" true 1) (c_state_led : Cl P w K mg base G3 rkF 5 "state_led" false 3) :
    FnG P w K mg base 6 f fd ["script"] (spLawG K) := by
  obtain ⟨Kn, hK⟩ := Option.isSome_iff_exists.mp mlaw
  refine ok_lawG (k := 4) (Γ := G3) (S := slaw) (ss := blaw) F sc_law rfl rfl (by decide +kernel) (by decide +kernel) (by decide +kernel) FS bS gS (hBL _ (by decide)) (hBL _ (by decide)) (fun x hx => hBL x ?_) rkF_ne (fun f hs n hm => ?_) hK (fun ns _ => law_true (srcOf ns))
  · have := List.all_eq_true.mp (show (slaw.bl.all fun x => BL.contains x) = true by decide +kernel) x hx
    simpa using this
  · simp only [slaw, List.mem_cons, List.not_mem_nil, or_false, Prod.mk.injEq] at hm
    rcases hm with ⟨rfl, rfl, rfl⟩ | ⟨rfl, rfl, rfl⟩ | ⟨rfl, rfl, rfl⟩ | ⟨rfl, rfl, rfl⟩ | ⟨rfl, rfl, rfl⟩ | ⟨rfl, rfl, rfl⟩ | ⟨rfl, rfl, rfl⟩ | ⟨rfl, rfl, rfl⟩ | ⟨rfl, rfl, rfl⟩
    · exact c__law_bent.ex
    · exact c__law_counts.ex
    · exact c__law_drawn_steps.ex
    · exact c__law_least.ex
    · exact c__law_pick.ex
    · exact c__law_rows.ex
    · exact c_is_complete.ex
    · exact c_pieces_counted.ex
    · exact c_state_led.ex
/-! ### the head -/
def dOf (x : Str) (st : Stmt) : He.DefD := ⟨(x, none), x, x, defArgs st, defBody st, defScope st, [], []⟩
def h_is_whole : He.DefD := dOf "is_whole" (top 1)
def h_is_lot : He.DefD := dOf "is_lot" (top 3)
def h_pieces_counted : He.DefD := dOf "pieces_counted" (top 5)
def h_blocks_of : He.DefD := dOf "blocks_of" (top 7)
def h_states_come : He.DefD := dOf "states_come" (top 8)
def h_told_by : He.DefD := dOf "told_by" (top 9)
def h_state_led : He.DefD := dOf "state_led" (top 10)
def h_are_starts : He.DefD := dOf "are_starts" (top 11)
def h_are_lines : He.DefD := dOf "are_lines" (top 12)
def h_is_complete : He.DefD := dOf "is_complete" (top 13)
def h__law_source : He.DefD := dOf "_law_source" (top 15)
def h__law_pick : He.DefD := dOf "_law_pick" (top 16)
def h__law_of : He.DefD := dOf "_law_of" (top 17)
def h__law_drawn_steps : He.DefD := dOf "_law_drawn_steps" (top 18)
def h__law_parts : He.DefD := dOf "_law_parts" (top 19)
def h__law_least : He.DefD := dOf "_law_least" (top 20)
def h__law_counts : He.DefD := dOf "_law_counts" (top 21)
def h__law_rows : He.DefD := dOf "_law_rows" (top 22)
def h__law_bent : He.DefD := dOf "_law_bent" (top 23)
def h_law : He.DefD := dOf "law" (top 24)
def fnL : List He.DefD := [h_is_whole, h_is_lot, h_pieces_counted, h_blocks_of, h_states_come, h_told_by, h_state_led, h_are_starts, h_are_lines, h_is_complete, h__law_source, h__law_pick, h__law_of, h__law_drawn_steps, h__law_parts, h__law_least, h__law_counts, h__law_rows, h__law_bent, h_law]
def faL : List He.Fa := [.glo "is_whole", .glo "is_lot", .glo "pieces_counted", .glo "blocks_of", .glo "states_come", .glo "told_by", .glo "state_led", .glo "are_starts", .glo "are_lines", .glo "is_complete", .glo "_law_source", .glo "_law_pick", .glo "_law_of", .glo "_law_drawn_steps", .glo "_law_parts", .glo "_law_least", .glo "_law_counts", .glo "_law_rows", .glo "_law_bent", .glo "law", .free "len", .free "range", .free "sum", .free "enumerate", .free "tuple", .free "dict", .free "isinstance", .free "all", .free "sorted", .free "bool", .free "int", .free "list", .free "repr", .free "abs", .free "max"]
def loose : List PySem.Str := ["is_whole", "is_lot", "pieces_counted", "blocks_of", "states_come", "told_by", "state_led", "are_starts", "are_lines", "is_complete", "_law_source", "_law_pick", "_law_of", "_law_drawn_steps", "_law_parts", "_law_least", "_law_counts", "_law_rows", "_law_bent"]
abbrev R : PySem.W.OpenRow := PySem.W.OpenLaw.row PySem.Challenge.rw_touchingtiles_k48_pieces_counted
abbrev hk : PySem.W.Hook := He.hookD 4 faL fnL
def ob (s : PySem.W.SharedT) : He.AlD := He.obsDG 4 faL fnL (HandSHeadRun.getT s)
theorem ob_eq (s : PySem.W.SharedT) : ob s = hk.obs s.abs := He.obsDG_eq (HandSHeadRun.getT_eq s)
theorem run (w : World) : HandSHeadRun.RunEq R (PySem.W.view R.prog [24]) hk ob 2000 loose w := by
  intro os
  kernel_rfl
theorem facts {P : Program} {w : World} {K : PySem.W.Frag} {h : Heap} {mg : Str → Option Value} {f : Addr} (X : K.In h) (G : h.Ns mainGlobals mg) (hfa : mg ("law" : Str) = some (.ref f)) (c : He.SaysD faL fnL K) :
    ∃ fd : FuncData, (∀ (s : Shared) (v : Value), BindsTo s fd ⟨[v], []⟩ [("script", v)]) ∧ ∀ base : Heap, K.In base → base.Ns mainGlobals mg → FnG P w K mg base 6 f fd ["script"] (spLawG K) := by
  have hBL : ∀ x ∈ BL, mg x = none := fun x hx => by
    simp only [BL, List.mem_cons, List.not_mem_nil, or_false] at hx
    rcases hx with rfl | rfl | rfl | rfl | rfl | rfl | rfl | rfl | rfl | rfl | rfl | rfl | rfl | rfl | rfl
    · exact He.free_ok X G (c.fact 20 (f := .free "len") rfl)
    · exact He.free_ok X G (c.fact 21 (f := .free "range") rfl)
    · exact He.free_ok X G (c.fact 22 (f := .free "sum") rfl)
    · exact He.free_ok X G (c.fact 23 (f := .free "enumerate") rfl)
    · exact He.free_ok X G (c.fact 24 (f := .free "tuple") rfl)
    · exact He.free_ok X G (c.fact 25 (f := .free "dict") rfl)
    · exact He.free_ok X G (c.fact 26 (f := .free "isinstance") rfl)
    · exact He.free_ok X G (c.fact 27 (f := .free "all") rfl)
    · exact He.free_ok X G (c.fact 28 (f := .free "sorted") rfl)
    · exact He.free_ok X G (c.fact 29 (f := .free "bool") rfl)
    · exact He.free_ok X G (c.fact 30 (f := .free "int") rfl)
    · exact He.free_ok X G (c.fact 31 (f := .free "list") rfl)
    · exact He.free_ok X G (c.fact 32 (f := .free "repr") rfl)
    · exact He.free_ok X G (c.fact 33 (f := .free "abs") rfl)
    · exact He.free_ok X G (c.fact 34 (f := .free "max") rfl)
  obtain ⟨fd_is_whole, FD_is_whole⟩ := c.def_ 0 (d := h_is_whole) rfl
  have F_is_whole : Fun K "is_whole" "is_whole" (top 1) _ fd_is_whole := FunD.fun FD_is_whole
  have g_is_whole := He.glo_ok X G (c.fact 0 (f := .glo "is_whole") rfl)
  have b_is_whole : Binds K fd_is_whole ["value"] [] := FunD.bindsN FD_is_whole fun _ _ _ _ _ _ us hl => match us, hl with | [_], _ => rfl
  obtain ⟨fd_is_lot, FD_is_lot⟩ := c.def_ 1 (d := h_is_lot) rfl
  have F_is_lot : Fun K "is_lot" "is_lot" (top 3) _ fd_is_lot := FunD.fun FD_is_lot
  have g_is_lot := He.glo_ok X G (c.fact 1 (f := .glo "is_lot") rfl)
  have b_is_lot : Binds K fd_is_lot ["value"] [] := FunD.bindsN FD_is_lot fun _ _ _ _ _ _ us hl => match us, hl with | [_], _ => rfl
  obtain ⟨fd_pieces_counted, FD_pieces_counted⟩ := c.def_ 2 (d := h_pieces_counted) rfl
  have F_pieces_counted : Fun K "pieces_counted" "pieces_counted" (top 5) _ fd_pieces_counted := FunD.fun FD_pieces_counted
  have g_pieces_counted := He.glo_ok X G (c.fact 2 (f := .glo "pieces_counted") rfl)
  have b_pieces_counted : Binds K fd_pieces_counted ["value", "many"] [] := FunD.bindsN FD_pieces_counted fun _ _ _ _ _ _ us hl => match us, hl with | [_, _], _ => rfl
  obtain ⟨fd_blocks_of, FD_blocks_of⟩ := c.def_ 3 (d := h_blocks_of) rfl
  have F_blocks_of : Fun K "blocks_of" "blocks_of" (top 7) _ fd_blocks_of := FunD.fun FD_blocks_of
  have g_blocks_of := He.glo_ok X G (c.fact 3 (f := .glo "blocks_of") rfl)
  have b_blocks_of : Binds K fd_blocks_of ["steps"] [] := FunD.bindsN FD_blocks_of fun _ _ _ _ _ _ us hl => match us, hl with | [_], _ => rfl
  obtain ⟨fd_states_come, FD_states_come⟩ := c.def_ 4 (d := h_states_come) rfl
  have F_states_come : Fun K "states_come" "states_come" (top 8) _ fd_states_come := FunD.fun FD_states_come
  have g_states_come := He.glo_ok X G (c.fact 4 (f := .glo "states_come") rfl)
  have b_states_come : Binds K fd_states_come ["starts", "steps", "blocks"] [] := FunD.bindsN FD_states_come fun _ _ _ _ _ _ us hl => match us, hl with | [_, _, _], _ => rfl
  obtain ⟨fd_told_by, FD_told_by⟩ := c.def_ 5 (d := h_told_by) rfl
  have F_told_by : Fun K "told_by" "told_by" (top 9) _ fd_told_by := FunD.fun FD_told_by
  have g_told_by := He.glo_ok X G (c.fact 5 (f := .glo "told_by") rfl)
  have b_told_by : Binds K fd_told_by ["starts", "steps"] [] := FunD.bindsN FD_told_by fun _ _ _ _ _ _ us hl => match us, hl with | [_, _], _ => rfl
  obtain ⟨fd_state_led, FD_state_led⟩ := c.def_ 6 (d := h_state_led) rfl
  have F_state_led : Fun K "state_led" "state_led" (top 10) _ fd_state_led := FunD.fun FD_state_led
  have g_state_led := He.glo_ok X G (c.fact 6 (f := .glo "state_led") rfl)
  have b_state_led : Binds K fd_state_led ["value", "lot", "digits"] [] := FunD.bindsN FD_state_led fun _ _ _ _ _ _ us hl => match us, hl with | [_, _, _], _ => rfl
  obtain ⟨fd_are_starts, FD_are_starts⟩ := c.def_ 7 (d := h_are_starts) rfl
  have F_are_starts : Fun K "are_starts" "are_starts" (top 11) _ fd_are_starts := FunD.fun FD_are_starts
  have g_are_starts := He.glo_ok X G (c.fact 7 (f := .glo "are_starts") rfl)
  have b_are_starts : Binds K fd_are_starts ["many", "value"] [] := FunD.bindsN FD_are_starts fun _ _ _ _ _ _ us hl => match us, hl with | [_, _], _ => rfl
  obtain ⟨fd_are_lines, FD_are_lines⟩ := c.def_ 8 (d := h_are_lines) rfl
  have F_are_lines : Fun K "are_lines" "are_lines" (top 12) _ fd_are_lines := FunD.fun FD_are_lines
  have g_are_lines := He.glo_ok X G (c.fact 8 (f := .glo "are_lines") rfl)
  have b_are_lines : Binds K fd_are_lines ["many", "value"] [] := FunD.bindsN FD_are_lines fun _ _ _ _ _ _ us hl => match us, hl with | [_, _], _ => rfl
  obtain ⟨fd_is_complete, FD_is_complete⟩ := c.def_ 9 (d := h_is_complete) rfl
  have F_is_complete : Fun K "is_complete" "is_complete" (top 13) _ fd_is_complete := FunD.fun FD_is_complete
  have g_is_complete := He.glo_ok X G (c.fact 9 (f := .glo "is_complete") rfl)
  have b_is_complete : Binds K fd_is_complete ["many", "value"] [] := FunD.bindsN FD_is_complete fun _ _ _ _ _ _ us hl => match us, hl with | [_, _], _ => rfl
  obtain ⟨fd__law_source, FD__law_source⟩ := c.def_ 10 (d := h__law_source) rfl
  have F__law_source : Fun K "_law_source" "_law_source" (top 15) _ fd__law_source := FunD.fun FD__law_source
  have g__law_source := He.glo_ok X G (c.fact 10 (f := .glo "_law_source") rfl)
  have b__law_source : Binds K fd__law_source ["script"] [] := FunD.bindsN FD__law_source fun _ _ _ _ _ _ us hl => match us, hl with | [_], _ => rfl
  obtain ⟨fd__law_pick, FD__law_pick⟩ := c.def_ 11 (d := h__law_pick) rfl
  have F__law_pick : Fun K "_law_pick" "_law_pick" (top 16) _ fd__law_pick := FunD.fun FD__law_pick
  have g__law_pick := He.glo_ok X G (c.fact 11 (f := .glo "_law_pick") rfl)
  have b__law_pick : Binds K fd__law_pick ["source", "many"] [] := FunD.bindsN FD__law_pick fun _ _ _ _ _ _ us hl => match us, hl with | [_, _], _ => rfl
  obtain ⟨fd__law_of, FD__law_of⟩ := c.def_ 12 (d := h__law_of) rfl
  have F__law_of : Fun K "_law_of" "_law_of" (top 17) _ fd__law_of := FunD.fun FD__law_of
  have g__law_of := He.glo_ok X G (c.fact 12 (f := .glo "_law_of") rfl)
  have b__law_of : Binds K fd__law_of ["source", "some"] [] := FunD.bindsN FD__law_of fun _ _ _ _ _ _ us hl => match us, hl with | [_, _], _ => rfl
  obtain ⟨fd__law_drawn_steps, FD__law_drawn_steps⟩ := c.def_ 13 (d := h__law_drawn_steps) rfl
  have F__law_drawn_steps : Fun K "_law_drawn_steps" "_law_drawn_steps" (top 18) _ fd__law_drawn_steps := FunD.fun FD__law_drawn_steps
  have g__law_drawn_steps := He.glo_ok X G (c.fact 13 (f := .glo "_law_drawn_steps") rfl)
  have b__law_drawn_steps : Binds K fd__law_drawn_steps ["source", "many", "digits"] [] := FunD.bindsN FD__law_drawn_steps fun _ _ _ _ _ _ us hl => match us, hl with | [_, _, _], _ => rfl
  obtain ⟨fd__law_parts, FD__law_parts⟩ := c.def_ 14 (d := h__law_parts) rfl
  have F__law_parts : Fun K "_law_parts" "_law_parts" (top 19) _ fd__law_parts := FunD.fun FD__law_parts
  have g__law_parts := He.glo_ok X G (c.fact 14 (f := .glo "_law_parts") rfl)
  have b__law_parts : Binds K fd__law_parts ["steps"] [] := FunD.bindsN FD__law_parts fun _ _ _ _ _ _ us hl => match us, hl with | [_], _ => rfl
  obtain ⟨fd__law_least, FD__law_least⟩ := c.def_ 15 (d := h__law_least) rfl
  have F__law_least : Fun K "_law_least" "_law_least" (top 20) _ fd__law_least := FunD.fun FD__law_least
  have g__law_least := He.glo_ok X G (c.fact 15 (f := .glo "_law_least") rfl)
  have b__law_least : Binds K fd__law_least ["starts", "steps"] [] := FunD.bindsN FD__law_least fun _ _ _ _ _ _ us hl => match us, hl with | [_, _], _ => rfl
  obtain ⟨fd__law_counts, FD__law_counts⟩ := c.def_ 16 (d := h__law_counts) rfl
  have F__law_counts : Fun K "_law_counts" "_law_counts" (top 21) _ fd__law_counts := FunD.fun FD__law_counts
  have g__law_counts := He.glo_ok X G (c.fact 16 (f := .glo "_law_counts") rfl)
  have b__law_counts : Binds K fd__law_counts ["value", "most"] [] := FunD.bindsN FD__law_counts fun _ _ _ _ _ _ us hl => match us, hl with | [_, _], _ => rfl
  obtain ⟨fd__law_rows, FD__law_rows⟩ := c.def_ 17 (d := h__law_rows) rfl
  have F__law_rows : Fun K "_law_rows" "_law_rows" (top 22) _ fd__law_rows := FunD.fun FD__law_rows
  have g__law_rows := He.glo_ok X G (c.fact 17 (f := .glo "_law_rows") rfl)
  have b__law_rows : Binds K fd__law_rows ["digits", "many"] [] := FunD.bindsN FD__law_rows fun _ _ _ _ _ _ us hl => match us, hl with | [_, _], _ => rfl
  obtain ⟨fd__law_bent, FD__law_bent⟩ := c.def_ 18 (d := h__law_bent) rfl
  have F__law_bent : Fun K "_law_bent" "_law_bent" (top 23) _ fd__law_bent := FunD.fun FD__law_bent
  have g__law_bent := He.glo_ok X G (c.fact 18 (f := .glo "_law_bent") rfl)
  have b__law_bent : Binds K fd__law_bent ["source", "value", "digits"] [] := FunD.bindsN FD__law_bent fun _ _ _ _ _ _ us hl => match us, hl with | [_, _, _], _ => rfl
  obtain ⟨fd_law, FD_law⟩ := c.def_ 19 (d := h_law) rfl
  have F_law : Fun K "law" "law" (top 24) _ fd_law := FunD.fun FD_law
  have g_law := He.glo_ok X G (c.fact 19 (f := .glo "law") rfl)
  have b_law : Binds K fd_law ["script"] [] := FunD.bindsN FD_law fun _ _ _ _ _ _ us hl => match us, hl with | [_], _ => rfl
  have e := hfa.symm.trans g_law
  cases e
  have bA := FunD.bindsA (ps := ["script"]) FD_law fun _ _ _ _ _ _ us hl => match us, hl with | [_], _ => rfl
  refine ⟨fd_law, fun s v => bA s [v] rfl, fun base _ _ => ?_⟩
  have c__law_pick : Cl P w K mg base G3 rkF 1 "_law_pick" true 1 := ⟨⟨_, _, _, g__law_pick, ok_pick (k := 0) F__law_pick (hBL _ (by decide)) (hBL _ (by decide)) (hBL _ (by decide)) (fun ds s => by rw [show G3 "_law_pick" = pick by simp [G3, G2, G1, G0]]), F__law_pick.kp, b__law_pick⟩⟩
  have c_is_whole := j_is_whole (P := P) (w := w) (base := base) F_is_whole g_is_whole b_is_whole hBL 
  have c_pieces_counted := j_pieces_counted (P := P) (w := w) (base := base) F_pieces_counted g_pieces_counted b_pieces_counted hBL 
  have c_blocks_of := j_blocks_of (P := P) (w := w) (base := base) F_blocks_of g_blocks_of b_blocks_of hBL 
  have c_states_come := j_states_come (P := P) (w := w) (base := base) F_states_come g_states_come b_states_come hBL 
  have c_state_led := j_state_led (P := P) (w := w) (base := base) F_state_led g_state_led b_state_led hBL 
  have c__law_parts := j__law_parts (P := P) (w := w) (base := base) F__law_parts g__law_parts b__law_parts hBL 
  have c__law_counts := j__law_counts (P := P) (w := w) (base := base) F__law_counts g__law_counts b__law_counts hBL 
  have c__law_rows := j__law_rows (P := P) (w := w) (base := base) F__law_rows g__law_rows b__law_rows hBL 
  have c_is_lot := j_is_lot (P := P) (w := w) (base := base) F_is_lot g_is_lot b_is_lot hBL (c_is_whole.mono (by decide))
  have c_told_by := j_told_by (P := P) (w := w) (base := base) F_told_by g_told_by b_told_by hBL (c_blocks_of.mono (by decide)) (c_states_come.mono (by decide))
  have c_are_lines := j_are_lines (P := P) (w := w) (base := base) F_are_lines g_are_lines b_are_lines hBL (c_is_whole.mono (by decide))
  have c__law_of := j__law_of (P := P) (w := w) (base := base) F__law_of g__law_of b__law_of hBL (c__law_pick.mono (by decide))
  have c__law_drawn_steps := j__law_drawn_steps (P := P) (w := w) (base := base) F__law_drawn_steps g__law_drawn_steps b__law_drawn_steps hBL (c__law_pick.mono (by decide))
  have c__law_least := j__law_least (P := P) (w := w) (base := base) F__law_least g__law_least b__law_least hBL (c__law_parts.mono (by decide))
  have c_are_starts := j_are_starts (P := P) (w := w) (base := base) F_are_starts g_are_starts b_are_starts hBL (c_is_lot.mono (by decide)) (c_is_whole.mono (by decide))
  have c__law_bent := j__law_bent (P := P) (w := w) (base := base) F__law_bent g__law_bent b__law_bent hBL (c__law_of.mono (by decide))
  have c_is_complete := j_is_complete (P := P) (w := w) (base := base) F_is_complete g_is_complete b_is_complete hBL (c_are_starts.mono (by decide)) (c_are_lines.mono (by decide)) (c_told_by.mono (by decide))
  exact j_law F_law F__law_source b__law_source g__law_source hBL (c__law_drawn_steps.mono (by decide)) (c__law_least.mono (by decide)) (c_is_complete.mono (by decide)) (c__law_bent.mono (by decide)) (c__law_counts.mono (by decide)) (c__law_rows.mono (by decide)) (c_pieces_counted.mono (by decide)) (c__law_pick.mono (by decide)) (c_state_led.mono (by decide))
end K48
open PySem PySem.W PySem.Calls PyProof.Rows
set_option maxHeartbeats 0 in
theorem PySem.Challenge.cw_touchingtiles_k48_pieces_counted_holds : PySem.Challenge.rw_touchingtiles_k48_pieces_counted.Holds := by
  w_on; o_law
  refine HandSHeadRun.head_any (r := OpenLaw.row PySem.Challenge.rw_touchingtiles_k48_pieces_counted) (q := view (OpenLaw.row PySem.Challenge.rw_touchingtiles_k48_pieces_counted).prog [24]) (H := K48.hk) (ob := K48.ob) (M := 2000) (loose := K48.loose) (d := HandSHeadRun.topDef (OpenLaw.row PySem.Challenge.rw_touchingtiles_k48_pieces_counted).prog 24) (kwd := []) K48.ob_eq
    (by kernel_rfl) (fun s => by kernel_rfl) K48.run (by kernel_rfl) (by kernel_rfl) (by kernel_rfl) (by rfl) (by first | assumption | decide +kernel) (by decide +kernel) ⟨rfl, rfl, rfl, rfl, rfl, by decide +kernel⟩ ?hw ?hc
  case hw => w_witness2
  case hc =>
    refine EvS.walk_ofEG (l := PySem.Challenge.rw_touchingtiles_k48_pieces_counted) (n := 63) (k := 6) (x := "script") rfl (by decide) (by kernel_rfl) ⟨rfl, by decide, by decide⟩ ?F
    intro w mg fa h Y G hmg0
    obtain ⟨K, KX, c⟩ := Y
    have hmg : mg ("law" : PySem.Str) = some (.ref fa) := by
      have e : (HandSHeadRun.topDef (OpenLaw.row PySem.Challenge.rw_touchingtiles_k48_pieces_counted).prog 24).name = ("law" : PySem.Str) := by kernel_rfl
      rw [← e]
      exact hmg0
    obtain ⟨fd, hb, hF⟩ := K48.facts (P := (PySem.Challenge.rw_touchingtiles_k48_pieces_counted).prog) (w := w) KX G hmg c
    exact ⟨K, fd, EvS.spLawG K, KX, hb, fun H a ns hl _ hS => ⟨a, ns, rfl, hS, hl, fun _ => rfl⟩, hF⟩
