import PyProof.Rows.All
import PySem.Str
import PyProof.P3Statements
import PyProof.ReprReads
import HandS.ForMost
import HandS.Deep
import HandS.Strs
import HandS.TupSets
import HandS.TupMul
import HandS.SortInts
import HandS.TupAny
import KE.DatumOrd
import HandS.ForExc
import HandS.Wide
import HandS.IsInst
import HandS.Flow
import HandS.Conv
import HandS.Style
import HandS.Star
import HandS.Walk
import HandS.Zip
import KE.GoesMore
import HandS.More
import HandS.Small
import HandS.TryOnly
import PyProof.DictUpdate
import PySem.Eval
import OpenK.AllK
import HandS.Defaults
import HandS.Words
import HandS.Ends
import HandS.HeadEnd
import HandS.Head2
import HandS.HeadHook1
import HandS.HeadHook2
import PyProof.FitsInt
import PyProof.TableCode
import PySem.Challenge.RW_whichhome_k77_least_piles
set_option Elab.async false
section
set_option linter.all false
/-! Mi: a small language by values, and its evaluator. -/
namespace Mi
open PySem

abbrev Key := Sum Int Str

/-- a value: lists and dicts by what they hold -/
inductive PV where
  | non | bl (b : Bool) | int (i : Int) | str (x : Str)
  | tup (xs : List PV) | lst (xs : List PV) | dct (kvs : List (Key × PV))
  | exc (c : Nat) (fs : List (Str × PV))
  | scr (ns : List Int)
deriving Inhabited

/-- a list or a dict -/
def isL : PV → Bool
  | .lst _ => true
  | .dct _ => true
  | _ => false

/-- a value and how deep it is owned -/
abbrev Arg := PV × Nat
abbrev Rho := List (Option Arg)

/-- functions that lay nothing -/
inductive Fn where
  | add | sub | mul | fdiv | mod | pow | neg
  | lt | le | gt | ge | eq | ne | is | isnot | in_ | notin
  | get | len | sum | abs | int | max2 | min2 | max1 | min1 | all | any | repr | index | indexT
  | isInt | isBool | isStr | isTup
deriving DecidableEq, Repr

/-- functions that lay a new list, tuple or text -/
inductive Fa where
  | cat | rep | toL | toT | sorted | sortedSet | rev | rangeL1 | rangeL2
deriving DecidableEq, Repr

/-- what is walked -/
inductive Ik where
  | seq | range1 | range2 | range3 | enum | zip2 | zip3 | keys | values | items
deriving DecidableEq, Repr

/-- changes of a list or dict in its place -/
inductive Mo where
  | append | pop0 | pop1 | insert | extend | update | set | remove | clear | reverse
deriving DecidableEq, Repr

/-- simple expressions: nothing is laid, nothing changed -/
inductive SE where
  | var (i : Nat) | int (i : Int) | bl (b : Bool) | non | str (s : Str)
  | ap1 (f : Fn) (a : SE) | ap2 (f : Fn) (a b : SE)
  | chain (f g : Fn) (a b c : SE)
  | not (a : SE) | and (a b : SE) | or (a b : SE) | ite (t a b : SE)

inductive Pat where
  | name (i : Nat) | tup (ps : List Pat) | st (root : Nat) (path : List SE)

inductive ME where
  | s (e : SE) | var (i : Nat) | elem (i : Nat) (k : SE)
  | tup (es : List ME) | lst (es : List ME) | dct (ks : List SE) (es : List ME)
  | ap (f : Fn) (es : List ME) | apA (f : Fa) (es : List ME)
  | slice (a : ME) (lo hi : Option SE)
  | call (j : Nat) (es : List ME)
  | lc (own : List Nat) (p : Pat) (k : Ik) (es : List ME) (ifs : List ME) (elt : ME)
  | mut (o : Mo) (root : Nat) (path : List SE) (es : List ME)
  | ite (t a b : ME) | and (a b : ME) | or (a b : ME) | not (a : ME)
  | chain (f g : Fn) (a b c : ME)
  | fld (i : Nat) (f : Str)
  | no
  | starT (a b : ME)
  | upd (i : Nat) (e : ME)
  | cmpE (f : Fn) (e : SE)

inductive MS where
  | asg (p : Pat) (e : ME)
  | asgs (ps : List Pat) (es : List ME)
  | aug (i : Nat) (f : Fn) (e : ME)
  | augp (root : Nat) (path : List SE) (f : Fn) (e : ME)
  | ex (e : ME)
  | ifs (t : ME) (a b : List MS)
  | whl (t : ME) (b : List MS)
  | for_ (p : Pat) (k : Ik) (es : List ME) (b : List MS)
  | ret (e : ME) | retv (i : Nat) | retN
  | raise (c : Nat) (es : List ME)
  | try_ (b : List MS) (c : Nat) (n : Option Nat) (h : List MS)
  | brk | cont | pass | no

/-! ### values -/
mutual
def toD : PV → Option PyData
  | .non => some .none
  | .bl b => some (.bool b)
  | .int i => some (.int i)
  | .str x => some (.str x)
  | .tup xs => (toDs xs).map .tuple
  | .lst xs => (toDs xs).map .list
  | .dct _ => none
  | .exc _ _ => none
  | .scr _ => none
def toDs : List PV → Option (List PyData)
  | [] => some []
  | x :: xs => match toD x, toDs xs with
    | some d, some ds => some (d :: ds)
    | _, _ => none
end

/-- x == y -/
def okD (d : PyData) : Bool := d.canLay0 && decide (d.depth ≤ 63)
def peq (x y : PV) : Option Bool := match toD x, toD y with
  | some d, some e => if okD d && okD e then some (PyData.eqv d e) else none
  | _, _ => none
def prepr (x : PV) : Option PV := match x with
  | .dct [] => some (.str "{}")
  | x => match toD x with
    | some d => if d.showable && decide (d.depth ≤ 64) && decide (d.shown.length ≤ sizeLine) then some (.str d.shown) else none
    | _ => none

/-- the place that an index tells -/
def ixN (n : Nat) (i : Int) : Option Nat := if 0 ≤ i then (if i < n then some i.toNat else none) else if -(n : Int) ≤ i then some (i + n).toNat else none
def atI {α : Type} (xs : List α) (i : Int) : Option α := (ixN xs.length i).bind fun j => xs[j]?
def keyOf : PV → Option Key
  | .int i => some (.inl i)
  | .str x => some (.inr x)
  | _ => none
def dget (k : Key) : List (Key × PV) → Option PV
  | [] => none
  | (k', v) :: r => if k' = k then some v else dget k r
def dput (k : Key) (v : PV) : List (Key × PV) → List (Key × PV)
  | [] => [(k, v)]
  | (k', v') :: r => if k' = k then (k', v) :: r else (k', v') :: dput k v r

def get1 : PV → PV → Option PV
  | .lst xs, .int i => atI xs i
  | .tup xs, .int i => atI xs i
  | .dct kvs, k => (keyOf k).bind fun k => dget k kvs
  | _, _ => none

def truthy : PV → Option Bool
  | .bl b => some b
  | .int i => some (i != 0)
  | .str x => if x.length ≤ sizeLine then some (x.length != 0) else none
  | .lst xs => some (!xs.isEmpty)
  | .tup xs => some (!xs.isEmpty)
  | .non => some false
  | _ => none

def intsOf : List PV → Option (List Int)
  | [] => some []
  | .int i :: r => (intsOf r).map (i :: ·)
  | _ => none
def boolsOf : List PV → Option (List Bool)
  | [] => some []
  | .bl i :: r => (boolsOf r).map (i :: ·)
  | _ => none
def strsOf : List PV → Option (List Str)
  | [] => some []
  | .str i :: r => (strsOf r).map (i :: ·)
  | _ => none
def elems : PV → Option (List PV)
  | .lst xs => some xs
  | .tup xs => some xs
  | _ => none
def imax : List Int → Option Int
  | [] => none
  | x :: xs => some (xs.foldl max x)
def imin : List Int → Option Int
  | [] => none
  | x :: xs => some (xs.foldl min x)
def memB (x : PV) : List PV → Option Bool
  | [] => (peq x x).map fun _ => false
  | y :: ys => match peq y x, memB x ys with
    | some a, some b => some (a || b)
    | _, _ => none
def findB (x : PV) : List PV → Nat → Option Nat
  | [], _ => none
  | y :: ys, k => match peq y x with
    | some true => (memB x ys).map fun _ => k
    | some false => findB x ys (k + 1)
    | none => none
def inB (x : PV) : PV → Option Bool
  | .lst ys => memB x ys
  | .tup ys => memB x ys
  | .dct kvs => (keyOf x).map fun k => (dget k kvs).isSome
  | _ => none
def small (i : Int) : Bool := decide (-(2 ^ 64) < i) && decide (i < 2 ^ 64)

/-- two intsOf -/
def gI (g : Int → Int → Option PV) : PV → PV → Option PV
  | .int i, .int j => g i j
  | _, _ => none
def gLen : PV → Option PV
  | .lst xs => some (.int xs.length)
  | .tup xs => some (.int xs.length)
  | .dct xs => some (.int xs.length)
  | _ => none
def gIs (x y : PV) : Option PV := match y with
  | .non => some (.bl (match x with | .non => true | _ => false))
  | _ => none
def gIsnot (x y : PV) : Option PV := match y with
  | .non => some (.bl (match x with | .non => false | _ => true))
  | _ => none
def gInt : PV → Option PV
  | .int i => some (.int i)
  | .bl b => some (.int (if b then 1 else 0))
  | _ => none
def gAbs : PV → Option PV
  | .int i => some (.int (if i < 0 then -i else i))
  | _ => none
def gNeg : PV → Option PV
  | .int i => some (.int (-i))
  | _ => none
def onInts (g : List Int → Option PV) (x : PV) : Option PV := (elems x).bind fun xs => (intsOf xs).bind g
def onBools (g : List Bool → Option PV) (x : PV) : Option PV := (elems x).bind fun xs => (boolsOf xs).bind g
def gIndex (x y : PV) : Option PV := match x with
  | .lst xs => (findB y xs 0).map fun (k : Nat) => PV.int (k : Int)
  | _ => none
def findI (z : Int) : List Int → Nat → Option Nat
  | [], _ => none
  | y :: r, k => if y = z then some k else findI z r (k + 1)
def gIndexT (x y : PV) : Option PV := match x, y with
  | .tup xs, .int z => (intsOf xs).bind fun ns => (findI z ns 0).map fun (k : Nat) => PV.int (k : Int)
  | _, _ => none
inductive Kd where | int | bool | str | tup
deriving DecidableEq
def gKind (k : Kd) : PV → Option PV
  | .int _ => some (.bl (k == .int))
  | .bl _ => some (.bl (k == .int || k == .bool))
  | .str _ => some (.bl (k == .str))
  | .tup _ => some (.bl (k == .tup))
  | .exc _ _ => none
  | .scr _ => none
  | .non => some (.bl false)
  | .lst _ => some (.bl false)
  | .dct _ => some (.bl false)
def fn1 (f : Fn) (x : PV) : Option PV := match f with
  | .neg => gNeg x
  | .len => gLen x
  | .sum => onInts (fun ns => some (.int ns.sum)) x
  | .abs => gAbs x
  | .int => gInt x
  | .max1 => onInts (fun ns => (imax ns).map .int) x
  | .min1 => onInts (fun ns => (imin ns).map .int) x
  | .all => onBools (fun bs => some (.bl (bs.all id))) x
  | .any => onBools (fun bs => some (.bl (bs.any id))) x
  | .repr => prepr x
  | .isInt => gKind .int x
  | .isBool => gKind .bool x
  | .isStr => gKind .str x
  | .isTup => gKind .tup x
  | _ => none
def fn2 (f : Fn) (x y : PV) : Option PV := match f with
  | .add => gI (fun i j => some (.int (i + j))) x y
  | .sub => gI (fun i j => some (.int (i - j))) x y
  | .mul => gI (fun i j => if small i || small j then some (.int (i * j)) else none) x y
  | .fdiv => gI (fun i j => if j ≠ 0 ∧ j.natAbs < 1073741824 then some (.int (i.fdiv j)) else none) x y
  | .mod => gI (fun i j => if j ≠ 0 then some (.int (i.fmod j)) else none) x y
  | .pow => gI (fun i j => if 0 ≤ j ∧ j ≤ 1000 ∧ i.natAbs < 2 ^ 64 then some (.int (i ^ j.toNat)) else none) x y
  | .lt => gI (fun i j => some (.bl (decide (i < j)))) x y
  | .le => gI (fun i j => some (.bl (decide (i ≤ j)))) x y
  | .gt => gI (fun i j => some (.bl (decide (j < i)))) x y
  | .ge => gI (fun i j => some (.bl (decide (j ≤ i)))) x y
  | .eq => (peq x y).map .bl
  | .ne => (peq x y).map fun b => .bl (!b)
  | .is => gIs x y
  | .isnot => gIsnot x y
  | .in_ => (inB x y).map .bl
  | .notin => (inB x y).map fun b => .bl (!b)
  | .get => get1 x y
  | .max2 => gI (fun i j => some (.int (if i < j then j else i))) x y
  | .min2 => gI (fun i j => some (.int (if j < i then j else i))) x y
  | .index => gIndex x y
  | .indexT => gIndexT x y
  | _ => none
def fn (f : Fn) : List PV → Option PV
  | [x] => fn1 f x
  | [x, y] => fn2 f x y
  | _ => none

/-- insertion sort of intsOf -/
def insI (x : Int) : List Int → List Int
  | [] => [x]
  | y :: r => if x ≤ y then x :: y :: r else y :: insI x r
def sortI : List Int → List Int
  | [] => []
  | x :: r => insI x (sortI r)
def listI (ns : List Int) : PV := .lst (ns.map .int)
/-- tuples of intsOf in their order -/
def lexLe : List Int → List Int → Bool
  | [], _ => true
  | _ :: _, [] => false
  | x :: xs, y :: ys => if x = y then lexLe xs ys else decide (x < y)
def insT (x : List Int) : List (List Int) → List (List Int)
  | [] => [x]
  | y :: r => if lexLe x y then x :: y :: r else y :: insT x r
def sortT : List (List Int) → List (List Int)
  | [] => []
  | x :: r => insT x (sortT r)
def intTups : List PV → Option (List (List Int))
  | [] => some []
  | .tup xs :: r => match intsOf xs, intTups r with
    | some a, some b => some (a :: b)
    | _, _ => none
  | _ => none
def dedup : List Int → List Int
  | [] => []
  | x :: r => if x ∈ r then dedup r else x :: dedup r
def upto (lo : Int) : Nat → List PV
  | 0 => []
  | n + 1 => .int lo :: upto (lo + 1) n
def stepUp (lo c : Int) : Nat → List PV
  | 0 => []
  | n + 1 => .int lo :: stepUp (lo + c) c n
def wide (i : Int) : Bool := decide (-(2 ^ 62) ≤ i) && decide (i < 2 ^ 62)
def fit (xs : List PV) : Option (List PV) := if xs.length ≤ sizeLine then some xs else none

def gCat : PV → PV → Option PV
  | .lst xs, .lst ys => (fit (xs ++ ys)).map .lst
  | .tup xs, .tup ys => (fit (xs ++ ys)).map .tup
  | .str x, .str y => if x.length + y.length ≤ sizeLine then some (.str (x ++ y)) else none
  | _, _ => none
def gRep : PV → PV → Option PV
  | .lst xs, .int k => if wide k && decide (xs.length * k.toNat ≤ sizeLine) then some (.lst (List.replicate k.toNat xs).flatten) else none
  | .tup xs, .int k => if k = 1 then some (.tup xs) else if !xs.isEmpty && decide (2 ≤ k) && decide (k ≤ 1000) && decide (xs.length ≤ 1000) then some (.tup (List.replicate k.toNat xs).flatten) else none
  | _, _ => none
def tupI (ns : List Int) : PV := .tup (ns.map .int)
def lensOk : List (List Int) → Bool
  | [] => true
  | n :: r => decide (1 ≤ n.length) && (n :: r).all (fun m => decide (m.length = n.length) && m.all fun i => decide (0 ≤ i) && decide (i < 1048576)) && decide (r.length < 63)
def gSorted : PV → Option PV
  | .lst xs => match intsOf xs with
    | some ns => some (listI (sortI ns))
    | none => (intTups xs).bind fun nss => if lensOk nss then some (.lst ((sortT nss).map tupI)) else none
  | .tup xs => (intsOf xs).map fun ns => listI (sortI ns)
  | _ => none
def gRev : PV → Option PV
  | .lst xs => some (.lst xs.reverse)
  | _ => none
def gR1 : PV → Option PV
  | .int n => if wide n && decide (n ≤ 1000000) then some (.lst (upto 0 n.toNat)) else none
  | _ => none
def gR2 : PV → PV → Option PV
  | .int a, .int n => if wide a && wide n && decide (n - a ≤ 1000000) then some (.lst (upto a (n - a).toNat)) else none
  | _, _ => none
def fa1 (f : Fa) (x : PV) : Option PV := match f with
  | .toL => (elems x).map .lst
  | .toT => (elems x).map .tup
  | .sorted => gSorted x
  | .sortedSet => onInts (fun ns => some (listI (sortI (dedup ns)))) x
  | .rev => gRev x
  | .rangeL1 => gR1 x
  | _ => none
def fa2 (f : Fa) (x y : PV) : Option PV := match f with
  | .cat => gCat x y
  | .rep => gRep x y
  | .rangeL2 => gR2 x y
  | _ => none
def fa (f : Fa) : List PV → Option PV
  | [x] => fa1 f x
  | [x, y] => fa2 f x y
  | _ => none

/-- where a slice's bound stands -/
def sIx (n dflt : Nat) : Option Int → Nat
  | none => dflt
  | some i => if i < 0 then (i + n).toNat else min i.toNat n
def cut {α : Type} (xs : List α) (lo hi : Option Int) : List α := (xs.drop (sIx xs.length 0 lo)).take (sIx xs.length xs.length hi - sIx xs.length 0 lo)
def fslice (x : PV) (lo hi : Option Int) : Option PV := match x with
  | .lst xs => some (.lst (cut xs lo hi))
  | .tup xs => some (.tup (cut xs lo hi))
  | _ => none

def enumFrom' (k : Nat) : List PV → List PV
  | [] => []
  | x :: r => .tup [.int k, x] :: enumFrom' (k + 1) r
def zipP : List PV → List PV → List PV
  | x :: xs, y :: ys => .tup [x, y] :: zipP xs ys
  | _, _ => []
def zipP3 : List PV → List PV → List PV → List PV
  | x :: xs, y :: ys, z :: zs => .tup [x, y, z] :: zipP3 xs ys zs
  | _, _, _ => []
def ofKey : Key → PV
  | .inl i => .int i
  | .inr x => .str x
def itR1 : PV → Option (List PV)
  | .int n => if wide n then some (upto 0 n.toNat) else none
  | _ => none
def itR2 : PV → PV → Option (List PV)
  | .int a, .int n => if wide a && wide n then some (upto a (n - a).toNat) else none
  | _, _ => none
def itR3 : PV → PV → PV → Option (List PV)
  | .int a, .int n, .int c => if wide a && wide n && decide (c = -1) then some (stepUp a (-1) (a - n).toNat) else none
  | _, _, _ => none
def entries : PV → Option (List (Key × PV))
  | .dct kvs => some kvs
  | _ => none
/-- what a for walks: a list's, a tuple's, the script's items -/
def items : PV → Option (List PV)
  | .lst xs => some xs
  | .tup xs => some xs
  | .scr ns => some (ns.map .int)
  | _ => none
def iter1 (k : Ik) (x : PV) : Option (List PV) := match k with
  | .seq => items x
  | .range1 => itR1 x
  | .enum => (elems x).map (enumFrom' 0)
  | .keys => (entries x).map fun kvs => kvs.map fun kv => ofKey kv.1
  | .values => (entries x).map fun kvs => kvs.map (·.2)
  | .items => (entries x).map fun kvs => kvs.map fun kv => .tup [ofKey kv.1, kv.2]
  | _ => none
def iter2 (k : Ik) (x y : PV) : Option (List PV) := match k with
  | .range2 => itR2 x y
  | .zip2 => (match x, y with
    | .lst xs, .lst ys => some (zipP xs ys)
    | .tup xs, .tup ys => some (zipP xs ys)
    | _, _ => none)
  | _ => none
def iter3 (k : Ik) (x y z : PV) : Option (List PV) := match k with
  | .range3 => itR3 x y z
  | .zip3 => (elems x).bind fun xs => (elems y).bind fun ys => (elems z).map fun zs => zipP3 xs ys zs
  | _ => none
def iter (k : Ik) : List PV → Option (List PV)
  | [x] => iter1 k x
  | [x, y] => iter2 k x y
  | [x, y, z] => iter3 k x y z
  | _ => none

/-! ### how deep -/
/-- the least depth of the lists among them; none where there is none -/
def minD : List Arg → Option Nat
  | [] => none
  | (x, d) :: r => if isL x then (match minD r with | some e => some (min d e) | none => some d) else minD r
def freshD (as : List Arg) : Nat := 1 + (minD as).getD 0
def joinD (d : Nat) (a : Arg) : Nat := if isL a.1 then min d (1 + a.2) else d

/-! ### changes in place: the result, the new content -/
def cAppend (as : List Arg) (x : PV) (d : Nat) : Option (Arg × PV × Nat) := match x, as with
  | .lst xs, [a] => if xs.length < sizeLine then some ((.non, 0), .lst (xs ++ [a.1]), joinD d a) else none
  | _, _ => none
/-- the item at a place goes -/
def cTake (j : Nat) (xs : List PV) (d : Nat) : Option (Arg × PV × Nat) := match xs[j]? with
  | some y => some ((y, if isL y then d - 1 else 0), .lst (xs.eraseIdx j), d)
  | none => none
def cPop0 (as : List Arg) (x : PV) (d : Nat) : Option (Arg × PV × Nat) := match x, as with
  | .lst xs, [] => cTake (xs.length - 1) xs d
  | _, _ => none
def cPop1 (as : List Arg) (x : PV) (d : Nat) : Option (Arg × PV × Nat) := match x, as with
  | .lst xs, [(.int i, _)] => if wide i then (ixN xs.length i).bind fun j => cTake j xs d else none
  | _, _ => none
def cInsert (as : List Arg) (x : PV) (d : Nat) : Option (Arg × PV × Nat) := match x, as with
  | .lst xs, [(.int i, _), a] => if 0 ≤ i ∧ i < 2 ^ 62 ∧ xs.length < sizeLine then some ((.non, 0), .lst (xs.take i.toNat ++ a.1 :: xs.drop i.toNat), joinD d a) else none
  | _, _ => none
def cUpdate (as : List Arg) (x : PV) (d : Nat) : Option (Arg × PV × Nat) := match x, as with
  | .dct kvs, [(.dct ms, _)] => if kvs.length + ms.length ≤ sizeLine ∧ (kvs.map (·.1)).Nodup then some ((.non, 0), .dct (ms.foldl (fun k m => dput m.1 m.2 k) kvs), min d 1) else none
  | _, _ => none
def cSet (as : List Arg) (x : PV) (d : Nat) : Option (Arg × PV × Nat) := match x, as with
  | .lst xs, [(.int i, _), a] => (ixN xs.length i).map fun j => ((.non, 0), .lst (xs.set j a.1), joinD d a)
  | .dct kvs, [(k, _), a] => (keyOf k).bind fun k => if kvs.length < sizeLine ∧ (kvs.map (·.1)).Nodup then some ((.non, 0), .dct (dput k a.1 kvs), joinD d a) else none
  | _, _ => none
def change (o : Mo) (as : List Arg) (x : PV) (d : Nat) : Option (Arg × PV × Nat) := match o with
  | .append => cAppend as x d
  | .pop0 => cPop0 as x d
  | .pop1 => cPop1 as x d
  | .insert => cInsert as x d
  | .update => cUpdate as x d
  | .set => cSet as x d
  | _ => none

def put1 (x : PV) (k : PV) (y : PV) : Option PV := match x, k with
  | .lst xs, .int i => (ixN xs.length i).map fun j => .lst (xs.set j y)
  | .dct kvs, k => if (kvs.map (·.1)).Nodup then (keyOf k).map fun k => .dct (dput k y kvs) else none
  | _, _ => none
/-- a change at the end of a path -/
def modAt (f : PV → Nat → Option (Arg × PV × Nat)) : List PV → PV → Nat → Option (Arg × PV × Nat)
  | [], x, d => if isL x && decide (1 ≤ d) then f x d else none
  | k :: ks, x, d => match get1 x k with
    | some y => if isL y && decide (2 ≤ d) then
        match modAt f ks y (d - 1) with
        | some (r, y', d') => (put1 x k y').map fun x' => (r, x', min d (1 + d'))
        | none => none
      else none
    | none => none

/-- the thing that a path leads to -/
def getP : List PV → PV → Option PV
  | [], x => some x
  | k :: ks, x => (get1 x k).bind (getP ks)
/-- whether a method may be called of what stands at the path's end -/
def recvOk (o : Mo) (ks : List PV) (x : PV) : Bool := match getP ks x with
  | some (.lst _) => (match o with | .update => false | _ => true)
  | some (.dct _) => (match o with | .update => true | _ => false)
  | _ => false

/-- d.update(m), nothing but scalars in both -/
def updD (kvs ms : List (Key × PV)) : Option (List (Key × PV)) :=
  if (kvs.all fun p => !isL p.2) && (ms.all fun p => !isL p.2) && decide (kvs.map (·.1)).Nodup && decide (kvs.length + ms.length ≤ sizeLine) then some (ms.foldl (fun k m => dput m.1 m.2 k) kvs) else none
/-! ### the evaluator -/
inductive Out (α : Type) where
  | ok (a : α) (ρ : Rho) | ex (c : Nat) (xs : List PV) (ρ : Rho) | stuck
def Out.bind {α β : Type} (o : Out α) (f : α → Rho → Out β) : Out β := match o with
  | .ok a ρ => f a ρ
  | .ex c xs ρ => .ex c xs ρ
  | .stuck => .stuck
inductive COut where
  | ok (r : Arg) (as : List Arg) | ex (c : Nat) (xs : List PV) (as : List Arg) | stuck
/-- a callee: what it does, which parameters it never binds anew -/
structure Fun0 where
  sem : List Arg → COut
  br : List Bool
/-- the exceptions' classes: the base (another of them), the fields that its making sets (true: as a tuple) -/
structure Ecl where
  base : Option Nat
  fl : List (Str × Bool)
structure Cfg where
  C : List Fun0
  K : Nat
  par : List Ecl
def mkFl : List (Str × Bool) → List PV → Option (List PV)
  | [], _ => some []
  | (_, b) :: r, x :: xs => match (if b then fa .toT [x] else some x), mkFl r xs with
    | some y, some ys => some (y :: ys)
    | _, _ => none
  | _ :: _, [] => none
def Cfg.mk1 (G : Cfg) (c : Nat) (xs : List PV) : Option (List PV) := (G.par[c]?).bind fun e => mkFl e.fl xs
def Cfg.flOf (G : Cfg) (c : Nat) (xs : List PV) : PV := .exc c (match G.par[c]? with | some e => (e.fl.map (·.1)).zip xs | none => [])

inductive Opd where
  | var (i : Nat) | val (a : Arg)

def slot (ρ : Rho) (i : Nat) : Option Arg := (ρ[i]?).bind id

def isBl : PV → Option Bool
  | .bl b => some b
  | _ => none
mutual
def evS : SE → Rho → Option PV
  | .var i, ρ => (slot ρ i).map (·.1)
  | .int i, _ => some (.int i)
  | .bl b, _ => some (.bl b)
  | .non, _ => some .non
  | .str s, _ => some (.str s)
  | .ap1 f a, ρ => (evS a ρ).bind fun x => fn1 f x
  | .ap2 f a b, ρ => (evS a ρ).bind fun x => (evS b ρ).bind fun y => fn2 f x y
  | .chain f g a b c, ρ => (evS a ρ).bind fun x => (evS b ρ).bind fun y => (fn2 f x y).bind fun r => (isBl r).bind fun t => if t then (evS c ρ).bind fun z => fn2 g y z else some (.bl false)
  | .not a, ρ => (evS a ρ).bind fun x => (truthy x).map fun b => .bl (!b)
  | .and a b, ρ => (evS a ρ).bind fun x => (isBl x).bind fun t => if t then evS b ρ else some (.bl false)
  | .or a b, ρ => (evS a ρ).bind fun x => (isBl x).bind fun t => if t then some (.bl true) else evS b ρ
  | .ite t a b, ρ => (evSt t ρ).bind fun c => if c then evS a ρ else evS b ρ
/-- as a test -/
def evSt : SE → Rho → Option Bool
  | .and a b, ρ => (evSt a ρ).bind fun t => if t then evSt b ρ else some false
  | .or a b, ρ => (evSt a ρ).bind fun t => if t then some true else evSt b ρ
  | .not a, ρ => (evSt a ρ).map (!·)
  | .var i, ρ => (slot ρ i).bind fun a => truthy a.1
  | .int i, _ => some (i != 0)
  | .bl b, _ => some b
  | .non, _ => some false
  | .str s, _ => truthy (.str s)
  | .ap1 f a, ρ => (evS a ρ).bind fun x => (fn1 f x).bind truthy
  | .ap2 f a b, ρ => (evS a ρ).bind fun x => (evS b ρ).bind fun y => (fn2 f x y).bind truthy
  | .chain f g a b c, ρ => (evS a ρ).bind fun x => (evS b ρ).bind fun y => (fn2 f x y).bind fun r => (isBl r).bind fun t => if t then (evS c ρ).bind fun z => (fn2 g y z).bind truthy else some false
  | .ite t a b, ρ => (evSt t ρ).bind fun c => if c then evSt a ρ else evSt b ρ
end
def evSs : List SE → Rho → Option (List PV)
  | [], _ => some []
  | e :: es, ρ => (evS e ρ).bind fun x => (evSs es ρ).map (x :: ·)
def evSo : Option SE → Rho → Option (Option Int)
  | none, _ => some none
  | some e, ρ => match evS e ρ with
    | some (.int i) => if wide i then some (some i) else none
    | _ => none

/-- a slot's depth lowered -/
def lower (i m : Nat) (ρ : Rho) : Rho := match slot ρ i with
  | some (x, d) => if isL x then ρ.set i (some (x, min d m)) else ρ
  | none => ρ
def valO (ρ : Rho) : Opd → Option PV
  | .var i => (slot ρ i).map (·.1)
  | .val a => some a.1
def valsO (ρ : Rho) : List Opd → Option (List PV)
  | [] => some []
  | o :: os => (valO ρ o).bind fun x => (valsO ρ os).map (x :: ·)
/-- the slots among them, lowered to m -/
def lowerO (m : Nat) : List Opd → Rho → Rho
  | [], ρ => ρ
  | .var i :: os, ρ => lowerO m os (lower i m ρ)
  | .val _ :: os, ρ => lowerO m os ρ
def argO (ρ : Rho) : Opd → Option Arg
  | .var i => slot ρ i
  | .val a => some a
def argsO (ρ : Rho) : List Opd → Option (List Arg)
  | [] => some []
  | o :: os => (argO ρ o).bind fun x => (argsO ρ os).map (x :: ·)

/-- whether an argument is handed on: a slot that the callee never binds anew, and that stands in no later argument -/
def handed (i : Nat) (os : List Opd) (br : List Bool) : Bool := br.head? == some true && os.all (fun o => match o with | .var j => i != j | .val _ => true)
/-- a call's arguments, and the slots while it runs: what is handed on is gone, other slots are lowered -/
def handOn : List Opd → List Bool → Rho → Option (List Arg × Rho)
  | [], _, ρ => some ([], ρ)
  | .val a :: os, br, ρ => (handOn os br.tail ρ).map fun p => (a :: p.1, p.2)
  | .var i :: os, br, ρ => (slot ρ i).bind fun a => if handed i os br then (handOn os br.tail (ρ.set i none)).map fun p => (a :: p.1, p.2)
      else (slot (lower i 0 ρ) i).bind fun a => (handOn os br.tail (lower i 0 ρ)).map fun p => (a :: p.1, p.2)
/-- what comes back: the slots that were handed on -/
def backTo : List Opd → List Bool → List Arg → Rho → Option Rho
  | [], _, [], ρ => some ρ
  | .val _ :: os, br, _ :: as, ρ => backTo os br.tail as ρ
  | .var i :: os, br, a :: as, ρ => if handed i os br then (if i < ρ.length then backTo os br.tail as (ρ.set i (some a)) else none) else backTo os br.tail as ρ
  | _, _, _, _ => none

def orStuck {α β : Type} (o : Option α) (f : α → Out β) : Out β := match o with
  | some a => f a
  | none => .stuck

mutual
def bindP : Pat → Arg → Rho → Option Rho
  | .name i, a, ρ => if i < ρ.length then some (ρ.set i (some a)) else none
  | .tup ps, a, ρ => (elems a.1).bind fun xs => bindPs ps xs ρ
  | .st r path, a, ρ => match path.getLast? with
    | some l => (evSs path.dropLast ρ).bind fun ks => (evS l ρ).bind fun k => (slot ρ r).bind fun x => (modAt (fun x d => change .set [(k, 0), a] x d) ks x.1 x.2).map fun t => ρ.set r (some t.2)
    | none => none
def bindPs : List Pat → List PV → Rho → Option Rho
  | [], [], ρ => some ρ
  | p :: ps, x :: xs, ρ => (bindP p (x, 0) ρ).bind fun ρ => bindPs ps xs ρ
  | _, _, _ => none
end
/-- several targets, several values -/
def bindAs : List Pat → List Arg → Rho → Option Rho
  | [], [], ρ => some ρ
  | p :: ps, x :: xs, ρ => (bindP p x ρ).bind fun ρ => bindAs ps xs ρ
  | _, _, _ => none

def wipe (ρ : Rho) : List Nat → Rho
  | [] => ρ
  | v :: vs => (wipe ρ vs).set v none
/-- a block's own slots as they were -/
def unwipe (own : List Nat) (old new : Rho) : Rho := own.foldl (fun ρ v => ρ.set v ((old[v]?).getD none)) new

/-- the turns of a list comprehension -/
def lcLoop (bind : PV → Rho → Option Rho) (test : Rho → Out Bool) (elt : Rho → Out Arg) (own : List Nat) : List PV → List Arg → Rho → Out (List Arg)
  | [], acc, ρ => .ok acc ρ
  | x :: xs, acc, ρ => orStuck (bind x ρ) fun ρ1 => (test ρ1).bind fun b ρ2 =>
    if b then (elt ρ2).bind fun a ρ3 => if acc.length < sizeLine then lcLoop bind test elt own xs (acc ++ [a]) (wipe ρ3 own) else .stuck
    else lcLoop bind test elt own xs acc (wipe ρ2 own)

def noEx {α : Type} (o : Out α) : Out α := match o with
  | .ex _ _ _ => .stuck
  | o => o


/-- an operand: a bare name is read late -/
def opd (m : ME) (ρ : Rho) (o : Out Arg) : Out Opd := match m with
  | .var i => orStuck (slot ρ i) fun _ => .ok (.var i) ρ
  | _ => o.bind fun a ρ => .ok (.val a) ρ
/-- a value, or (t) its truth -/
def asT (t : Bool) (o : Out Arg) : Out Arg := if t then o.bind fun a ρ => orStuck (truthy a.1) fun b => .ok (.bl b, 0) ρ else o
/-- a truth that came as a value -/
def ofBl (o : Out Arg) : Out Bool := o.bind fun a ρ => orStuck (isBl a.1) fun b => .ok b ρ
mutual
/-- the value; t: as a test -/
def evX (G : Cfg) (t : Bool) : ME → Rho → Out Arg
  | .s e, ρ => if t then orStuck (evSt e ρ) fun b => .ok (.bl b, 0) ρ else orStuck (evS e ρ) fun x => if isL x then .stuck else .ok (x, 0) ρ
  | .var i, ρ => if t then orStuck ((slot ρ i).bind fun a => truthy a.1) fun b => .ok (.bl b, 0) ρ else orStuck (slot ρ i) fun a => .ok (a.1, 0) (lower i 0 ρ)
  | .elem i k, ρ => asT t (orStuck (slot ρ i) fun a => orStuck (evS k ρ) fun y => orStuck (fn2 .get a.1 y) fun x => .ok (x, 0) (if isL x then lower i 1 ρ else ρ))
  | .tup es, ρ => asT t ((evs G es ρ).bind fun as ρ => .ok (.tup (as.map (·.1)), 0) ρ)
  | .lst es, ρ => asT t ((evs G es ρ).bind fun as ρ => .ok (.lst (as.map (·.1)), freshD as) ρ)
  | .dct ks es, ρ => asT t ((evD G es ks ρ).bind fun ps ρ => if (ps.map (·.1)).Nodup ∧ ps.length ≤ 15 then .ok (.dct (ps.map fun p => (p.1, p.2.1)), freshD (ps.map (·.2))) ρ else .stuck)
  | .ap f es, ρ => asT t ((evo G es ρ).bind fun os ρ => orStuck (valsO ρ os) fun xs => orStuck (fn f xs) fun x => .ok (x, 0) (if isL x then lowerO 1 os ρ else ρ))
  | .apA f es, ρ => asT t ((evo G es ρ).bind fun os ρ => orStuck (valsO ρ os) fun xs => orStuck (fa f xs) fun x => .ok (x, if isL x then 1 else 0) (lowerO 1 os ρ))
  | .slice a lo hi, ρ => asT t ((opd a ρ (evX G false a ρ)).bind fun o ρ => orStuck (evSo lo ρ) fun l => orStuck (evSo hi ρ) fun h => orStuck (valO ρ o) fun x => orStuck (fslice x l h) fun y => .ok (y, if isL y then 1 else 0) (lowerO 1 [o] ρ))
  | .call j es, ρ => asT t ((evo G es ρ).bind fun os ρ => orStuck (G.C[j]?) fun F => orStuck (handOn os F.br ρ) fun p => match F.sem p.1 with
      | .ok r as' => orStuck (backTo os F.br as' p.2) fun ρ => .ok r ρ
      | .ex c xs as' => orStuck (backTo os F.br as' p.2) fun ρ => .ex c xs ρ
      | .stuck => .stuck)
  | .lc own p k es ifs e, ρ => asT t (noEx ((evo G es ρ).bind fun os ρ => orStuck (valsO ρ os) fun xs => orStuck (iter k xs) fun items =>
      let ρ0 := lowerO 0 (own.map Opd.var) (lowerO 0 os ρ)
      (lcLoop (fun x ρ => bindP p (x, 0) ρ) (evIfs G ifs) (evX G false e) own items [] (wipe ρ0 own)).bind fun as ρ' => .ok (.lst (as.map (·.1)), freshD as) (unwipe own ρ0 ρ')))
  | .mut o r path es, ρ => asT t (orStuck (evSs path ρ) fun ks => orStuck (slot ρ r) fun x0 => if recvOk o ks x0.1 then
      (evs G es ρ).bind fun as ρ => orStuck (slot ρ r) fun x => orStuck (modAt (change o as) ks x.1 x.2) fun u => .ok u.1 (ρ.set r (some u.2)) else .stuck)
  | .ite c a b, ρ => (ofBl (evX G true c ρ)).bind fun c ρ => if c then evX G t a ρ else evX G t b ρ
  | .and a b, ρ => (ofBl (evX G t a ρ)).bind fun c ρ => if c then evX G t b ρ else .ok (.bl false, 0) ρ
  | .or a b, ρ => (ofBl (evX G t a ρ)).bind fun c ρ => if c then .ok (.bl true, 0) ρ else evX G t b ρ
  | .not a, ρ => if t then (ofBl (evX G true a ρ)).bind fun b ρ => .ok (.bl (!b), 0) ρ else (opd a ρ (evX G false a ρ)).bind fun o ρ => orStuck ((valO ρ o).bind truthy) fun b => .ok (.bl (!b), 0) ρ
  | .chain f g a b c, ρ => asT t ((evX G false a ρ).bind fun x ρ => (evX G false b ρ).bind fun y ρ => orStuck ((fn2 f x.1 y.1).bind isBl) fun t =>
      if t then (evX G false c ρ).bind fun z ρ => orStuck (fn2 g y.1 z.1) fun r => .ok (r, 0) ρ else .ok (.bl false, 0) ρ)
  | .fld i f, ρ => asT t (match slot ρ i with
    | some (.exc _ fs, _) => orStuck (fs.lookup f) fun x => .ok (x, 0) ρ
    | _ => .stuck)
  | .no, _ => .stuck
  | .starT a b, ρ => asT t ((evX G false a ρ).bind fun x ρ => match x.1 with
    | .tup xs => (evX G false b ρ).bind fun y ρ => if xs.length < sizeLine then .ok (.tup (xs ++ [y.1]), 0) ρ else .stuck
    | _ => .stuck)
  | .upd i e, ρ => asT t (match slot ρ i with
    | some (.dct _, _ + 1) => (evX G false e ρ).bind fun a ρ => (match slot ρ i, a.1 with
      | some (.dct kvs, d + 1), .dct ms => orStuck (updD kvs ms) fun r => .ok (.non, 0) (ρ.set i (some (.dct r, d + 1)))
      | _, _ => .stuck)
    | _ => .stuck)
  | .cmpE f e, ρ => asT t (orStuck (evS e ρ) fun x => orStuck (fn2 f x (.lst [])) fun z => if isL z then .stuck else .ok (z, 0) ρ)
def evo (G : Cfg) : List ME → Rho → Out (List Opd)
  | [], ρ => .ok [] ρ
  | e :: es, ρ => (opd e ρ (evX G false e ρ)).bind fun o ρ => (evo G es ρ).bind fun os ρ => .ok (o :: os) ρ
/-- items: values that stand by themselves -/
def evs (G : Cfg) : List ME → Rho → Out (List Arg)
  | [], ρ => .ok [] ρ
  | e :: es, ρ => (evX G false e ρ).bind fun a ρ => (evs G es ρ).bind fun as ρ => .ok (a :: as) ρ
/-- the pairs of a dict display -/
def evD (G : Cfg) : List ME → List SE → Rho → Out (List (Key × Arg))
  | [], ks, ρ => if ks.isEmpty then .ok [] ρ else .stuck
  | e :: es, ks, ρ => match ks with
    | k :: ks => orStuck ((evS k ρ).bind keyOf) fun q => (evX G false e ρ).bind fun a ρ => (evD G es ks ρ).bind fun r ρ => .ok ((q, a) :: r) ρ
    | [] => .stuck
def evIfs (G : Cfg) : List ME → Rho → Out Bool
  | [], ρ => .ok true ρ
  | e :: es, ρ => (ofBl (evX G true e ρ)).bind fun t ρ => if t then evIfs G es ρ else .ok false ρ
end
def ev (G : Cfg) (m : ME) (ρ : Rho) : Out Arg := evX G false m ρ
def evT (G : Cfg) (m : ME) (ρ : Rho) : Out Bool := ofBl (evX G true m ρ)
def evo1 (G : Cfg) (m : ME) (ρ : Rho) : Out Opd := opd m ρ (evX G false m ρ)

/-! ### statements -/
inductive SOut where
  | nx (ρ : Rho) | rt (a : Arg) (ρ : Rho) | br (ρ : Rho) | ct (ρ : Rho) | ex (c : Nat) (xs : List PV) (ρ : Rho) | stuck
def Out.run {α : Type} (o : Out α) (f : α → Rho → SOut) : SOut := match o with
  | .ok a ρ => f a ρ
  | .ex c xs ρ => .ex c xs ρ
  | .stuck => .stuck
def orStop {α : Type} (o : Option α) (f : α → SOut) : SOut := match o with
  | some a => f a
  | none => .stuck

def wLoop (test : Rho → Out Bool) (body : Rho → SOut) : Nat → Rho → SOut
  | 0, _ => .stuck
  | n + 1, ρ => (test ρ).run fun b ρ => if b then (match body ρ with
      | .nx ρ => wLoop test body n ρ
      | .ct ρ => wLoop test body n ρ
      | .br ρ => .nx ρ
      | o => o) else .nx ρ
def fLoop (bind : PV → Rho → Option Rho) (body : Rho → SOut) : List PV → Rho → SOut
  | [], ρ => .nx ρ
  | x :: xs, ρ => orStop (bind x ρ) fun ρ => match body ρ with
      | .nx ρ => fLoop bind body xs ρ
      | .ct ρ => fLoop bind body xs ρ
      | .br ρ => .nx ρ
      | o => o
/-- whether an exception of class c is caught by a clause that names b (up the classes' bases) -/
def catches (par : List Ecl) : Nat → Nat → Nat → Bool
  | 0, _, _ => false
  | n + 1, c, b => c == b || (match (par[c]?).bind (·.base) with | some p => catches par n p b | none => false)
def noExS : SOut → SOut
  | .ex _ _ _ => .stuck
  | o => o
/-- the clause's name goes -/
def SOut.gone (i : Nat) : SOut → SOut
  | .nx ρ => .nx (ρ.set i none)
  | .rt a ρ => .rt a (ρ.set i none)
  | .br ρ => .br (ρ.set i none)
  | .ct ρ => .ct (ρ.set i none)
  | .ex _ _ _ => .stuck
  | .stuck => .stuck

mutual
def exec (G : Cfg) : MS → Rho → SOut
  | .asg p e, ρ => (ev G e ρ).run fun a ρ => orStop (bindP p a ρ) .nx
  | .asgs ps es, ρ => (evs G es ρ).run fun as ρ => orStop (bindAs ps as ρ) .nx
  | .aug i f e, ρ => orStop (slot ρ i) fun x => (ev G e ρ).run fun y ρ => orStop (fn2 f x.1 y.1) fun z => .nx (ρ.set i (some (z, 0)))
  | .augp r path f e, ρ => match path.getLast? with
    | some l => orStop (evSs path.dropLast ρ) fun ks => orStop (evS l ρ) fun k => orStop (slot ρ r) fun x =>
        orStop ((ks ++ [k]).foldl (fun o k => o.bind fun y => get1 y k) (some x.1)) fun old => (ev G e ρ).run fun y ρ => orStop (fn2 f old y.1) fun z =>
          orStop (slot ρ r) fun x => orStop (modAt (fun x d => change .set [(k, 0), (z, 0)] x d) ks x.1 x.2) fun t => .nx (ρ.set r (some t.2))
    | none => .stuck
  | .ex e, ρ => (ev G e ρ).run fun _ ρ => .nx ρ
  | .ifs t a b, ρ => (evT G t ρ).run fun c ρ => if c then execs G a ρ else execs G b ρ
  | .whl t b, ρ => wLoop (evT G t) (execs G b) G.K ρ
  | .for_ p k es b, ρ => (evo G es ρ).run fun os ρ => orStop (valsO ρ os) fun xs => orStop (iter k xs) fun items => fLoop (fun x ρ => bindP p (x, 0) ρ) (execs G b) items (lowerO 0 os ρ)
  | .ret e, ρ => (ev G e ρ).run fun a ρ => .rt a ρ
  | .retv i, ρ => orStop (slot ρ i) fun a => .rt a (ρ.set i none)
  | .retN, ρ => .rt (.non, 0) ρ
  | .raise c es, ρ => (evs G es ρ).run fun as ρ => orStop (G.mk1 c (as.map (·.1))) fun xs => .ex c xs ρ
  | .try_ b c n h, ρ => match execs G b ρ with
    | .ex c' xs ρ => if catches G.par 10 c' c then (match n with
        | none => noExS (execs G h ρ)
        | some i => (execs G h (ρ.set i (some (G.flOf c' xs, 0)))).gone i) else .ex c' xs ρ
    | o => o
  | .brk, ρ => .br ρ
  | .cont, ρ => .ct ρ
  | .pass, ρ => .nx ρ
  | .no, _ => .stuck
def execs (G : Cfg) : List MS → Rho → SOut
  | [], ρ => .nx ρ
  | s :: r, ρ => match exec G s ρ with
    | .nx ρ => execs G r ρ
    | o => o
end

/-- a def: how many parameters, how many slots, its body -/
structure Def where
  np : Nat
  ns : Nat
  body : List MS
/-- the parameters that were never bound anew -/
def argsBack : List Bool → Rho → Option (List Arg)
  | [], _ => some []
  | true :: bs, some a :: ρ => (argsBack bs ρ).map (a :: ·)
  | false :: bs, _ :: ρ => (argsBack bs ρ).map ((.non, 0) :: ·)
  | _, _ => none
def runDef (G : Cfg) (d : Def) (br : List Bool) (as : List Arg) : COut :=
  if as.length = d.np ∧ br.length = d.np then
    match execs G d.body (as.map some ++ List.replicate (d.ns - d.np) none) with
    | .rt a ρ => match argsBack br ρ with | some as => .ok a as | none => .stuck
    | .nx ρ => match argsBack br ρ with | some as => .ok (.non, 0) as | none => .stuck
    | .ex c xs ρ => match argsBack br ρ with | some as => .ex c xs as | none => .stuck
    | _ => .stuck
  else .stuck
/-- the defs one behind another -/
def mkC (K : Nat) (par : List Ecl) : List (Def × List Bool) → List Fun0 → List Fun0
  | [], acc => acc
  | (d, b) :: r, acc => mkC K par r (acc ++ [⟨runDef ⟨acc, K, par⟩ d b, b⟩])
/-- the last def at a script -/
def lawAt (K : Nat) (par : List Ecl) (ds : List (Def × List Bool)) (ns : List Int) : COut := match (mkC K par ds []).getLast? with
  | some F => F.sem [(.scr ns, 0)]
  | none => .stuck
def COut.isTrue : COut → Bool
  | .ok (.bl true, _) _ => true
  | _ => false
end Mi
end
section
set_option Elab.async false
set_option linter.all false
set_option maxRecDepth 100000
set_option maxHeartbeats 2000000
/-! SX: rules that the hand layer lacks: sorted(tuple), tuple * 1, tuple.index. -/
namespace Mi
open PySem PySem.Spec PyProof.Rows L2
section
variable {X : Cx}
/-- sorted(t), t a tuple of ints -/
def rSortedIT (K : PySem.W.Frag) : List V → Hp → VK → Prop := fun vs H Q => ∃ (a : Addr) (ns : List Int), vs = [V.ref a] ∧ SqT K H a (ns.map V.int) ∧
  ∀ (ms : List Int) (p : Addr), ms.Perm ns → ms.Pairwise (· ≤ ·) → H p = none → Q (.ref p) (upd H p (.lst (ms.map V.int)))
theorem cr_sortedIT : CallR X (.builtin "sorted") (rSortedIT X.K) := by
  intro pins s σ H vs us Q I r h
  obtain ⟨a, ns, rfl, hs, q⟩ := h
  obtain ⟨its, rv, ht, hz⟩ := I.tuple hs
  rw [Vals.ref1 r]
  have hi := rv.ints
  have hl : its.length ≤ sizeLine := by rw [← rv.length]; exact hz
  obtain ⟨⟨cls, dd, data, sl⟩, ho, hc, n, hd⟩ := ht
  refine Calls.call_function_entry kind_sorted plain_sorted entry_sorted (args_sorted1 _) ?_
  show wpAny _ _ (do
    checkCount "sorted" 1 1 1
    let l ← newList (← collect (.ref a))
    let _ ← holding [l] (call (.builtin "list.sort") [l] [])
    ret l) _ _ _
  refine wpAny_bind (m := checkCount "sorted" 1 1 _) (wpAny_pure ?_)
  refine wpAny_bind (wpAny_collect_seq a (.inr rfl) ho hc hd (fun h2 hk => ?_) (by rw [List.size_toArray]; exact hl))
  have e0 : its.toArray.toList = its := by simp
  rw [e0]
  refine wpAny_bind (wpAny_newList ?_ hl)
  have hoL : (h2.push (seqObj "list" its.toArray 0)).get? h2.objs.size = some (seqObj "list" its.toArray 0) := Heap.get?_push_size _ rfl
  have I2 : Inv X pins σ H { s with heap := h2 } := I.kept (t' := s.toks) hk
  refine wpAny_bind (wpAny_holding (wpAny_call_entry PyProof.Rows.slot_list_sort ⟨_, hoL, rfl⟩ PyProof.Rows.entry_list_sort
    (SrtO.list_sort_ord SrtO.swo_int hoL hl (fun h2 => SrtO.ints_sortable hi h2) fun out h1 h3 => ⟨_, rfl, ?_⟩) (PyProof.Rows.args_list_sort _)))
  refine wpAny_pure ⟨_, rfl, ?_⟩
  obtain ⟨k1, k2, k3⟩ := SrtO.ints_out hi h1 h3
  obtain ⟨ep, he'⟩ := PyProof.Rows.sortedHeap_at (vs := its) (out := out.toArray) hoL
  have hlen : ((out.map SrtO.iv).map V.int).length ≤ sizeLine := by
    have := k2.length_eq
    rw [List.length_map] at hz ⊢
    omega
  refine ⟨.ref _, upd H h2.objs.size (.lst ((out.map SrtO.iv).map V.int)), I2.laid (t' := s.toks) (fun b u hb => ?_) (Nat.le_refl _) ⟨hlen, out, ep, vals_of_ints k1, he'⟩, rfl, q _ _ k2 k3 (I2.hok.fresh (Nat.le_refl _))⟩
  have lt := Heap.lt_size hb
  rw [PyProof.Rows.sortedHeap_old (Nat.ne_of_lt lt) (by rw [size_push']; exact Nat.lt_succ_of_lt lt)]
  exact Heap.get?_push_of_some _ hb
/-- t * 1: the same tuple -/
theorem tuple_mul1 (l : Addr) (items : Array Value) (n : Nat) (dd : Option Addr) (sl : Array (Option Value)) (u : Tok) :
    Meets (Builtin.«tuple.__mul__» ⟨[.ref l, .int 1 u], []⟩) (fun _ R s => s.heap.get? l = some { cls := .type "tuple", dict := dd, data := .seq items n, slots := sl } ∧ R (.ok (.ret (Value.ref l))) s) :=
  .of_wp fun prog w A R s h => by
    obtain ⟨hp, g, d, tk, os⟩ := s
    obtain ⟨hl, h⟩ := h
    have f1 := AutoSeq1.idx_int
    have c1 : (items.isEmpty || (1 : Int) == 1) = true := by rw [Bool.or_eq_true]; exact .inr rfl
    have hT : Shared.TypeIs ⟨hp, g, d, tk, os⟩ (.ref l) "tuple" := ⟨_, hl, rfl⟩
    wp_walk using AutoSeq1.wpAny_loadPart' hl, wpAny_typeOf hT
    repeat (first
      | (refine wpAny_ite_true c1 ?_; wp_walk using AutoSeq1.wpAny_loadPart' hl, wpAny_typeOf hT)
      | (refine wpAny_ite_false (by decide) ?_; wp_walk using AutoSeq1.wpAny_loadPart' hl, wpAny_typeOf hT))
    exact ⟨_, rfl, h⟩
def rRep1 (K : PySem.W.Frag) : R2 := fun x y H Q => ∃ l xs, x = .ref l ∧ y = .int 1 ∧ SqT K H l xs ∧ Q (.ref l) H
theorem op_rep1 : OpR X (binaryOp .Mult) (rRep1 X.K) := by
  intro pins s σ H x y v u Q I rx ry h
  obtain ⟨l, xs, rfl, rfl, hT, q⟩ := h
  cases rx
  obtain ⟨t, rfl⟩ := ry
  obtain ⟨its, r, ⟨⟨cls, dd, data, sl⟩, ho, hc, n, hd⟩, hs⟩ := I.tuple hT
  simp only at hc hd
  subst hc hd
  exact wpAny_binaryOp_repeat_ref (T := "tuple") (U := "int") (by decide) ⟨_, ho, rfl⟩ (fun s' => typeIs_int s' 1 t) noFill_tuple_mul F.fills_int_mul F.slot_int_rmul repeat_tuple F.slot_int_index.lookup
    (call_meets F.slot_int_rmul (typeIs_int s 1 t) F.entry_int_rmul (F.args_int_rmul_2 _ _) (int_rmul_tuple 1 t l its.toArray n dd sl)
      ⟨ho, rfl, ⟨_, ho, rfl⟩, call_meets F.slot_tuple_mul ⟨_, ho, rfl⟩ F.entry_tuple_mul (F.args_tuple_mul_2 _ _) (tuple_mul1 l its.toArray n dd sl t) ⟨ho, ⟨.ref l, H, I, rfl, q⟩⟩⟩)
theorem flat_intsV (ys : List Int) : (ys.map V.int).all flatV = true := by
  rw [List.all_map, List.all_eq_true]
  exact fun _ _ => rfl
/-- t.index(z), t of ints -/
def rIndexTI (K : PySem.W.Frag) : V → List V → Hp → VK → Prop := fun x xs H Q => ∃ p, ∃ ys : List Int, ∃ z j, x = .ref p ∧ xs = [.int z] ∧ SqT K H p (ys.map V.int) ∧ ys[j]? = some z ∧ (∀ m, m < j → ys[m]? ≠ some z) ∧ Q (.int (j : Nat)) H
theorem mt_tup_indexI : MtR X "tuple.index" (rIndexTI X.K) := by
  intro pins s σ H x xs v us Q I rx rs h
  obtain ⟨p, ys, z, j, rfl, rfl, hq, hy, hno, q⟩ := h
  cases rx
  obtain ⟨u, rfl, t, rfl⟩ := vals1 rs
  obtain ⟨its, r, ⟨⟨cls, dd, dt, sl⟩, ho, hc, n, hd⟩, hz⟩ := I.tuple hq
  simp only at hc hd
  subst hc hd
  have hl : its.toArray.size = ys.length := by
    have := r.length
    rw [List.length_map] at this
    rw [List.size_toArray, this]
  have pos : ∀ (m : Nat) (hm : m < its.toArray.size), ∃ y t', ys[m]? = some y ∧ its.toArray[m] = Value.int y t' := fun m hm => by
    have hm2 : m < ys.length := hl ▸ hm
    obtain ⟨w, hw, t', hw'⟩ := r.get (i := m) (x := .int ys[m]) (by simp [hm2])
    refine ⟨ys[m], t', List.getElem?_eq_getElem hm2, ?_⟩
    have e := (List.getElem?_eq_some_iff.mp hw).2
    rw [← hw', ← e]; simp
  have hj : j < its.toArray.size := hl ▸ (List.getElem?_eq_some_iff.mp hy).1
  refine call_meets PySem.F.slot_tuple_index ⟨_, ho, rfl⟩ PySem.F.entry_tuple_index (PySem.F.args_tuple_index_2 _ _)
    (TI.tuple_indexAt p its.toArray n dd sl (.int z t) (eqU (.int z)) j hj ?_ ?_) ⟨ho, fun w hw => mem_eqAt (x := .int z) ⟨t, rfl⟩ rfl r (flat_intsV ys) w (by simpa using hw), ⟨.int (j : Nat), H, I.tok _, ⟨_, rfl⟩, q⟩⟩
  · obtain ⟨y, t', h1, h2⟩ := pos j hj
    rw [hy] at h1; cases h1
    rw [h2]
    show (z == z) = true
    exact beq_self_eq_true z
  · intro m hm hmj
    obtain ⟨y, t', h1, h2⟩ := pos m hm
    rw [h2]
    show (y == z) = false
    have ne := hno m hmj
    rw [h1] at ne
    simpa using fun e => ne (congrArg some e)
theorem reads_ints {h : Heap} : ∀ {us : List Value} {ns : List Int}, Vals (ns.map V.int) us → PySem.W.HoldAll h us ns
  | [], [], _ => ⟨[], .nil⟩
  | u :: us, n :: ns, .cons r t => by
    obtain ⟨tk, rfl⟩ := r
    obtain ⟨as, hs⟩ := reads_ints t
    exact ⟨[] ++ as, .cons (.int n tk) hs⟩
theorem hold_int {h : Heap} {v : Value} {i : Int} (x : PySem.W.Holds h v i) : ∃ t, v = .int i t := by
  obtain ⟨as, r⟩ := x
  have r : Reads h v (.int i) as := r
  cases r
  exact ⟨_, rfl⟩
theorem minOf_int (x : Int) (xs : List Int) : PySem.W.minOf x xs = xs.foldl min x := by
  unfold PySem.W.minOf
  congr 1
  funext a y
  show (if decide (y < a) = true then y else a) = min a y
  simp only [decide_eq_true_eq]
  split <;> omega
theorem maxOf_int (x : Int) (xs : List Int) : PySem.W.maxOf x xs = xs.foldl max x := by
  unfold PySem.W.maxOf
  congr 1
  funext a y
  show (if decide (a < y) = true then y else a) = max a y
  simp only [decide_eq_true_eq]
  split <;> omega
/-- min(xs), max(xs) of a list or tuple of ints -/
def rMM (K : PySem.W.Frag) (f : Int → Int → Int) : List V → Hp → VK → Prop := fun vs H Q => ∃ (a : Addr) (x : Int) (xs : List Int), vs = [V.ref a] ∧ (SqL K H a ((x :: xs).map V.int) ∨ SqT K H a ((x :: xs).map V.int)) ∧ Q (.int (xs.foldl f x)) H
theorem cr_minLT (hc : X.calm = true) (hu : X.A.units + 100 < cLine) : CallR X (.builtin "min") (rMM X.K min) := by
  intro pins s σ H vs us Q I r h
  obtain ⟨a, x, xs, rfl, hs, q⟩ := h
  rw [Vals.ref1 r]
  have fin : ∀ (h2 : Heap) (v : Value) (tk : Nat), PySem.W.Holds h2 v (PySem.W.minOf x xs) → (∀ b o, s.heap.get? b = some o → h2.get? b = some o) → EP X pins σ Q v { s with heap := h2, toks := tk } := fun h2 v tk hv hk => by
    obtain ⟨t, rfl⟩ := hold_int hv
    rw [minOf_int]
    exact ⟨.int _, H, I.kept hk, ⟨_, rfl⟩, q⟩
  have room : X.A.units + 1 + PySem.W.Datum.depth Int < cLine := by
    show X.A.units + 1 + 0 < cLine
    omega
  rcases hs with hs | hs
  · obtain ⟨its, rv, hl, _⟩ := I.list hs
    exact PySem.W.min_list_datum (α := Int) (I.ok.hd hc) hl.isList (by simpa using reads_ints rv) room fun i v h2 tk _ hv hk => fin h2 v tk hv hk
  · obtain ⟨its, rv, hl, _⟩ := I.tuple hs
    exact PySem.W.min_tuple_datum (α := Int) (I.ok.hd hc) (show s.heap.IsTuple a its.toArray from hl) (by simpa using reads_ints rv) room fun i v h2 tk _ hv hk => fin h2 v tk hv hk
theorem cr_maxLT (hc : X.calm = true) (hu : X.A.units + 100 < cLine) : CallR X (.builtin "max") (rMM X.K max) := by
  intro pins s σ H vs us Q I r h
  obtain ⟨a, x, xs, rfl, hs, q⟩ := h
  rw [Vals.ref1 r]
  have fin : ∀ (h2 : Heap) (v : Value) (tk : Nat), PySem.W.Holds h2 v (PySem.W.maxOf x xs) → (∀ b o, s.heap.get? b = some o → h2.get? b = some o) → EP X pins σ Q v { s with heap := h2, toks := tk } := fun h2 v tk hv hk => by
    obtain ⟨t, rfl⟩ := hold_int hv
    rw [maxOf_int]
    exact ⟨.int _, H, I.kept hk, ⟨_, rfl⟩, q⟩
  have room : X.A.units + 1 + PySem.W.Datum.depth Int < cLine := by
    show X.A.units + 1 + 0 < cLine
    omega
  rcases hs with hs | hs
  · obtain ⟨its, rv, hl, _⟩ := I.list hs
    exact PySem.W.max_list_datum (α := Int) (I.ok.hd hc) hl.isList (by simpa using reads_ints rv) room fun i v h2 tk _ hv hk => fin h2 v tk hv hk
  · obtain ⟨its, rv, hl, _⟩ := I.tuple hs
    exact PySem.W.max_tuple_datum (α := Int) (I.ok.hd hc) (show s.heap.IsTuple a its.toArray from hl) (by simpa using reads_ints rv) room fun i v h2 tk _ hv hk => fin h2 v tk hv hk
end
end Mi
end
section
set_option Elab.async false
set_option linter.all false
set_option maxRecDepth 100000
set_option maxHeartbeats 2000000
/-! SY: tuples whose object is known: exact, without a dict. -/
namespace Mi
open PySem PySem.Spec PyProof.Rows L2
/-- an exact tuple's object -/
def ExT (o : Obj) : Prop := o.cls = .type "tuple" ∧ o.dict = none
/-- an exact tuple -/
def SqX (H : Hp) (a : Addr) (vs : List V) : Prop := ∃ o, H a = some (.frz o (.tup vs)) ∧ ExT o
theorem SqX.toT {K : PySem.W.Frag} {H : Hp} {a : Addr} {vs : List V} (h : SqX H a vs) : SqT K H a vs := let ⟨o, e, _⟩ := h; .inl (.inr ⟨o, e⟩)
theorem SqX.stab {H H' : Hp} {a : Addr} {vs : List V} (h : SqX H a vs) (k : ∀ o u, H a = some (.frz o u) → H' a = some (.frz o u)) : SqX H' a vs := let ⟨o, e, x⟩ := h; ⟨o, k _ _ e, x⟩
/-- a new exact tuple -/
def NewX (H : Hp) (xs : List V) (Q : VK) : Prop := ∀ p o, H p = none → ExT o → Q (.ref p) (upd H p (.frz o (.tup xs)))
section
variable {X : Cx} {pins : List (Addr × Obj)} {σ : L2.St} {H : Hp} {s : Shared}
theorem NewX.end_ {xs : List V} {its : List Value} {t : Nat} {Q : VK} (I : Inv X pins σ H s) (q : NewX H xs Q) (r : Vals xs its) (hz : xs.length ≤ sizeLine) :
    EP X pins σ Q (.ref s.heap.objs.size) { s with heap := s.heap.push { cls := .type "tuple", data := .seq its.toArray }, toks := t } := by
  refine ⟨.ref s.heap.objs.size, _, I.laid (t' := t) (o := .frz { cls := .type "tuple", data := .seq its.toArray } (.tup xs)) (fun b u e => Heap.get?_push_of_some _ e) (Nat.le_refl _) ?_, rfl, q _ _ (I.hok.fresh (Nat.le_refl _)) ⟨rfl, rfl⟩⟩
  exact ⟨Heap.get?_push_size _ rfl, hz, its, r, IsTup.new _ _⟩
end
section
variable {X : Cx} {es : List Expr} {pos : Pos} {t : TA}
def tTupX (t : TA) : TE := fun σ H Q => t σ H fun xs H1 => xs.length ≤ sizeLine ∧ NewX H1 xs Q
theorem pe_tupX {k} (h : PA X es t) : PE X (.Tuple es k pos) (tTupX t) := by
  refine ⟨fun pins s σ H Q I q => ?_⟩
  refine wpAny_Tuple_spliced (thn (h.run pos pins s σ H _ I q) fun us s1 ⟨xs, H1, I1, r, z, q⟩ => ⟨by rw [← r.length]; exact z, ?_⟩)
  exact NewX.end_ I1 q r z
theorem call_tupX : CallR X (.type "tuple") (fun xs H Q => ∃ p ys, xs = [.ref p] ∧ ((SqL X.K H p ys ∧ NewX H ys Q) ∨ (SqT X.K H p ys ∧ Q (.ref p) H))) := by
  intro pins s σ H xs us Q I r h
  obtain ⟨p, ys, rfl, h⟩ := h
  obtain ⟨u, rfl, rx⟩ := vals1 r
  cases rx
  rcases h with ⟨hq, q⟩ | ⟨hq, q⟩
  · obtain ⟨its, r', pl, hz⟩ := I.list hq
    have hlen := r'.length
    refine call_tuple_list pl.isList (fun h2 kp => ?_) (by rw [List.size_toArray]; omega)
    have I1 : Inv X pins σ H { s with heap := h2 } := I.kept (t' := s.toks) kp
    exact NewX.end_ I1 q r' hz
  · obtain ⟨its, r', pl, hz⟩ := I.tuple hq
    exact call_tuple_same pl ⟨.ref p, H, I, rfl, q⟩
/-- t + u -/
def rCatX (K : PySem.W.Frag) : R2 := fun x y H Q => ∃ a b xs ys, x = .ref a ∧ y = .ref b ∧ SqT K H a xs ∧ SqT K H b ys ∧ xs.length + ys.length ≤ sizeLine ∧
  (xs = [] → Q (.ref b) H) ∧ (xs ≠ [] → ys = [] → Q (.ref a) H) ∧ (xs ≠ [] → ys ≠ [] → NewX H (xs ++ ys) Q)
theorem op_catX : OpR X (binaryOp .Add) (rCatX X.K) := by
  intro pins s σ H x y v u Q I rx ry h
  obtain ⟨a, b, xs, ys, rfl, rfl, ha, hb, hz, q0, q1, q2⟩ := h
  cases rx
  cases ry
  obtain ⟨its, r1, p1, _⟩ := I.tuple ha
  obtain ⟨its2, r2, p2, _⟩ := I.tuple hb
  by_cases hx : xs = []
  · subst hx
    cases r1
    exact cat_tup0 p1 p2 ⟨.ref b, H, I, rfl, q0 rfl⟩
  · refine HT.cat_tup p1 p2 (fun z => hx (r1.nil_iff.mp z)) (fun z => ⟨.ref a, H, I, rfl, q1 hx (r2.nil_iff.mp z)⟩) (fun z => ?_) (by rw [← r1.length, ← r2.length]; exact hz)
    exact NewX.end_ I (q2 hx fun w => z (r2.nil_iff.mpr w)) (r1.append r2) (by rw [List.length_append]; exact hz)
/-- t[lo:hi] -/
def rSlX (K : PySem.W.Frag) : V → Option Int → Option Int → Hp → VK → Prop := fun x lo hi H Q => ∃ a xs, x = .ref a ∧ SqT K H a xs ∧
  (HT.sIx xs.length 0 lo = 0 ∧ HT.sIx xs.length xs.length hi = xs.length → Q (.ref a) H) ∧ (¬ (HT.sIx xs.length 0 lo = 0 ∧ HT.sIx xs.length xs.length hi = xs.length) → NewX H (cutV xs lo hi) Q)
theorem sl_tupX : SlR X (rSlX X.K) := by
  intro pins s σ H x v vl vu lo hi sl Q I rx hs pl pu h
  obtain ⟨a, xs, rfl, hx, q1, q2⟩ := h
  cases rx
  obtain ⟨its, r, ht, hz⟩ := I.tuple hx
  have hlen : its.toArray.size = xs.length := by rw [List.size_toArray]; exact r.length.symm
  refine ⟨"tuple", _, PyProof.Rows.slot_tuple_getitem.lookup, ht.typeIs, ?_⟩
  by_cases hw : HT.sIx xs.length 0 lo = 0 ∧ HT.sIx xs.length xs.length hi = xs.length
  · exact getItem_tuple_whole ht hs pl pu (by rw [hlen]; exact hw) ⟨.ref a, H, I, rfl, q1 hw⟩
  · refine HT.getItem_tuple_cut ht hs pl pu (by rw [hlen]; exact hw) ?_ (by rw [hlen]; exact hz)
    rw [hlen]
    exact NewX.end_ I (q2 hw) ((r.drop (HT.sIx xs.length 0 lo)).take (HT.sIx xs.length xs.length hi - HT.sIx xs.length 0 lo)) (Nat.le_trans (cutV_length xs lo hi) hz)
/-- t * k -/
def rRepX (K : PySem.W.Frag) : R2 := fun x y H Q => ∃ l k xs, x = .ref l ∧ y = .int k ∧ SqT K H l xs ∧ xs ≠ [] ∧ 2 ≤ k ∧ k ≤ 1000 ∧ xs.length ≤ 1000 ∧ NewX H (List.replicate k.toNat xs).flatten Q
theorem op_repX : OpR X (binaryOp .Mult) (rRepX X.K) := by
  intro pins s σ H x y v u Q I rx ry h
  obtain ⟨l, k, xs, rfl, rfl, hT, hne, h1, h2, hz, q⟩ := h
  cases rx
  obtain ⟨t, rfl⟩ := ry
  obtain ⟨its, r, ⟨⟨cls, dd, data, sl⟩, ho, hc, n, hd⟩, hs⟩ := I.tuple hT
  simp only at hc hd
  subst hc hd
  have hle : its.length = xs.length := r.length.symm
  have hn : its ≠ [] := by
    rintro rfl
    exact hne (List.eq_nil_of_length_eq_zero hle.symm)
  have hi : its.toArray.isEmpty = false := by cases its <;> first | exact absurd rfl hn | rfl
  have hsz0 : its.toArray.size = xs.length := by rw [List.size_toArray, hle]
  have hm : ((its.toArray.size : Nat) : Int) * k ≤ 1000000 := by
    rw [hsz0]
    have a1 : ((xs.length : Nat) : Int) * k ≤ 1000 * k := Int.mul_le_mul_of_nonneg_right (by omega) (by omega)
    omega
  have big : k.toNat * xs.length ≤ 1000 * 1000 := Nat.mul_le_mul (by omega) hz
  have c0 : (decide (k < -(2 ^ 63)) || decide (k ≥ 2 ^ 63)) = false := by simp; omega
  have c1 : (its.toArray.isEmpty || k == 1) = false := by
    rw [hi, Bool.false_or, beq_eq_false_iff_ne]; omega
  have c2 : (decide (k ≤ 0) || its.toArray.isEmpty) = false := by
    rw [hi, Bool.or_false, decide_eq_false_iff_not]; omega
  have c4 : Builtin.Tuple.tupleTooMany (((its.toArray.size : Nat) : Int) * k) = false := by
    unfold Builtin.Tuple.tupleTooMany
    rw [sizeLine_eq, decide_eq_false_iff_not]; omega
  have flen : (List.replicate k.toNat its).flatten.length ≤ sizeLine := by
    rw [PyProof.Rows.lm_len_rep_flat, hle, sizeLine_eq]; omega
  refine wpAny_binaryOp_repeat_ref (T := "tuple") (U := "int") (by decide) ⟨_, ho, rfl⟩ (fun s' => typeIs_int s' k t) noFill_tuple_mul F.fills_int_mul F.slot_int_rmul repeat_tuple F.slot_int_index.lookup
    (call_meets F.slot_int_rmul (typeIs_int s k t) F.entry_int_rmul (F.args_int_rmul_2 _ _) (int_rmul_tuple k t l its.toArray n dd sl)
      ⟨ho, rfl, ⟨_, ho, rfl⟩, call_meets F.slot_tuple_mul ⟨_, ho, rfl⟩ F.entry_tuple_mul (F.args_tuple_mul_2 _ _) (tuple_mulW l its.toArray n dd sl k t c0 c1 c2 (by omega) c4 (by rw [size_rep, List.size_toArray]; exact flen)) ⟨ho, ?_⟩⟩)
  rw [size_rep]
  exact NewX.end_ I q (r.rep k.toNat) (by rw [PyProof.Rows.lm_len_rep_flat, sizeLine_eq]; omega)
variable {o e : Expr} {to : TE} {name : Str} {apos cpos : Pos} {id : String} {r : V → List V → Hp → VK → Prop}
/-- t.m(e, ..), t an exact tuple -/
theorem pe_bmX (slot : Slot "tuple" name id) (hty : typeOf (.builtin id) = pure (.type "method_descriptor")) (hm : MtR X id r) (ho : PE X o to) (ha : PA X (e :: es) t)
    (hbase : attributeBase o name X.env (eval o X.env) = eval o X.env)
    (hfew : ((PySem.backTo cpos (starEach (e :: es) X.env)).all (fun x => !x.1) && (backToKw cpos (keywordEach [] X.env)).all (fun x => x.1.isSome)
      && decide ((e :: es).length + ([] : List Keyword).length + (if ([] : List Keyword).isEmpty then 0 else 1) < 30)) = true)
    (hline : (apos.endLine == cpos.line) = true) (hs : starEach (e :: es) X.env = (false, eval e X.env) :: starEach es X.env) (hplain : (PySem.backTo cpos (starEach es X.env)).any (·.1) = false) :
    PE X (.Call (.Attribute o name apos) (e :: es) [] cpos) (fun σ H Q => to σ H fun x H1 => (∃ a vs, x = .ref a ∧ SqX H1 a vs) ∧ t σ H1 fun xs H2 => r x xs H2 Q) := by
  refine ⟨fun pins s σ H Q I h => ?_⟩
  refine wpAny_Call_method_late hbase hfew hline rfl (thn (ho.run pins s σ H _ I h) fun v s1 ⟨x, H1, I1, r1, ⟨a, vs, ex, ob, eo, xt⟩, q1⟩ => ?_)
  subst ex
  cases r1
  have hob : s1.heap.get? a = some ob := (I1.hok a _ eo).1
  refine ⟨"tuple", id, PySem.F.plainAttrs_tuple, slot, hty, ⟨ob, hob, xt.1⟩, fun b e => ?_, ?_⟩
  · cases e
    exact ⟨ob, hob, xt.2⟩
  · have hA := ha.run cpos pins s1 σ H1 _ I1 q1
    rw [hs] at hA ⊢
    refine Calls.callWith_builtin (by show (false || (PySem.backTo cpos (starEach es X.env)).any (·.1)) = false; rw [hplain] <;> rfl) (Calls.evalArgs_plain ?_)
    exact thn hA fun us s2 ⟨ws, H2, I2, r2, q2⟩ => hm pins s2 σ H2 (.ref a) ws (.ref a) us Q I2 rfl r2 q2
end
end Mi
end
section
set_option linter.all false
/-! tuples of ints, sorted. -/
namespace Mi
theorem lexLe_refl : ∀ x, lexLe x x = true
  | [] => rfl
  | a :: x => by unfold lexLe; rw [if_pos rfl]; exact lexLe_refl x
theorem lexLe_total : ∀ x y, lexLe x y = true ∨ lexLe y x = true
  | [], _ => .inl rfl
  | _ :: _, [] => .inr rfl
  | a :: x, b :: y => by
    unfold lexLe
    by_cases h : a = b
    · subst h
      rw [if_pos rfl, if_pos rfl]
      exact lexLe_total x y
    · rw [if_neg h, if_neg (Ne.symm h), decide_eq_true_eq, decide_eq_true_eq]
      omega
theorem lexLe_antisymm : ∀ x y, lexLe x y = true → lexLe y x = true → x = y
  | [], [], _, _ => rfl
  | [], _ :: _, _, h => by cases h
  | _ :: _, [], h, _ => by cases h
  | a :: x, b :: y, h1, h2 => by
    unfold lexLe at h1 h2
    by_cases h : a = b
    · subst h
      rw [if_pos rfl] at h1 h2
      rw [lexLe_antisymm x y h1 h2]
    · rw [if_neg h, decide_eq_true_eq] at h1
      rw [if_neg (Ne.symm h), decide_eq_true_eq] at h2
      omega
theorem lexLe_trans : ∀ x y z, lexLe x y = true → lexLe y z = true → lexLe x z = true
  | [], _, _, _, _ => rfl
  | _ :: _, [], _, h, _ => by cases h
  | _ :: _, _ :: _, [], _, h => by cases h
  | a :: x, b :: y, c :: z, h1, h2 => by
    unfold lexLe at h1 h2 ⊢
    by_cases h : a = b
    · subst h
      rw [if_pos rfl] at h1
      by_cases h' : a = c
      · subst h'
        rw [if_pos rfl] at h2 ⊢
        exact lexLe_trans x y z h1 h2
      · rw [if_neg h'] at h2 ⊢; exact h2
    · rw [if_neg h, decide_eq_true_eq] at h1
      by_cases h' : b = c
      · subst h'
        rw [if_neg h, decide_eq_true_eq]; exact h1
      · rw [if_neg h', decide_eq_true_eq] at h2
        rw [if_neg (by omega), decide_eq_true_eq]; omega
theorem insT_perm (x : List Int) : ∀ l, (insT x l).Perm (x :: l)
  | [] => List.Perm.refl _
  | y :: r => by
    unfold insT
    split
    · exact List.Perm.refl _
    · exact ((insT_perm x r).cons y).trans (List.Perm.swap x y r)
theorem sortT_perm : ∀ l, (sortT l).Perm l
  | [] => List.Perm.refl _
  | x :: r => (insT_perm x _).trans ((sortT_perm r).cons x)
theorem insT_sorted (x : List Int) : ∀ l, l.Pairwise (fun a b => lexLe a b = true) → (insT x l).Pairwise (fun a b => lexLe a b = true)
  | [], _ => List.pairwise_singleton _ _
  | y :: r, h => by
    obtain ⟨h1, h2⟩ := List.pairwise_cons.mp h
    unfold insT
    split
    · rename_i c
      refine List.pairwise_cons.mpr ⟨fun z hz => ?_, h⟩
      rcases List.mem_cons.mp hz with rfl | hz
      · exact c
      · exact lexLe_trans _ _ _ c (h1 z hz)
    · rename_i c
      refine List.pairwise_cons.mpr ⟨fun z hz => ?_, insT_sorted x r h2⟩
      rcases List.mem_cons.mp ((insT_perm x r).mem_iff.mp hz) with rfl | hz
      · exact (lexLe_total z y).resolve_left c
      · exact h1 z hz
theorem sortT_sorted : ∀ l, (sortT l).Pairwise (fun a b => lexLe a b = true)
  | [] => List.Pairwise.nil
  | x :: r => insT_sorted x _ (sortT_sorted r)
theorem sortT_eq {l l' : List (List Int)} (p : l'.Perm l) (s : l'.Pairwise (fun a b => lexLe a b = true)) : l' = sortT l :=
  (p.trans (sortT_perm l).symm).eq_of_pairwise (fun a b _ _ h1 h2 => lexLe_antisymm a b h1 h2) s (sortT_sorted l)
end Mi
end
section
set_option Elab.async false
set_option linter.all false
set_option maxRecDepth 100000
set_option maxHeartbeats 1000000
/-! S1: how the mini values lie in the abstract heap. -/
namespace Mi
open PySem PySem.Spec PyProof.Rows L2

/-- the script: known to the object, or one of the module's own -/
def ScrAt (K : PySem.W.Frag) (H : Hp) (a : Addr) (ns : List Int) : Prop :=
  (∃ o, H a = some (.frz o (.lst (ns.map V.int)))) ∨
    ∃ (o : Obj) (its : Array Value) (n : Nat), K.lookup a = some o ∧ o.cls = .type "list" ∧ o.dict = none ∧ o.data = .seq its n ∧ its.size ≤ sizeLine ∧ Vals (ns.map V.int) its.toList
section
variable (K : PySem.W.Frag)
mutual
/-- x lies at v, owned to the depth d; O: the addresses that are owned; L: all that are live -/
def Own (L : Addr → Prop) (H : Hp) : Nat → PV → V → List Addr → Prop
  | _, .non, v, O => O = [] ∧ v = .non
  | _, .bl b, v, O => O = [] ∧ v = .bl b
  | _, .int i, v, O => O = [] ∧ v = .int i
  | _, .str x, v, O => O = [] ∧ v = .str x
  | _, .tup xs, v, O => O = [] ∧ ∃ a vs, v = .ref a ∧ SqX H a vs ∧ Owns L H 0 xs vs []
  | 0, .lst xs, v, O => O = [] ∧ ∃ a vs, v = .ref a ∧ ¬ L a ∧ H a = some (.lst vs) ∧ Owns L H 0 xs vs []
  | n + 1, .lst xs, v, O => ∃ a vs O', v = .ref a ∧ O = a :: O' ∧ H a = some (.lst vs) ∧ Owns L H n xs vs O'
  | 0, .dct kvs, v, O => O = [] ∧ ∃ a ms, v = .ref a ∧ ¬ L a ∧ Rd H a (.dK ms) ∧ Ownd L H 0 kvs ms []
  | n + 1, .dct kvs, v, O => ∃ a ms O', v = .ref a ∧ O = a :: O' ∧ H a = some (.dK ms) ∧ Ownd L H n kvs ms O'
  | _, .exc _ _, _, _ => False
  | _, .scr ns, v, O => O = [] ∧ ∃ a, v = .ref a ∧ ScrAt K H a ns
def Owns (L : Addr → Prop) (H : Hp) : Nat → List PV → List V → List Addr → Prop
  | _, [], vs, O => vs = [] ∧ O = []
  | n, x :: xs, vs, O => ∃ v vr O1 O2, vs = v :: vr ∧ O = O1 ++ O2 ∧ Own L H n x v O1 ∧ Owns L H n xs vr O2
def Ownd (L : Addr → Prop) (H : Hp) : Nat → List (Key × PV) → List (Key × V) → List Addr → Prop
  | _, [], vs, O => vs = [] ∧ O = []
  | n, (k, x) :: xs, vs, O => ∃ v vr O1 O2, vs = (k, v) :: vr ∧ O = O1 ++ O2 ∧ Own L H n x v O1 ∧ Ownd L H n xs vr O2
end

/-- the heap goes on: what is tracked and not owned stays -/
structure Ext (O : List Addr) (H H' : Hp) (N : List Addr) : Prop where
  keep : ∀ b o, H b = some o → b ∉ O → H' b = some o
  new : ∀ b ∈ N, b ∈ O ∨ H b = none
  dom : ∀ b, H b ≠ none → H' b ≠ none
  tups : ∀ b u, H b = some (.tup u) → H' b = some (.tup u)
  frzs : ∀ b o u, H b = some (.frz o u) → H' b = some (.frz o u)

variable {K}
theorem Rd.stab {H H' : Hp} {a : Addr} {u : HO} (r : Rd H a u) (k : ∀ o, H a = some o → H' a = some o) : Rd H' a u := by
  rcases r with r | ⟨o, r⟩
  · exact .inl (k _ r)
  · exact .inr ⟨o, k _ r⟩
theorem Rd.there {H : Hp} {a : Addr} {u : HO} (r : Rd H a u) : H a ≠ none := by
  rcases r with r | ⟨o, r⟩ <;> rw [r] <;> simp
theorem SqT.stab {H H' : Hp} {a : Addr} {xs : List V} (r : SqT K H a xs) (k : ∀ u, H a = some (.tup u) → H' a = some (.tup u)) (k2 : ∀ o u, H a = some (.frz o u) → H' a = some (.frz o u)) : SqT K H' a xs := by
  rcases r with (r | ⟨o, r⟩) | r
  · exact .inl (.inl (k _ r))
  · exact .inl (.inr ⟨o, k2 _ _ r⟩)
  · exact .inr r

mutual
/-- what an Own leans on -/
theorem Own.stab {L L' : Addr → Prop} {H H' : Hp} (ht : ∀ b u, H b = some (.tup u) → H' b = some (.tup u)) (hf : ∀ b o u, H b = some (.frz o u) → H' b = some (.frz o u)) :
    ∀ (x : PV) (d : Nat) (v : V) (O : List Addr), Own K L H d x v O → (∀ b o, H b = some o → (b ∈ O ∨ ¬ L b) → H' b = some o) → (∀ b, H b ≠ none → ¬ L b → ¬ L' b) → Own K L' H' d x v O
  | .non, d, v, O, h, k, n => by cases d <;> exact h
  | .bl b, d, v, O, h, k, n => by cases d <;> exact h
  | .int i, d, v, O, h, k, n => by cases d <;> exact h
  | .str x, d, v, O, h, k, n => by cases d <;> exact h
  | .tup xs, d, v, O, h, k, n => by
    have h' : O = [] ∧ ∃ a vs, v = .ref a ∧ SqX H a vs ∧ Owns K L H 0 xs vs [] := by cases d <;> exact h
    obtain ⟨rfl, a, vs, rfl, hs, ho⟩ := h'
    have r : Own K L' H' d (.tup xs) (.ref a) [] = ([] = ([] : List Addr) ∧ ∃ a' vs, V.ref a = .ref a' ∧ SqX H' a' vs ∧ Owns K L' H' 0 xs vs []) := by cases d <;> rfl
    rw [r]
    exact ⟨rfl, a, vs, rfl, SqX.stab hs (hf a), Owns.stab ht hf xs 0 vs [] ho (fun b o e hb => k b o e (hb.elim (fun z => nomatch z) .inr)) n⟩
  | .lst xs, 0, v, O, h, k, n => by
    obtain ⟨rfl, a, vs, rfl, na, hr, ho⟩ := h
    exact ⟨rfl, a, vs, rfl, n a (by rw [hr]; simp) na, k a _ hr (.inr na), Owns.stab ht hf xs 0 vs [] ho k n⟩
  | .lst xs, d + 1, v, O, h, k, n => by
    obtain ⟨a, vs, O', rfl, rfl, ha, ho⟩ := h
    exact ⟨a, vs, O', rfl, rfl, k a _ ha (.inl List.mem_cons_self), Owns.stab ht hf xs d vs O' ho (fun b o e hb => k b o e (hb.imp (List.mem_cons_of_mem _) id)) n⟩
  | .dct xs, 0, v, O, h, k, n => by
    obtain ⟨rfl, a, vs, rfl, na, hr, ho⟩ := h
    exact ⟨rfl, a, vs, rfl, n a (Rd.there hr) na, Rd.stab hr fun o e => k a o e (.inr na), Ownd.stab ht hf xs 0 vs [] ho k n⟩
  | .dct xs, d + 1, v, O, h, k, n => by
    obtain ⟨a, vs, O', rfl, rfl, ha, ho⟩ := h
    exact ⟨a, vs, O', rfl, rfl, k a _ ha (.inl List.mem_cons_self), Ownd.stab ht hf xs d vs O' ho (fun b o e hb => k b o e (hb.imp (List.mem_cons_of_mem _) id)) n⟩
  | .exc _ _, d, v, O, h, k, n => by cases d <;> exact h
  | .scr ns, d, v, O, h, k, n => by
    have h' : O = [] ∧ ∃ a, v = .ref a ∧ ScrAt K H a ns := by cases d <;> exact h
    obtain ⟨rfl, a, rfl, hs⟩ := h'
    have hs' : ScrAt K H' a ns := hs.imp (fun ⟨o, e⟩ => ⟨o, hf _ _ _ e⟩) id
    cases d <;> exact ⟨rfl, a, rfl, hs'⟩
theorem Owns.stab {L L' : Addr → Prop} {H H' : Hp} (ht : ∀ b u, H b = some (.tup u) → H' b = some (.tup u)) (hf : ∀ b o u, H b = some (.frz o u) → H' b = some (.frz o u)) :
    ∀ (xs : List PV) (d : Nat) (vs : List V) (O : List Addr), Owns K L H d xs vs O → (∀ b o, H b = some o → (b ∈ O ∨ ¬ L b) → H' b = some o) → (∀ b, H b ≠ none → ¬ L b → ¬ L' b) → Owns K L' H' d xs vs O
  | [], d, vs, O, h, k, n => h
  | x :: xs, d, vs, O, h, k, n => by
    obtain ⟨v, vr, O1, O2, rfl, rfl, h1, h2⟩ := h
    exact ⟨v, vr, O1, O2, rfl, rfl, Own.stab ht hf x d v O1 h1 (fun b o e hb => k b o e (hb.imp (List.mem_append_left _) id)) n,
      Owns.stab ht hf xs d vr O2 h2 (fun b o e hb => k b o e (hb.imp (List.mem_append_right _) id)) n⟩
theorem Ownd.stab {L L' : Addr → Prop} {H H' : Hp} (ht : ∀ b u, H b = some (.tup u) → H' b = some (.tup u)) (hf : ∀ b o u, H b = some (.frz o u) → H' b = some (.frz o u)) :
    ∀ (xs : List (Key × PV)) (d : Nat) (vs : List (Key × V)) (O : List Addr), Ownd K L H d xs vs O → (∀ b o, H b = some o → (b ∈ O ∨ ¬ L b) → H' b = some o) → (∀ b, H b ≠ none → ¬ L b → ¬ L' b) → Ownd K L' H' d xs vs O
  | [], d, vs, O, h, k, n => h
  | (q, x) :: xs, d, vs, O, h, k, n => by
    obtain ⟨v, vr, O1, O2, rfl, rfl, h1, h2⟩ := h
    exact ⟨v, vr, O1, O2, rfl, rfl, Own.stab ht hf x d v O1 h1 (fun b o e hb => k b o e (hb.imp (List.mem_append_left _) id)) n,
      Ownd.stab ht hf xs d vr O2 h2 (fun b o e hb => k b o e (hb.imp (List.mem_append_right _) id)) n⟩
end
/-- an owned address is a list's or a dict's -/
def IsLD (o : Option HO) : Prop := (∃ xs, o = some (.lst xs)) ∨ ∃ ms, o = some (.dK ms)
mutual
theorem Own.isLD {L : Addr → Prop} {H : Hp} : ∀ (x : PV) (d : Nat) (v : V) (O : List Addr), Own K L H d x v O → ∀ b ∈ O, IsLD (H b)
  | .non, d, v, O, h, b, hb => by
    have h' : O = [] ∧ v = .non := by cases d <;> exact h
    rw [h'.1] at hb; cases hb
  | .bl q, d, v, O, h, b, hb => by
    have h' : O = [] ∧ v = .bl q := by cases d <;> exact h
    rw [h'.1] at hb; cases hb
  | .int q, d, v, O, h, b, hb => by
    have h' : O = [] ∧ v = .int q := by cases d <;> exact h
    rw [h'.1] at hb; cases hb
  | .str q, d, v, O, h, b, hb => by
    have h' : O = [] ∧ v = .str q := by cases d <;> exact h
    rw [h'.1] at hb; cases hb
  | .tup xs, d, v, O, h, b, hb => by
    have h' : O = [] ∧ ∃ a vs, v = .ref a ∧ SqX H a vs ∧ Owns K L H 0 xs vs [] := by cases d <;> exact h
    rw [h'.1] at hb; cases hb
  | .lst xs, 0, v, O, h, b, hb => by
    obtain ⟨rfl, _⟩ := h; cases hb
  | .dct xs, 0, v, O, h, b, hb => by
    obtain ⟨rfl, _⟩ := h; cases hb
  | .lst xs, d + 1, v, O, h, b, hb => by
    obtain ⟨a, vs, O', rfl, rfl, ha, ho⟩ := h
    rcases List.mem_cons.mp hb with rfl | hb
    · exact .inl ⟨_, ha⟩
    · exact Owns.isLD xs d vs O' ho b hb
  | .dct xs, d + 1, v, O, h, b, hb => by
    obtain ⟨a, vs, O', rfl, rfl, ha, ho⟩ := h
    rcases List.mem_cons.mp hb with rfl | hb
    · exact .inr ⟨_, ha⟩
    · exact Ownd.isLD xs d vs O' ho b hb
  | .exc _ _, d, v, O, h, b, hb => by cases d <;> exact h.elim
  | .scr ns, d, v, O, h, b, hb => by
    have h' : O = [] ∧ ∃ a, v = .ref a ∧ ScrAt K H a ns := by cases d <;> exact h
    rw [h'.1] at hb; cases hb
theorem Owns.isLD {L : Addr → Prop} {H : Hp} : ∀ (xs : List PV) (d : Nat) (vs : List V) (O : List Addr), Owns K L H d xs vs O → ∀ b ∈ O, IsLD (H b)
  | [], d, vs, O, h, b, hb => by
    obtain ⟨_, rfl⟩ := h; cases hb
  | x :: xs, d, vs, O, h, b, hb => by
    obtain ⟨v, vr, O1, O2, rfl, rfl, h1, h2⟩ := h
    exact (List.mem_append.mp hb).elim (Own.isLD x d v O1 h1 b) (Owns.isLD xs d vr O2 h2 b)
theorem Ownd.isLD {L : Addr → Prop} {H : Hp} : ∀ (xs : List (Key × PV)) (d : Nat) (vs : List (Key × V)) (O : List Addr), Ownd K L H d xs vs O → ∀ b ∈ O, IsLD (H b)
  | [], d, vs, O, h, b, hb => by
    obtain ⟨_, rfl⟩ := h; cases hb
  | (k, x) :: xs, d, vs, O, h, b, hb => by
    obtain ⟨v, vr, O1, O2, rfl, rfl, h1, h2⟩ := h
    exact (List.mem_append.mp hb).elim (Own.isLD x d v O1 h1 b) (Ownd.isLD xs d vr O2 h2 b)
end
theorem IsLD.there {o : Option HO} (h : IsLD o) : o ≠ none := by
  rcases h with ⟨_, h⟩ | ⟨_, h⟩ <;> rw [h] <;> simp

/-- what is no list or dict owns nothing -/
theorem Own.scalar {L : Addr → Prop} {H : Hp} {x : PV} {d : Nat} {v : V} {O : List Addr} (hx : isL x = false) (h : Own K L H d x v O) : O = [] ∧ ∀ d', Own K L H d' x v [] := by
  cases x with
  | non => have h' : O = [] ∧ v = .non := by cases d <;> exact h
           exact ⟨h'.1, fun d' => by cases d' <;> exact ⟨rfl, h'.2⟩⟩
  | bl q => have h' : O = [] ∧ v = .bl q := by cases d <;> exact h
            exact ⟨h'.1, fun d' => by cases d' <;> exact ⟨rfl, h'.2⟩⟩
  | int q => have h' : O = [] ∧ v = .int q := by cases d <;> exact h
             exact ⟨h'.1, fun d' => by cases d' <;> exact ⟨rfl, h'.2⟩⟩
  | str q => have h' : O = [] ∧ v = .str q := by cases d <;> exact h
             exact ⟨h'.1, fun d' => by cases d' <;> exact ⟨rfl, h'.2⟩⟩
  | tup xs => have h' : O = [] ∧ ∃ a vs, v = .ref a ∧ SqX H a vs ∧ Owns K L H 0 xs vs [] := by cases d <;> exact h
              exact ⟨h'.1, fun d' => by cases d' <;> exact ⟨rfl, h'.2⟩⟩
  | lst xs => cases hx
  | dct xs => cases hx
  | exc c fs => cases d <;> exact h.elim
  | scr ns => have h' : O = [] ∧ ∃ a, v = .ref a ∧ ScrAt K H a ns := by cases d <;> exact h
              exact ⟨h'.1, fun d' => by cases d' <;> exact ⟨rfl, h'.2⟩⟩

theorem not_mem_of_nodup {A B : List Addr} (h : (A ++ B).Nodup) {b : Addr} (hb : b ∈ A) : b ∉ B := fun z => (List.nodup_append.mp h).2.2 b hb b z rfl
theorem Own.zero {L : Addr → Prop} {H : Hp} {x : PV} {v : V} {O : List Addr} (h : Own K L H 0 x v O) : O = [] := by
  cases x <;> first | exact h.1 | exact h.elim
theorem Owns.zero {L : Addr → Prop} {H : Hp} : ∀ {xs : List PV} {vs : List V} {O : List Addr}, Owns K L H 0 xs vs O → O = []
  | [], _, _, h => h.2
  | x :: xs, _, _, h => by
    obtain ⟨v, vr, O1, O2, rfl, rfl, h1, h2⟩ := h
    rw [Own.zero h1, Owns.zero h2]; rfl
theorem Ownd.zero {L : Addr → Prop} {H : Hp} : ∀ {xs : List (Key × PV)} {vs : List (Key × V)} {O : List Addr}, Ownd K L H 0 xs vs O → O = []
  | [], _, _, h => h.2
  | (k, x) :: xs, _, _, h => by
    obtain ⟨v, vr, O1, O2, rfl, rfl, h1, h2⟩ := h
    rw [Own.zero h1, Ownd.zero h2]; rfl
mutual
/-- owned less deep: what is let go is live no more -/
theorem Own.weaken {L : Addr → Prop} {H : Hp} : ∀ (x : PV) (d : Nat) (v : V) (O : List Addr) (m : Nat), m ≤ d → O.Nodup → Own K L H d x v O →
    ∃ O', O'.Sublist O ∧ ∀ L' : Addr → Prop, (∀ b, H b ≠ none → ¬ L b → ¬ L' b) → (∀ b ∈ O, b ∉ O' → ¬ L' b) → Own K L' H m x v O'
  | .non, d, v, O, m, _, _, h => ⟨[], List.nil_sublist _, fun L' _ _ => by
    have h' : O = [] ∧ v = .non := by cases d <;> exact h
    cases m <;> exact ⟨rfl, h'.2⟩⟩
  | .bl q, d, v, O, m, _, _, h => ⟨[], List.nil_sublist _, fun L' _ _ => by
    have h' : O = [] ∧ v = .bl q := by cases d <;> exact h
    cases m <;> exact ⟨rfl, h'.2⟩⟩
  | .int q, d, v, O, m, _, _, h => ⟨[], List.nil_sublist _, fun L' _ _ => by
    have h' : O = [] ∧ v = .int q := by cases d <;> exact h
    cases m <;> exact ⟨rfl, h'.2⟩⟩
  | .str q, d, v, O, m, _, _, h => ⟨[], List.nil_sublist _, fun L' _ _ => by
    have h' : O = [] ∧ v = .str q := by cases d <;> exact h
    cases m <;> exact ⟨rfl, h'.2⟩⟩
  | .tup xs, d, v, O, m, _, _, h => ⟨[], List.nil_sublist _, fun L' hl _ => by
    have h' : O = [] ∧ ∃ a vs, v = .ref a ∧ SqX H a vs ∧ Owns K L H 0 xs vs [] := by cases d <;> exact h
    obtain ⟨rfl, a, vs, rfl, hs, ho⟩ := h'
    have ho' := Owns.stab (L' := L') (H' := H) (fun _ _ e => e) (fun _ _ _ e => e) xs 0 vs [] ho (fun _ _ e _ => e) hl
    cases m <;> exact ⟨rfl, a, vs, rfl, hs, ho'⟩⟩
  | .lst xs, 0, v, O, m, hm, _, h => ⟨[], List.nil_sublist _, fun L' hl _ => by
    obtain rfl : m = 0 := Nat.le_zero.mp hm
    have e : O = [] := h.1
    subst e
    exact Own.stab (fun _ _ e => e) (fun _ _ _ e => e) (.lst xs) 0 v [] h (fun _ _ e _ => e) hl⟩
  | .dct xs, 0, v, O, m, hm, _, h => ⟨[], List.nil_sublist _, fun L' hl _ => by
    obtain rfl : m = 0 := Nat.le_zero.mp hm
    have e : O = [] := h.1
    subst e
    exact Own.stab (fun _ _ e => e) (fun _ _ _ e => e) (.dct xs) 0 v [] h (fun _ _ e _ => e) hl⟩
  | .lst xs, d + 1, v, O, 0, _, nd, h => ⟨[], List.nil_sublist _, fun L' hl ho => by
    obtain ⟨a, vs, O1, rfl, rfl, ha, hs⟩ := h
    obtain ⟨O2, sub, w⟩ := Owns.weaken xs d vs O1 0 (Nat.zero_le _) (List.nodup_cons.mp nd).2 hs
    have w' := w L' hl fun b hb _ => ho b (List.mem_cons_of_mem _ hb) (by simp)
    have e : O2 = [] := Owns.zero w'
    subst e
    exact ⟨rfl, a, vs, rfl, ho a List.mem_cons_self (by simp), ha, w'⟩⟩
  | .dct xs, d + 1, v, O, 0, _, nd, h => ⟨[], List.nil_sublist _, fun L' hl ho => by
    obtain ⟨a, vs, O1, rfl, rfl, ha, hs⟩ := h
    obtain ⟨O2, sub, w⟩ := Ownd.weaken xs d vs O1 0 (Nat.zero_le _) (List.nodup_cons.mp nd).2 hs
    have w' := w L' hl fun b hb _ => ho b (List.mem_cons_of_mem _ hb) (by simp)
    have e : O2 = [] := Ownd.zero w'
    subst e
    exact ⟨rfl, a, vs, rfl, ho a List.mem_cons_self (by simp), .inl ha, w'⟩⟩
  | .lst xs, d + 1, v, O, m + 1, hm, nd, h => by
    obtain ⟨a, vs, O1, rfl, rfl, ha, hs⟩ := h
    obtain ⟨O2, sub, w⟩ := Owns.weaken xs d vs O1 m (by omega) (List.nodup_cons.mp nd).2 hs
    refine ⟨a :: O2, sub.cons_cons a, fun L' hl ho => ⟨a, vs, O2, rfl, rfl, ha, w L' hl fun b hb nb => ho b (List.mem_cons_of_mem _ hb) fun z => ?_⟩⟩
    rcases List.mem_cons.mp z with rfl | z
    · exact (List.nodup_cons.mp nd).1 hb
    · exact nb z
  | .dct xs, d + 1, v, O, m + 1, hm, nd, h => by
    obtain ⟨a, vs, O1, rfl, rfl, ha, hs⟩ := h
    obtain ⟨O2, sub, w⟩ := Ownd.weaken xs d vs O1 m (by omega) (List.nodup_cons.mp nd).2 hs
    refine ⟨a :: O2, sub.cons_cons a, fun L' hl ho => ⟨a, vs, O2, rfl, rfl, ha, w L' hl fun b hb nb => ho b (List.mem_cons_of_mem _ hb) fun z => ?_⟩⟩
    rcases List.mem_cons.mp z with rfl | z
    · exact (List.nodup_cons.mp nd).1 hb
    · exact nb z
  | .exc _ _, d, v, O, m, _, _, h => by cases d <;> exact h.elim
  | .scr ns, d, v, O, m, _, _, h => ⟨[], List.nil_sublist _, fun L' _ _ => by
    have h' : O = [] ∧ ∃ a, v = .ref a ∧ ScrAt K H a ns := by cases d <;> exact h
    cases m <;> exact ⟨rfl, h'.2⟩⟩
theorem Owns.weaken {L : Addr → Prop} {H : Hp} : ∀ (xs : List PV) (d : Nat) (vs : List V) (O : List Addr) (m : Nat), m ≤ d → O.Nodup → Owns K L H d xs vs O →
    ∃ O', O'.Sublist O ∧ ∀ L' : Addr → Prop, (∀ b, H b ≠ none → ¬ L b → ¬ L' b) → (∀ b ∈ O, b ∉ O' → ¬ L' b) → Owns K L' H m xs vs O'
  | [], d, vs, O, m, _, _, h => ⟨[], List.nil_sublist _, fun _ _ _ => ⟨h.1, rfl⟩⟩
  | x :: xs, d, vs, O, m, hm, nd, h => by
    obtain ⟨v, vr, O1, O2, rfl, rfl, h1, h2⟩ := h
    have n1 := (List.nodup_append.mp nd).1
    have n2 := (List.nodup_append.mp nd).2.1
    obtain ⟨P1, s1, w1⟩ := Own.weaken x d v O1 m hm n1 h1
    obtain ⟨P2, s2, w2⟩ := Owns.weaken xs d vr O2 m hm n2 h2
    refine ⟨P1 ++ P2, s1.append s2, fun L' hl ho => ⟨v, vr, P1, P2, rfl, rfl, w1 L' hl fun b hb nb => ho b (List.mem_append_left _ hb) fun z => ?_, w2 L' hl fun b hb nb => ho b (List.mem_append_right _ hb) fun z => ?_⟩⟩
    · rcases List.mem_append.mp z with z | z
      · exact nb z
      · exact not_mem_of_nodup nd hb (s2.subset z)
    · rcases List.mem_append.mp z with z | z
      · exact not_mem_of_nodup nd (s1.subset z) hb
      · exact nb z
theorem Ownd.weaken {L : Addr → Prop} {H : Hp} : ∀ (xs : List (Key × PV)) (d : Nat) (vs : List (Key × V)) (O : List Addr) (m : Nat), m ≤ d → O.Nodup → Ownd K L H d xs vs O →
    ∃ O', O'.Sublist O ∧ ∀ L' : Addr → Prop, (∀ b, H b ≠ none → ¬ L b → ¬ L' b) → (∀ b ∈ O, b ∉ O' → ¬ L' b) → Ownd K L' H m xs vs O'
  | [], d, vs, O, m, _, _, h => ⟨[], List.nil_sublist _, fun _ _ _ => ⟨h.1, rfl⟩⟩
  | (k, x) :: xs, d, vs, O, m, hm, nd, h => by
    obtain ⟨v, vr, O1, O2, rfl, rfl, h1, h2⟩ := h
    have n1 := (List.nodup_append.mp nd).1
    have n2 := (List.nodup_append.mp nd).2.1
    obtain ⟨P1, s1, w1⟩ := Own.weaken x d v O1 m hm n1 h1
    obtain ⟨P2, s2, w2⟩ := Ownd.weaken xs d vr O2 m hm n2 h2
    refine ⟨P1 ++ P2, s1.append s2, fun L' hl ho => ⟨v, vr, P1, P2, rfl, rfl, w1 L' hl fun b hb nb => ho b (List.mem_append_left _ hb) fun z => ?_, w2 L' hl fun b hb nb => ho b (List.mem_append_right _ hb) fun z => ?_⟩⟩
    · rcases List.mem_append.mp z with z | z
      · exact nb z
      · exact not_mem_of_nodup nd hb (s2.subset z)
    · rcases List.mem_append.mp z with z | z
      · exact not_mem_of_nodup nd (s1.subset z) hb
      · exact nb z
end
end
end Mi
end
section
set_option Elab.async false
set_option linter.all false
set_option maxRecDepth 100000
set_option maxHeartbeats 1000000
/-! S2: the slots of a def. -/
namespace Mi
open PySem PySem.Spec PyProof.Rows L2

section
variable (K : PySem.W.Frag)
/-- the slots: what each holds, what they own together -/
def RS (L : Addr → Prop) (H : Hp) : L2.St → Rho → List Addr → Prop
  | [], [], O => O = []
  | _ :: σ, none :: ρ, O => RS L H σ ρ O
  | v :: σ, some a :: ρ, O => ∃ w O1 O2, v = some w ∧ O = O1 ++ O2 ∧ Own K L H a.2 a.1 w O1 ∧ RS L H σ ρ O2
  | _, _, _ => False
variable {K}
/-- what must stay for values that own the addresses A -/
structure Stay (L L' : Addr → Prop) (H H' : Hp) (A : List Addr) : Prop where
  ht : ∀ b u, H b = some (.tup u) → H' b = some (.tup u)
  hf : ∀ b o u, H b = some (.frz o u) → H' b = some (.frz o u)
  k : ∀ b o, H b = some o → (b ∈ A ∨ ¬ L b) → H' b = some o
  n : ∀ b, H b ≠ none → ¬ L b → ¬ L' b
theorem Stay.mono {L L' : Addr → Prop} {H H' : Hp} {A B : List Addr} (s : Stay L L' H H' A) (h : ∀ b ∈ B, b ∈ A) : Stay L L' H H' B :=
  ⟨s.ht, s.hf, fun b o e hb => s.k b o e (hb.imp (h b) id), s.n⟩
theorem Stay.refl {L L' : Addr → Prop} {H : Hp} {A : List Addr} (n : ∀ b, H b ≠ none → ¬ L b → ¬ L' b) : Stay L L' H H A := ⟨fun _ _ e => e, fun _ _ _ e => e, fun _ _ e _ => e, n⟩
theorem Own.stay {L L' : Addr → Prop} {H H' : Hp} {d : Nat} {x : PV} {v : V} {O : List Addr} (h : Own K L H d x v O) (s : Stay L L' H H' O) : Own K L' H' d x v O := Own.stab s.ht s.hf x d v O h s.k s.n
theorem Owns.stay {L L' : Addr → Prop} {H H' : Hp} {d : Nat} {x : List PV} {v : List V} {O : List Addr} (h : Owns K L H d x v O) (s : Stay L L' H H' O) : Owns K L' H' d x v O := Owns.stab s.ht s.hf x d v O h s.k s.n
theorem Ownd.stay {L L' : Addr → Prop} {H H' : Hp} {d : Nat} {x : List (Key × PV)} {v : List (Key × V)} {O : List Addr} (h : Ownd K L H d x v O) (s : Stay L L' H H' O) : Ownd K L' H' d x v O := Ownd.stab s.ht s.hf x d v O h s.k s.n
theorem RS.stay {L L' : Addr → Prop} {H H' : Hp} : ∀ {σ : L2.St} {ρ : Rho} {O : List Addr}, RS K L H σ ρ O → Stay L L' H H' O → RS K L' H' σ ρ O
  | [], [], _, h, _ => h
  | _ :: σ, none :: ρ, _, h, s => RS.stay (σ := σ) (ρ := ρ) h s
  | v :: σ, some a :: ρ, _, h, s => by
    obtain ⟨w, O1, O2, rfl, rfl, h1, h2⟩ := h
    exact ⟨w, O1, O2, rfl, rfl, h1.stay (s.mono fun _ => List.mem_append_left _), RS.stay h2 (s.mono fun _ => List.mem_append_right _)⟩
  | [], _ :: _, _, h, _ => h.elim
  | _ :: _, [], _, h, _ => h.elim
theorem RS.len {L : Addr → Prop} {H : Hp} : ∀ {σ : L2.St} {ρ : Rho} {O : List Addr}, RS K L H σ ρ O → σ.length = ρ.length
  | [], [], _, h => rfl
  | _ :: σ, none :: ρ, _, h => congrArg (· + 1) (RS.len (σ := σ) (ρ := ρ) h)
  | v :: σ, some a :: ρ, _, h => by
    obtain ⟨w, O1, O2, rfl, rfl, h1, h2⟩ := h
    exact congrArg (· + 1) (RS.len h2)
  | [], _ :: _, _, h => h.elim
  | _ :: _, [], _, h => h.elim
theorem RS.isLD {L : Addr → Prop} {H : Hp} : ∀ {σ : L2.St} {ρ : Rho} {O : List Addr}, RS K L H σ ρ O → ∀ b ∈ O, IsLD (H b)
  | [], [], _, h, b, hb => by
    have h' : _ = [] := h
    rw [h'] at hb; cases hb
  | _ :: σ, none :: ρ, _, h, b, hb => RS.isLD (σ := σ) (ρ := ρ) h b hb
  | v :: σ, some a :: ρ, _, h, b, hb => by
    obtain ⟨w, O1, O2, rfl, rfl, h1, h2⟩ := h
    exact (List.mem_append.mp hb).elim (Own.isLD _ _ _ _ h1 b) (RS.isLD h2 b)
  | [], _ :: _, _, h, _, _ => h.elim
  | _ :: _, [], _, h, _, _ => h.elim
/-- one slot, apart from the others -/
theorem RS.split {L : Addr → Prop} {H : Hp} : ∀ {σ : L2.St} {ρ : Rho} {O : List Addr} (i : Nat), i < ρ.length → RS K L H σ ρ O →
    ∃ A Oi B, O = A ++ (Oi ++ B) ∧ (∀ a, ρ[i]? = some (some a) → ∃ w, σ[i]? = some (some w) ∧ Own K L H a.2 a.1 w Oi) ∧ (ρ[i]? = some none → Oi = []) ∧
      ∀ (L' : Addr → Prop) (H' : Hp) (v' : Option V) (o' : Option Arg) (Oi' : List Addr), Stay L L' H H' (A ++ B) → (∀ a', o' = some a' → ∃ w', v' = some w' ∧ Own K L' H' a'.2 a'.1 w' Oi') → (o' = none → Oi' = []) →
        RS K L' H' (σ.set i v') (ρ.set i o') (A ++ (Oi' ++ B))
  | [], [], _, i, hi, h => by simp at hi
  | v :: σ, none :: ρ, O, 0, hi, h => by
    refine ⟨[], [], O, rfl, fun a e => by simp at e, fun _ => rfl, fun L' H' v' o' Oi' s h1 h2 => ?_⟩
    have hr : RS K L' H' σ ρ O := RS.stay (σ := σ) (ρ := ρ) h (s.mono fun _ hb => hb)
    cases o' with
    | none => rw [h2 rfl]; exact hr
    | some a' =>
      obtain ⟨w', e, ho⟩ := h1 a' rfl
      exact ⟨w', Oi', O, e, rfl, ho, hr⟩
  | v :: σ, some a :: ρ, O, 0, hi, h => by
    obtain ⟨w, O1, O2, rfl, rfl, h1, h2⟩ := h
    refine ⟨[], O1, O2, rfl, fun a' e => ?_, fun e => by simp at e, fun L' H' v' o' Oi' s h1 h3 => ?_⟩
    · have e' : a = a' := by simpa using e
      subst e'
      exact ⟨w, rfl, h1⟩
    · have hr : RS K L' H' σ ρ O2 := RS.stay h2 (s.mono fun _ hb => hb)
      cases o' with
      | none => rw [h3 rfl]; exact hr
      | some a' =>
        obtain ⟨w', e, ho⟩ := h1 a' rfl
        exact ⟨w', Oi', O2, e, rfl, ho, hr⟩
  | v :: σ, none :: ρ, O, i + 1, hi, h => by
    obtain ⟨A, Oi, B, e, f, fn, g⟩ := RS.split (σ := σ) (ρ := ρ) (O := O) i (by simpa using hi) h
    exact ⟨A, Oi, B, e, fun a q => f a (by simpa using q), fun q => fn (by simpa using q), fun L' H' v' o' Oi' s h1 h2 => g L' H' v' o' Oi' s h1 h2⟩
  | v :: σ, some a :: ρ, O, i + 1, hi, h => by
    obtain ⟨w, O1, O2, rfl, rfl, h1, h2⟩ := h
    obtain ⟨A, Oi, B, e, f, fn, g⟩ := RS.split (σ := σ) (ρ := ρ) (O := O2) i (by simpa using hi) h2
    subst e
    refine ⟨O1 ++ A, Oi, B, by simp, fun a q => f a (by simpa using q), fun q => fn (by simpa using q), fun L' H' v' o' Oi' s p1 p2 => ?_⟩
    rw [List.append_assoc] at s ⊢
    exact ⟨w, O1, A ++ (Oi' ++ B), rfl, rfl, h1.stay (s.mono fun _ => List.mem_append_left _), g L' H' v' o' Oi' (s.mono fun _ => List.mem_append_right _) p1 p2⟩
  | [], _ :: _, _, _, _, h => h.elim
  | _ :: _, [], _, _, _, h => h.elim

/-- the state of a def's body: σ, H lie as ρ says; O is owned by the slots, F by others (values that wait, callers) -/
structure R (K : PySem.W.Frag) (fx : List (Nat × V)) (σ : L2.St) (H : Hp) (ρ : Rho) (O F : List Addr) : Prop where
  fx : ∀ p ∈ fx, σ[p.1]? = some (some p.2)
  nd : (O ++ F).Nodup
  rs : RS K (fun b => b ∈ O ++ F) H σ ρ O
  tr : ∀ b ∈ F, IsLD (H b)
theorem R.ld {fx : List (Nat × V)} {σ : L2.St} {H : Hp} {ρ : Rho} {O F : List Addr} (r : R K fx σ H ρ O F) : ∀ b ∈ O ++ F, IsLD (H b) := fun b hb => (List.mem_append.mp hb).elim (RS.isLD r.rs b) (r.tr b)
theorem slot_at {ρ : Rho} {i : Nat} {a : Arg} (h : slot ρ i = some a) : ρ[i]? = some (some a) := by
  unfold slot at h
  cases e : ρ[i]? with
  | none => rw [e] at h; cases h
  | some o =>
    rw [e] at h
    have h' : o = some a := h
    rw [h']
theorem slot_lt {ρ : Rho} {i : Nat} {a : Arg} (h : slot ρ i = some a) : i < ρ.length := (List.getElem?_eq_some_iff.mp (slot_at h)).1
/-- a slot changed: its own addresses Oi become Oi', the heap H' -/
theorem R.chg {fx : List (Nat × V)} {σ : L2.St} {H : Hp} {ρ : Rho} {O F : List Addr} (r : R K fx σ H ρ O F) {i : Nat} (hi : i < ρ.length) :
    ∃ A Oi B, O = A ++ (Oi ++ B) ∧ (∀ a, ρ[i]? = some (some a) → ∃ w, σ[i]? = some (some w) ∧ Own K (fun b => b ∈ O ++ F) H a.2 a.1 w Oi) ∧ (ρ[i]? = some none → Oi = []) ∧
      ∀ (H' : Hp) (v' : Option V) (o' : Option Arg) (Oi' F' : List Addr),
        (∀ b u, H b = some (.tup u) → H' b = some (.tup u)) → (∀ b o u, H b = some (.frz o u) → H' b = some (.frz o u)) → (∀ b o, H b = some o → b ∉ Oi → H' b = some o) →
        (A ++ (Oi' ++ B) ++ F').Nodup → (∀ b ∈ Oi' ++ F', b ∈ Oi ∨ b ∈ F ∨ H b = none) → (∀ b ∈ F', IsLD (H' b)) →
        (∀ p ∈ fx, p.1 = i → v' = some p.2) → (∀ a', o' = some a' → ∃ w', v' = some w' ∧ Own K (fun b => b ∈ A ++ (Oi' ++ B) ++ F') H' a'.2 a'.1 w' Oi') → (o' = none → Oi' = []) →
        R K fx (σ.set i v') H' (ρ.set i o') (A ++ (Oi' ++ B)) F' := by
  obtain ⟨A, Oi, B, rfl, f, fn, g⟩ := RS.split i hi r.rs
  refine ⟨A, Oi, B, rfl, f, fn, fun H' v' o' Oi' F' ht hf hk hn hnew hF hx h1 h2 => ⟨fun p hp => ?_, hn, g _ H' v' o' Oi' ⟨ht, hf, fun b o e hb => hk b o e fun z => ?_, fun b hb nl z => ?_⟩ h1 h2, hF⟩⟩
  · by_cases e : p.1 = i
    · have hl : i < σ.length := by rw [RS.len r.rs]; exact hi
      rw [e, List.getElem?_set_self hl, hx p hp e]
    · rw [List.getElem?_set_ne (Ne.symm e)]
      exact r.fx p hp
  · have nd := r.nd
    rcases hb with hb | hb
    · rcases List.mem_append.mp hb with hb | hb
      · exact not_mem_of_nodup (List.nodup_append.mp nd).1 hb (List.mem_append_left _ z)
      · exact not_mem_of_nodup (List.nodup_append.mp (List.nodup_append.mp nd).1).2.1 z hb
    · exact hb (by simp [z])
  · have cases3 : b ∈ A ∨ b ∈ B ∨ b ∈ Oi' ++ F' := by
      simp only [List.mem_append] at z ⊢
      rcases z with (z | z | z) | z
      · exact .inl z
      · exact .inr (.inr (.inl z))
      · exact .inr (.inl z)
      · exact .inr (.inr (.inr z))
    rcases cases3 with z | z | z
    · exact nl (by simp [z])
    · exact nl (by simp [z])
    · rcases hnew b z with q | q | q
      · exact nl (by simp [q])
      · exact nl (by simp [q])
      · exact hb q
/-- values that wait are let go -/
theorem R.drop {fx : List (Nat × V)} {σ : L2.St} {H : Hp} {ρ : Rho} {O A F : List Addr} (r : R K fx σ H ρ O (A ++ F)) : R K fx σ H ρ O F := by
  refine ⟨r.fx, ?_, RS.stay r.rs (Stay.refl fun b _ nl z => nl ?_), fun b hb => r.tr b (List.mem_append_right _ hb)⟩
  · have nd := r.nd
    rw [List.nodup_append] at nd ⊢
    exact ⟨nd.1, (List.nodup_append.mp nd.2.1).2.1, fun a ha b hb => nd.2.2 a ha b (List.mem_append_right _ hb)⟩
  · simp only [List.mem_append] at z ⊢
    exact z.imp id .inr
end
end Mi
end
section
set_option Elab.async false
set_option linter.all false
set_option maxRecDepth 100000
set_option maxHeartbeats 1000000
/-! S3: what the functions that lay nothing do, by values. -/
namespace Mi
open PySem PySem.Spec PyProof.Rows L2

section
/-- v may be read as x -/
def Bor (K : PySem.W.Frag) (L : Addr → Prop) (H : Hp) (v : V) (x : PV) : Prop := ∃ d O, Own K L H d x v O
variable {K : PySem.W.Frag} {L : Addr → Prop} {H : Hp}
theorem Bor.non {v : V} (h : Bor K L H v .non) : v = .non := by obtain ⟨d, O, h⟩ := h; cases d <;> exact h.2
theorem Bor.bl {v : V} {b : Bool} (h : Bor K L H v (.bl b)) : v = .bl b := by obtain ⟨d, O, h⟩ := h; cases d <;> exact h.2
theorem Bor.int {v : V} {b : Int} (h : Bor K L H v (.int b)) : v = .int b := by obtain ⟨d, O, h⟩ := h; cases d <;> exact h.2
theorem Bor.str {v : V} {b : Str} (h : Bor K L H v (.str b)) : v = .str b := by obtain ⟨d, O, h⟩ := h; cases d <;> exact h.2
theorem bor_non : Bor K L H .non .non := ⟨0, [], rfl, rfl⟩
theorem bor_bl {b : Bool} : Bor K L H (.bl b) (.bl b) := ⟨0, [], rfl, rfl⟩
theorem bor_int {b : Int} : Bor K L H (.int b) (.int b) := ⟨0, [], rfl, rfl⟩
theorem bor_str {b : Str} : Bor K L H (.str b) (.str b) := ⟨0, [], rfl, rfl⟩
theorem owns_pair {d : Nat} : ∀ {xs : List PV} {vs : List V} {O : List Addr}, Owns K L H d xs vs O → Paired (Bor K L H) vs xs
  | [], _, _, h => by rw [h.1]; exact .nil
  | x :: xs, _, _, h => by
    obtain ⟨v, vr, O1, O2, rfl, rfl, h1, h2⟩ := h
    exact .cons ⟨_, _, h1⟩ (owns_pair h2)
theorem Bor.lst {v : V} {xs : List PV} (h : Bor K L H v (.lst xs)) : ∃ a vs, v = .ref a ∧ H a = some (.lst vs) ∧ Paired (Bor K L H) vs xs := by
  obtain ⟨d, O, h⟩ := h
  cases d with
  | zero => obtain ⟨_, a, vs, e, _, r, o⟩ := h; exact ⟨a, vs, e, r, owns_pair o⟩
  | succ d => obtain ⟨a, vs, O', e, _, r, o⟩ := h; exact ⟨a, vs, e, r, owns_pair o⟩
theorem Bor.tup {v : V} {xs : List PV} (h : Bor K L H v (.tup xs)) : ∃ a vs, v = .ref a ∧ SqX H a vs ∧ Paired (Bor K L H) vs xs ∧ Owns K L H 0 xs vs [] := by
  obtain ⟨d, O, h⟩ := h
  have h' : O = [] ∧ ∃ a vs, v = .ref a ∧ SqX H a vs ∧ Owns K L H 0 xs vs [] := by cases d <;> exact h
  obtain ⟨_, a, vs, e, r, o⟩ := h'
  exact ⟨a, vs, e, r, owns_pair o, o⟩
theorem Bor.tupT {v : V} {xs : List PV} (h : Bor K L H v (.tup xs)) : ∃ a vs, v = .ref a ∧ SqT K H a vs ∧ Paired (Bor K L H) vs xs ∧ Owns K L H 0 xs vs [] := let ⟨a, vs, e, r, p⟩ := h.tup; ⟨a, vs, e, r.toT, p⟩
theorem bor_tup {a : Addr} {vs : List V} {xs : List PV} (h : SqX H a vs) (o : Owns K L H 0 xs vs []) : Bor K L H (.ref a) (.tup xs) := ⟨0, [], rfl, a, vs, rfl, h, o⟩
/-- the entries of a dict -/
abbrev KVP (K : PySem.W.Frag) (L : Addr → Prop) (H : Hp) : List (Key × V) → List (Key × PV) → Prop := Paired fun p q => p.1 = q.1 ∧ Bor K L H p.2 q.2
theorem ownd_pair {d : Nat} : ∀ {xs : List (Key × PV)} {vs : List (Key × V)} {O : List Addr}, Ownd K L H d xs vs O → KVP K L H vs xs
  | [], _, _, h => by rw [h.1]; exact .nil
  | (k, x) :: xs, _, _, h => by
    obtain ⟨v, vr, O1, O2, rfl, rfl, h1, h2⟩ := h
    exact .cons ⟨rfl, _, _, h1⟩ (ownd_pair h2)
theorem Bor.dct {v : V} {xs : List (Key × PV)} (h : Bor K L H v (.dct xs)) : ∃ a vs, v = .ref a ∧ Rd H a (.dK vs) ∧ KVP K L H vs xs := by
  obtain ⟨d, O, h⟩ := h
  cases d with
  | zero => obtain ⟨_, a, vs, e, _, r, o⟩ := h; exact ⟨a, vs, e, r, ownd_pair o⟩
  | succ d => obtain ⟨a, vs, O', e, _, r, o⟩ := h; exact ⟨a, vs, e, .inl r, ownd_pair o⟩
theorem Bor.exc {v : V} {c : Nat} {fs : List (Str × PV)} (h : Bor K L H v (.exc c fs)) : False := by obtain ⟨d, O, h⟩ := h; cases d <;> exact h
theorem Bor.scr {v : V} {ns : List Int} (h : Bor K L H v (.scr ns)) : ∃ a, v = .ref a ∧ ScrAt K H a ns := by
  obtain ⟨d, O, h⟩ := h
  cases d <;> exact h.2
theorem pair_len {α β : Type} {F : α → β → Prop} {l : List α} {m : List β} (p : Paired F l m) : l.length = m.length := Paired.length p
theorem pair_at {α β : Type} {F : α → β → Prop} : ∀ {l : List α} {m : List β} {i : Nat} {y : β}, Paired F l m → m[i]? = some y → ∃ x, l[i]? = some x ∧ F x y
  | _, _, _, _, .nil, e => by simp at e
  | _, _, 0, _, .cons r _, e => by simp at e; subst e; exact ⟨_, rfl, r⟩
  | _, _, i + 1, y, .cons _ t, e => by
    obtain ⟨x, h1, h2⟩ := pair_at (i := i) (y := y) t (by simpa using e)
    exact ⟨x, by simpa using h1, h2⟩
theorem ixN_eq (n : Nat) (i : Int) : Mi.ixN n i = L2.ixN n i := rfl
theorem pair_atI {α β : Type} {F : α → β → Prop} {l : List α} {m : List β} {i : Int} {y : β} (p : Paired F l m) (e : Mi.atI m i = some y) : ∃ x, L2.atI l i = some x ∧ F x y := by
  unfold Mi.atI at e
  unfold L2.atI
  rw [pair_len p, ← ixN_eq]
  cases q : Mi.ixN m.length i with
  | none => rw [q] at e; cases e
  | some j =>
    rw [q] at e
    exact pair_at (i := j) p e
/-! values as data -/
mutual
theorem dp_of : ∀ (x : PV) (v : V) (d : PyData), Bor K L H v x → toD x = some d → Dp K H v d
  | .non, v, d, h, e => by unfold toD at e; cases e; rw [h.non]; exact .non
  | .bl b, v, d, h, e => by unfold toD at e; cases e; rw [h.bl]; exact .bl b
  | .int b, v, d, h, e => by unfold toD at e; cases e; rw [h.int]; exact .int b
  | .str b, v, d, h, e => by unfold toD at e; cases e; rw [h.str]; exact .str b
  | .tup xs, v, d, h, e => by
    unfold toD at e
    obtain ⟨ds, e1, e2⟩ := Option.map_eq_some_iff.mp e
    subst e2
    obtain ⟨a, vs, rfl, hs, p, _⟩ := h.tup
    exact .tup hs.toT (dps_of xs vs ds p e1)
  | .lst xs, v, d, h, e => by
    unfold toD at e
    obtain ⟨ds, e1, e2⟩ := Option.map_eq_some_iff.mp e
    subst e2
    obtain ⟨a, vs, rfl, hs, p⟩ := h.lst
    exact .lst (SqL.of hs) (dps_of xs vs ds p e1)
  | .dct _, v, d, h, e => by unfold toD at e; cases e
  | .exc _ _, v, d, h, e => h.exc.elim
  | .scr _, v, d, h, e => by unfold toD at e; cases e
theorem dps_of : ∀ (xs : List PV) (vs : List V) (ds : List PyData), Paired (Bor K L H) vs xs → toDs xs = some ds → DpAll K H vs ds
  | [], vs, ds, p, e => by unfold toDs at e; cases e; cases p; exact .nil
  | x :: xs, vs, ds, p, e => by
    cases p with
    | cons r t =>
      unfold toDs at e
      split at e
      · rename_i d1 ds1 h1 h2
        cases e
        exact .cons (dp_of x _ _ r h1) (dps_of xs _ _ t h2)
      · cases e
end
mutual
theorem noDict_of : ∀ (x : PV) (d : PyData), toD x = some d → d.hasDict = false
  | .non, d, e => by unfold toD at e; cases e; rfl
  | .bl b, d, e => by unfold toD at e; cases e; rfl
  | .int b, d, e => by unfold toD at e; cases e; rfl
  | .str b, d, e => by unfold toD at e; cases e; rfl
  | .tup xs, d, e => by
    unfold toD at e
    obtain ⟨ds, e1, e2⟩ := Option.map_eq_some_iff.mp e
    subst e2
    simp only [PyData.hasDict]
    exact noDicts_of xs ds e1
  | .lst xs, d, e => by
    unfold toD at e
    obtain ⟨ds, e1, e2⟩ := Option.map_eq_some_iff.mp e
    subst e2
    simp only [PyData.hasDict]
    exact noDicts_of xs ds e1
  | .dct _, d, e => by unfold toD at e; cases e
  | .exc _ _, d, e => by unfold toD at e; cases e
  | .scr _, d, e => by unfold toD at e; cases e
theorem noDicts_of : ∀ (xs : List PV) (ds : List PyData), toDs xs = some ds → PyData.hasDictAll ds = false
  | [], ds, e => by unfold toDs at e; cases e; rfl
  | x :: xs, ds, e => by
    unfold toDs at e
    split at e
    · rename_i d1 ds1 h1 h2
      cases e
      simp only [PyData.hasDictAll, noDict_of x d1 h1, noDicts_of xs ds1 h2, Bool.or_self]
    · cases e
end
end

/-! ### the rules' form -/
def rF2 (K : PySem.W.Frag) (f : Fn) : R2 := fun x y H Q => ∃ L X Y Z, Bor K L H x X ∧ Bor K L H y Y ∧ fn f [X, Y] = some Z ∧ ∀ z, Bor K L H z Z → Q z H
def rF1 (K : PySem.W.Frag) (f : Fn) : V → Hp → VK → Prop := fun x H Q => ∃ L X Z, Bor K L H x X ∧ fn f [X] = some Z ∧ ∀ z, Bor K L H z Z → Q z H
def rFs (K : PySem.W.Frag) (f : Fn) : List V → Hp → VK → Prop := fun xs H Q => ∃ L Xs Z, Paired (Bor K L H) xs Xs ∧ fn f Xs = some Z ∧ ∀ z, Bor K L H z Z → Q z H

section
variable {X : Cx}
theorem OpR.imp {f : Value → Value → Sem Value} {r r' : R2} (h : OpR X f r) (g : ∀ x y H Q, r' x y H Q → r x y H Q) : OpR X f r' :=
  fun pins s σ H x y v u Q I rx ry hr => h pins s σ H x y v u Q I rx ry (g _ _ _ _ hr)
theorem CallR.imp {f : Value} {r r' : List V → Hp → VK → Prop} (h : CallR X f r) (g : ∀ xs H Q, r' xs H Q → r xs H Q) : CallR X f r' :=
  fun pins s σ H xs us Q I rx hr => h pins s σ H xs us Q I rx (g _ _ _ hr)
theorem UnR.imp {f : Value → Sem Value} {r r' : V → Hp → VK → Prop} (h : UnR X f r) (g : ∀ xs H Q, r' xs H Q → r xs H Q) : UnR X f r' :=
  fun pins s σ H xs us Q I rx hr => h pins s σ H xs us Q I rx (g _ _ _ hr)
theorem IxR.imp {r r' : R2} (h : IxR X r) (g : ∀ x y H Q, r' x y H Q → r x y H Q) : IxR X r' :=
  fun value slice pins s σ H x y v u Q I rx ry hr hs => h value slice pins s σ H x y v u Q I rx ry (g _ _ _ _ hr) hs
theorem MtR.imp {id : String} {r r' : V → List V → Hp → VK → Prop} (h : MtR X id r) (g : ∀ x xs H Q, r' x xs H Q → r x xs H Q) : MtR X id r' :=
  fun pins s σ H x xs v us Q I rx rxs hr => h pins s σ H x xs v us Q I rx rxs (g _ _ _ _ hr)

/-! ints -/
theorem gI_some {g : Int → Int → Option PV} {X Y Z : PV} (h : gI g X Y = some Z) : ∃ i j, X = .int i ∧ Y = .int j ∧ g i j = some Z := by
  cases X <;> first | (cases Y <;> first | exact ⟨_, _, rfl, rfl, h⟩ | (cases h; done)) | (cases h; done)
theorem ok_add : OpR X (binaryOp .Add) (rF2 X.K .add) := OpR.imp op_add fun x y H Q ⟨L, A, B, Z, hx, hy, e, q⟩ => by
  obtain ⟨i, j, rfl, rfl, e'⟩ := gI_some e
  cases e'
  exact ⟨i, j, hx.int, hy.int, q _ bor_int⟩
theorem ok_sub : OpR X (binaryOp .Sub) (rF2 X.K .sub) := OpR.imp op_sub fun x y H Q ⟨L, A, B, Z, hx, hy, e, q⟩ => by
  obtain ⟨i, j, rfl, rfl, e'⟩ := gI_some e
  cases e'
  exact ⟨i, j, hx.int, hy.int, q _ bor_int⟩
theorem small_of {i : Int} (h : small i = true) : -(2 ^ 64) < i ∧ i < 2 ^ 64 := by
  unfold small at h
  rw [Bool.and_eq_true, decide_eq_true_eq, decide_eq_true_eq] at h
  exact h
theorem ok_mul : OpR X (binaryOp .Mult) (rF2 X.K .mul) := OpR.imp op_mul fun x y H Q ⟨L, A, B, Z, hx, hy, e, q⟩ => by
  obtain ⟨i, j, rfl, rfl, e'⟩ := gI_some e
  split at e'
  · rename_i h
    cases e'
    rw [Bool.or_eq_true] at h
    exact ⟨i, j, hx.int, hy.int, h.imp small_of small_of, q _ bor_int⟩
  · cases e'
theorem ok_fdiv : OpR X (binaryOp .FloorDiv) (rF2 X.K .fdiv) := OpR.imp op_fdivN fun x y H Q ⟨L, A, B, Z, hx, hy, e, q⟩ => by
  obtain ⟨i, j, rfl, rfl, e'⟩ := gI_some e
  split at e'
  · rename_i h
    cases e'
    exact ⟨i, j, hx.int, hy.int, h, q _ bor_int⟩
  · cases e'
theorem ok_mod : OpR X (binaryOp .Mod) (rF2 X.K .mod) := OpR.imp op_modN fun x y H Q ⟨L, A, B, Z, hx, hy, e, q⟩ => by
  obtain ⟨i, j, rfl, rfl, e'⟩ := gI_some e
  split at e'
  · rename_i h
    cases e'
    exact ⟨i, j, hx.int, hy.int, h, q _ bor_int⟩
  · cases e'
theorem ok_pow : OpR X (binaryOp .Pow) (rF2 X.K .pow) := OpR.imp op_pow fun x y H Q ⟨L, A, B, Z, hx, hy, e, q⟩ => by
  obtain ⟨i, j, rfl, rfl, e'⟩ := gI_some e
  split at e'
  · rename_i h
    cases e'
    exact ⟨i, j, hx.int, hy.int, ⟨h.1, by omega, h.2.2⟩, q _ bor_int⟩
  · cases e'
theorem ok_neg : UnR X (unaryOp .USub) (rF1 X.K .neg) := UnR.imp un_neg fun x H Q ⟨L, A, Z, hx, e, q⟩ => by
  have e' : gNeg A = some Z := e
  cases A <;> first | (cases e'; done) | skip
  cases e'
  exact ⟨_, hx.int, q _ bor_int⟩
theorem ok_lt : OpR X (compareOp .Lt) (rF2 X.K .lt) := OpR.imp op_lt fun x y H Q ⟨L, A, B, Z, hx, hy, e, q⟩ => by
  obtain ⟨i, j, rfl, rfl, e'⟩ := gI_some e
  cases e'
  exact ⟨i, j, hx.int, hy.int, q _ bor_bl⟩
theorem ok_le : OpR X (compareOp .LtE) (rF2 X.K .le) := OpR.imp op_le fun x y H Q ⟨L, A, B, Z, hx, hy, e, q⟩ => by
  obtain ⟨i, j, rfl, rfl, e'⟩ := gI_some e
  cases e'
  exact ⟨i, j, hx.int, hy.int, q _ bor_bl⟩
theorem ok_gt : OpR X (compareOp .Gt) (rF2 X.K .gt) := OpR.imp op_gt fun x y H Q ⟨L, A, B, Z, hx, hy, e, q⟩ => by
  obtain ⟨i, j, rfl, rfl, e'⟩ := gI_some e
  cases e'
  exact ⟨i, j, hx.int, hy.int, q _ bor_bl⟩
theorem ok_ge : OpR X (compareOp .GtE) (rF2 X.K .ge) := OpR.imp op_ge fun x y H Q ⟨L, A, B, Z, hx, hy, e, q⟩ => by
  obtain ⟨i, j, rfl, rfl, e'⟩ := gI_some e
  cases e'
  exact ⟨i, j, hx.int, hy.int, q _ bor_bl⟩
/-! equality of data -/
theorem okD_shaped {d : PyData} (h : okD d = true) : SeqAt.shaped d = true := by
  unfold okD at h
  unfold SeqAt.shaped
  rw [Bool.and_eq_true, decide_eq_true_eq] at h ⊢
  exact ⟨h.1, by omega⟩
theorem peq_okD {A B : PV} {b : Bool} (e : peq A B = some b) : ∃ d d', toD A = some d ∧ toD B = some d' ∧ okD d = true ∧ okD d' = true ∧ b = PyData.eqv d d' := by
  unfold peq at e
  split at e
  · rename_i d d' h1 h2
    split at e
    · rename_i h
      rw [Bool.and_eq_true] at h
      exact ⟨d, d', h1, h2, h.1, h.2, (Option.some.inj e).symm⟩
    · cases e
  · cases e
theorem peq_some {A B : PV} {b : Bool} (e : peq A B = some b) : ∃ d d', toD A = some d ∧ toD B = some d' ∧ SeqAt.shaped d = true ∧ SeqAt.shaped d' = true ∧ b = PyData.eqv d d' := by
  unfold peq at e
  split at e
  · rename_i d d' h1 h2
    split at e
    · rename_i h
      rw [Bool.and_eq_true] at h
      exact ⟨d, d', h1, h2, okD_shaped h.1, okD_shaped h.2, (Option.some.inj e).symm⟩
    · cases e
  · cases e
theorem peq_dp {H : Hp} {L : Addr → Prop} {K : PySem.W.Frag} {A B : PV} {x y : V} {b : Bool} (hx : Bor K L H x A) (hy : Bor K L H y B) (e : peq A B = some b) : ∃ d d', Dp K H x d ∧ Dp K H y d' ∧ SeqAt.shaped d = true ∧ SeqAt.shaped d' = true ∧ b = PyData.eqv d d' := by
  obtain ⟨d, d', h1, h2, s1, s2, e⟩ := peq_some e
  exact ⟨d, d', dp_of A x d hx h1, dp_of B y d' hy h2, s1, s2, e⟩
theorem ok_eq (hu : X.A.units + 64 < cLine) : OpR X (compareOp .Eq) (rF2 X.K .eq) := OpR.imp (op_eqD hu) fun x y H Q ⟨L, A, B, Z, hx, hy, e, q⟩ => by
  have e' : (peq A B).map PV.bl = some Z := e
  obtain ⟨b, e1, e2⟩ := Option.map_eq_some_iff.mp e'
  subst e2
  obtain ⟨d, d', h1, h2, h3, h4, rfl⟩ := peq_dp hx hy e1
  exact ⟨d, d', h1, h2, h3, h4, q _ bor_bl⟩
theorem ok_ne (hu : X.A.units + 64 < cLine) : OpR X (compareOp .NotEq) (rF2 X.K .ne) := OpR.imp (op_neD hu) fun x y H Q ⟨L, A, B, Z, hx, hy, e, q⟩ => by
  have e' : (peq A B).map (fun b => PV.bl (!b)) = some Z := e
  obtain ⟨b, e1, e2⟩ := Option.map_eq_some_iff.mp e'
  subst e2
  obtain ⟨d, d', h1, h2, h3, h4, rfl⟩ := peq_dp hx hy e1
  exact ⟨d, d', h1, h2, h3, h4, q _ bor_bl⟩
theorem notnon {K : PySem.W.Frag} {L : Addr → Prop} {H : Hp} {x : V} {A : PV} (h : Bor K L H x A) : (x = .non) ↔ (A = .non) := by
  cases A with
  | non => simp [h.non]
  | bl b => rw [h.bl]; simp
  | int b => rw [h.int]; simp
  | str b => rw [h.str]; simp
  | tup xs => obtain ⟨a, vs, rfl, _⟩ := h.tup; simp
  | lst xs => obtain ⟨a, vs, rfl, _⟩ := h.lst; simp
  | dct xs => obtain ⟨a, vs, rfl, _⟩ := h.dct; simp
  | exc c fs => exact h.exc.elim
  | scr ns => obtain ⟨a, rfl, _⟩ := h.scr; simp
theorem ok_is : OpR X (compareOp .Is) (rF2 X.K .is) := OpR.imp op_isN fun x y H Q ⟨L, A, B, Z, hx, hy, e, q⟩ => by
  cases B <;> first | (cases e; done) | skip
  cases e
  refine ⟨hy.non, ?_⟩
  have := notnon hx
  cases A with
  | non => rw [hx.non]; exact q _ bor_bl
  | _ => rw [decide_eq_false (fun z => by simpa using this.mp z)]; exact q _ bor_bl
theorem ok_isnot : OpR X (compareOp .IsNot) (rF2 X.K .isnot) := OpR.imp op_notN fun x y H Q ⟨L, A, B, Z, hx, hy, e, q⟩ => by
  cases B <;> first | (cases e; done) | skip
  cases e
  refine ⟨hy.non, ?_⟩
  have := notnon hx
  cases A with
  | non => rw [hx.non]; exact q _ bor_bl
  | _ => rw [decide_eq_false (fun z => by simpa using this.mp z)]; exact q _ bor_bl
end
section
variable {K : PySem.W.Frag} {L : Addr → Prop} {H : Hp}
/-! in, not in -/
theorem memB_some {x : PV} : ∀ {ys : List PV} {b : Bool}, memB x ys = some b → ∃ d ds, toD x = some d ∧ SeqAt.shaped d = true ∧ toDs ys = some ds ∧ PyData.canLayAll0 ds = true ∧ b = ds.any fun z => PyData.eqv z d
  | [], b, e => by
    unfold memB at e
    obtain ⟨c, e1, e2⟩ := Option.map_eq_some_iff.mp e
    obtain ⟨d, d', h1, h2, s1, s2, _⟩ := peq_some e1
    exact ⟨d, [], h1, s1, by unfold toDs; rfl, by unfold PyData.canLayAll0; rfl, e2.symm⟩
  | y :: ys, b, e => by
    unfold memB at e
    split at e
    · rename_i a c h1 h2
      obtain ⟨d1, d, g1, g2, s1, s2, rfl⟩ := peq_some h1
      obtain ⟨d', ds, k1, k2, k3, k4, rfl⟩ := memB_some h2
      rw [g2] at k1
      cases k1
      refine ⟨d, d1 :: ds, g2, s2, ?_, ?_, (Option.some.inj e).symm⟩
      · unfold toDs
        rw [g1, k3]
      · rw [PyData.canLayAll0, SeqAt.canLay_of_shaped s1, k4]; rfl
    · cases e
theorem valV_eq : ∀ (kvs : List (Key × V)) (xs : List (Key × PV)) (k : Key), KVP K L H kvs xs → (∀ z, dget k xs = some z → ∃ v, valV kvs k = some v ∧ Bor K L H v z) ∧ (valV kvs k).isSome = (dget k xs).isSome
  | _, _, k, .nil => ⟨fun z e => by simp [dget] at e, rfl⟩
  | _, _, k, .cons (a := p) (b := q) r t => by
    obtain ⟨k1, v1⟩ := p
    obtain ⟨k2, x2⟩ := q
    obtain ⟨e, hb⟩ := r
    simp only at e hb
    subst e
    obtain ⟨ih1, ih2⟩ := valV_eq _ _ k t
    by_cases hk : k1 = k
    · subst hk
      rw [valV_pos rfl]
      unfold dget
      rw [if_pos rfl]
      exact ⟨fun z e => ⟨v1, rfl, by cases e; exact hb⟩, rfl⟩
    · rw [valV_neg hk]
      unfold dget
      rw [if_neg hk]
      exact ⟨ih1, ih2⟩
theorem keyOf_kV {x : PV} {v : V} {k : Key} (h : Bor K L H v x) (e : keyOf x = some k) : v = kV k := by
  cases x <;> first | (simp [keyOf] at e; done) | skip
  · cases e; exact h.int
  · cases e; exact h.str
end
section
variable {X : Cx}
theorem in_dict (neg : Bool) (hu : X.A.units + 1 < cLine) : OpR X (compareOp (if neg then .NotIn else .In)) (fun x y H Q => ∃ L A kvs k, Bor X.K L H x A ∧ Bor X.K L H y (.dct kvs) ∧ keyOf A = some k ∧ Q (.bl (if neg then !(dget k kvs).isSome else (dget k kvs).isSome)) H) := by
  intro pins s σ H x y v u Q I rx ry h
  obtain ⟨L, A, kvs, k, hx, hy, e, q⟩ := h
  obtain ⟨a, ms, rfl, hr, p⟩ := hy.dct
  have ev := keyOf_kV hx e
  subst ev
  have g : DGet H a (kV k) (valV ms k) := .inl ⟨ms, k, hr, rfl, rfl⟩
  have ei := (valV_eq ms kvs k p).2
  have ru : u = Value.ref a := ry
  subst ru
  cases neg with
  | true => exact d_notIn hu I g rx fun s' I' => ⟨.bl _, H, I', rfl, by rw [ei]; exact q⟩
  | false => exact d_in hu I g rx fun s' I' => ⟨.bl _, H, I', rfl, by rw [ei]; exact q⟩
theorem in_seq (neg : Bool) (hu : X.A.units + 65 < cLine) : OpR X (compareOp (if neg then .NotIn else .In)) (fun x y H Q => ∃ L A ys b, Bor X.K L H x A ∧ (Bor X.K L H y (.lst ys) ∨ Bor X.K L H y (.tup ys)) ∧ memB A ys = some b ∧ Q (.bl (if neg then !b else b)) H) := by
  intro pins s σ H x y v u Q I rx ry h
  obtain ⟨L, A, ys, b, hx, hy, e, q⟩ := h
  obtain ⟨d, ds, h1, h2, h3, h4, rfl⟩ := memB_some e
  obtain ⟨bs, r2⟩ := Dp.reads I d x v (dp_of A x d hx h1) rx
  have room : X.A.units + 1 + min (PyData.depthAll ds) d.depth < cLine := room_in_shaped h2 hu
  rcases hy with hy | hy
  · have dy : Dp X.K H y (.list ds) := dp_of (.lst ys) y (.list ds) hy (by unfold toD; rw [h3]; rfl)
    obtain ⟨as, r1⟩ := Dp.reads I _ y u dy ry
    cases neg with
    | true => exact SeqAt.notIn_list_reads r1 r2 h4 (SeqAt.canLay_of_shaped h2) room ⟨.bl _, H, I, rfl, q⟩
    | false => exact SeqAt.in_list_reads r1 r2 h4 (SeqAt.canLay_of_shaped h2) room ⟨.bl _, H, I, rfl, q⟩
  · have dy : Dp X.K H y (.tuple ds) := dp_of (.tup ys) y (.tuple ds) hy (by unfold toD; rw [h3]; rfl)
    obtain ⟨as, r1⟩ := Dp.reads I _ y u dy ry
    cases neg with
    | true => exact SeqAt.notIn_tuple_reads r1 r2 h4 (SeqAt.canLay_of_shaped h2) room ⟨.bl _, H, I, rfl, q⟩
    | false => exact SeqAt.in_tuple_reads r1 r2 h4 (SeqAt.canLay_of_shaped h2) room ⟨.bl _, H, I, rfl, q⟩
theorem inB_some {A B : PV} {b : Bool} (e : inB A B = some b) : (∃ ys, (B = .lst ys ∨ B = .tup ys) ∧ memB A ys = some b) ∨ ∃ kvs k, B = .dct kvs ∧ keyOf A = some k ∧ b = (dget k kvs).isSome := by
  cases B <;> first | (simp [inB] at e; done) | skip
  · exact .inl ⟨_, .inr rfl, e⟩
  · exact .inl ⟨_, .inl rfl, e⟩
  · have e' : (keyOf A).map (fun k => (dget k _).isSome) = some b := e
    obtain ⟨k, e1, e2⟩ := Option.map_eq_some_iff.mp e'
    exact .inr ⟨_, k, rfl, e1, e2.symm⟩
theorem ok_in (hu : X.A.units + 65 < cLine) : OpR X (compareOp .In) (rF2 X.K .in_) := OpR.imp (OpR.or (in_seq (X := X) false hu) (in_dict (X := X) false (by omega))) fun x y H Q ⟨L, A, B, Z, hx, hy, e, q⟩ => by
  have e' : (inB A B).map PV.bl = some Z := e
  obtain ⟨b, e1, e2⟩ := Option.map_eq_some_iff.mp e'
  subst e2
  rcases inB_some e1 with ⟨ys, rfl | rfl, hm⟩ | ⟨kvs, k, rfl, hk, rfl⟩
  · exact .inl ⟨L, A, ys, b, hx, .inl hy, hm, q _ bor_bl⟩
  · exact .inl ⟨L, A, ys, b, hx, .inr hy, hm, q _ bor_bl⟩
  · exact .inr ⟨L, A, kvs, k, hx, hy, hk, q _ bor_bl⟩
theorem ok_notin (hu : X.A.units + 65 < cLine) : OpR X (compareOp .NotIn) (rF2 X.K .notin) := OpR.imp (OpR.or (in_seq (X := X) true hu) (in_dict (X := X) true (by omega))) fun x y H Q ⟨L, A, B, Z, hx, hy, e, q⟩ => by
  have e' : (inB A B).map (fun b => PV.bl (!b)) = some Z := e
  obtain ⟨b, e1, e2⟩ := Option.map_eq_some_iff.mp e'
  subst e2
  rcases inB_some e1 with ⟨ys, rfl | rfl, hm⟩ | ⟨kvs, k, rfl, hk, rfl⟩
  · exact .inl ⟨L, A, ys, b, hx, .inl hy, hm, q _ bor_bl⟩
  · exact .inl ⟨L, A, ys, b, hx, .inr hy, hm, q _ bor_bl⟩
  · exact .inr ⟨L, A, kvs, k, hx, hy, hk, q _ bor_bl⟩
end
end Mi
end
section
set_option Elab.async false
set_option linter.all false
set_option maxRecDepth 100000
set_option maxHeartbeats 1000000
/-! S4: more functions by values: subscripts, calls of built-ins. -/
namespace Mi
open PySem PySem.Spec PyProof.Rows L2
section
variable {X : Cx}
/-- d[k] -/
theorem ix_dict (hu : X.A.units + 1 < cLine) : IxR X (fun x y H Q => ∃ L kvs A k z, Bor X.K L H x (.dct kvs) ∧ Bor X.K L H y A ∧ keyOf A = some k ∧ dget k kvs = some z ∧ ∀ v, Bor X.K L H v z → Q v H) := by
  intro value slice pins s σ H x y v u Q I rx ry h hs
  obtain ⟨L, kvs, A, k, z, hx, hy, ek, eg, q⟩ := h
  obtain ⟨a, ms, rfl, hr, p⟩ := hx.dct
  have ev := keyOf_kV hy ek
  subst ev
  obtain ⟨w, hw, bw⟩ := (valV_eq ms kvs k p).1 z eg
  have g : DGet H a (kV k) (some w) := .inl ⟨ms, k, hr, rfl, hw.symm⟩
  obtain rfl : v = Value.ref a := rx
  obtain ⟨_, _, vs, kv, o, es, ep, ho, hc, _⟩ := dk_rd I.hok hr
  have ht : s.TypeIs (.ref a) "dict" := ⟨o, ho, hc.1⟩
  exact tail_any ht slot_dict_getitem.lookup (d_getItem hu I g ry fun w' s' I' r' => ⟨w, H, I', r', q _ bw⟩) hs
theorem ok_get (hu : X.A.units + 1 < cLine) : IxR X (rF2 X.K .get) := IxR.imp (IxR.or ix_list (IxR.or ix_tup (ix_dict hu))) fun x y H Q ⟨L, A, B, Z, hx, hy, e, q⟩ => by
  have e' : get1 A B = some Z := e
  unfold get1 at e'
  split at e'
  · rename_i xs i
    obtain ⟨a, vs, rfl, hr, p⟩ := hx.lst
    obtain ⟨w, h1, h2⟩ := pair_atI p e'
    exact .inl ⟨a, vs, i, w, rfl, hy.int, SqL.of hr, h1, q _ h2⟩
  · rename_i xs i
    obtain ⟨a, vs, rfl, hr, p, _⟩ := hx.tupT
    obtain ⟨w, h1, h2⟩ := pair_atI p e'
    exact .inr (.inl ⟨a, vs, i, w, rfl, hy.int, hr, h1, q _ h2⟩)
  · rename_i kvs
    obtain ⟨k', e1, e2⟩ := Option.bind_eq_some_iff.mp e'
    exact .inr (.inr ⟨L, kvs, B, k', Z, hx, hy, e1, e2, q⟩)
  · cases e'
/-! len -/
theorem call_len_d : CallR X (.builtin "len") (fun xs H Q => ∃ a kvs, xs = [.ref a] ∧ Rd H a (.dK kvs) ∧ Q (.int kvs.length) H) := by
  intro pins s σ H xs us Q I r h
  obtain ⟨a, kvs, rfl, hr, q⟩ := h
  obtain ⟨u, rfl, hu⟩ := vals1 r
  obtain rfl : u = Value.ref a := hu
  exact d_len I hr fun t s' I' => ⟨.int _, H, I', ⟨t, rfl⟩, q⟩
theorem one_of {K : PySem.W.Frag} {L : Addr → Prop} {H : Hp} {xs : List V} {Y : PV} (p : Paired (Bor K L H) xs [Y]) : ∃ v, xs = [v] ∧ Bor K L H v Y := by
  cases p with
  | cons r t => cases t; exact ⟨_, rfl, r⟩
theorem two_of {K : PySem.W.Frag} {L : Addr → Prop} {H : Hp} {xs : List V} {Y Z : PV} (p : Paired (Bor K L H) xs [Y, Z]) : ∃ v w, xs = [v, w] ∧ Bor K L H v Y ∧ Bor K L H w Z := by
  cases p with
  | cons r t => obtain ⟨w, rfl, h⟩ := one_of t; exact ⟨_, w, rfl, r, h⟩
theorem fn_one {f : Fn} {Xs : List PV} {Z : PV} (h2 : ∀ x y, fn2 f x y = none) (e : fn f Xs = some Z) : ∃ A, Xs = [A] ∧ fn1 f A = some Z := by
  match Xs, e with
  | [A], e => exact ⟨A, rfl, e⟩
  | [A, B], e =>
    have e' : fn2 f A B = some Z := e
    rw [h2] at e'; cases e'
theorem fn_two {f : Fn} {Xs : List PV} {Z : PV} (h2 : ∀ x, fn1 f x = none) (e : fn f Xs = some Z) : ∃ A B, Xs = [A, B] ∧ fn2 f A B = some Z := by
  match Xs, e with
  | [A], e =>
    have e' : fn1 f A = some Z := e
    rw [h2] at e'; cases e'
  | [A, B], e => exact ⟨A, B, rfl, e⟩
theorem ok_len : CallR X (.builtin "len") (rFs X.K .len) := CallR.imp (CallR.or call_len_seq call_len_d) fun xs H Q ⟨L, Xs, Z, p, e, q⟩ => by
  obtain ⟨A, rfl, e⟩ := fn_one (f := .len) (fun _ _ => rfl) e
  obtain ⟨v, rfl, h⟩ := one_of p
  have e' : gLen A = some Z := e
  cases A <;> first | (cases e'; done) | skip
  · obtain ⟨a, vs, rfl, hr, p', _⟩ := h.tupT
    cases e'
    exact .inl ⟨a, vs, rfl, .inr hr, by rw [pair_len p']; exact q _ bor_int⟩
  · obtain ⟨a, vs, rfl, hr, p'⟩ := h.lst
    cases e'
    exact .inl ⟨a, vs, rfl, .inl (SqL.of hr), by rw [pair_len p']; exact q _ bor_int⟩
  · obtain ⟨a, vs, rfl, hr, p'⟩ := h.dct
    cases e'
    exact .inr ⟨a, vs, rfl, hr, by rw [pair_len p']; exact q _ bor_int⟩
/-! sum -/
theorem ints_some {K : PySem.W.Frag} {L : Addr → Prop} {H : Hp} : ∀ {xs : List PV} {vs : List V} {ns : List Int}, Paired (Bor K L H) vs xs → intsOf xs = some ns → vs = ns.map V.int ∧ xs = ns.map PV.int
  | [], _, ns, p, e => by
    cases p
    have e' : some [] = some ns := e
    cases e'
    exact ⟨rfl, rfl⟩
  | x :: xs, _, ns, p, e => by
    cases p with
    | cons r t =>
      cases x <;> first | (cases e; done) | skip
      rename_i i
      have e' : (intsOf xs).map (i :: ·) = some ns := e
      obtain ⟨ms, h1, h2⟩ := Option.map_eq_some_iff.mp e'
      obtain ⟨g1, g2⟩ := ints_some t h1
      subst h2
      exact ⟨by rw [r.int, g1]; rfl, by rw [g2]; rfl⟩
theorem elems_some {K : PySem.W.Frag} {L : Addr → Prop} {H : Hp} {A : PV} {v : V} {xs : List PV} (h : Bor K L H v A) (e : elems A = some xs) : ∃ a vs, v = .ref a ∧ (SqL K H a vs ∨ SqT K H a vs) ∧ Paired (Bor K L H) vs xs ∧ (A = .lst xs ∨ A = .tup xs) := by
  cases A <;> first | (cases e; done) | skip
  · cases e
    obtain ⟨a, vs, rfl, hs, p, _⟩ := h.tupT
    exact ⟨a, vs, rfl, .inr hs, p, .inr rfl⟩
  · cases e
    obtain ⟨a, vs, rfl, hs, p⟩ := h.lst
    exact ⟨a, vs, rfl, .inl (SqL.of hs), p, .inl rfl⟩
theorem onInts_some {K : PySem.W.Frag} {L : Addr → Prop} {H : Hp} {g : List Int → Option PV} {A Z : PV} {v : V} (h : Bor K L H v A) (e : onInts g A = some Z) : ∃ a ns, v = .ref a ∧ (SqL K H a (ns.map V.int) ∨ SqT K H a (ns.map V.int)) ∧ g ns = some Z := by
  unfold onInts at e
  obtain ⟨xs, e1, e2⟩ := Option.bind_eq_some_iff.mp e
  obtain ⟨ns, e3, e4⟩ := Option.bind_eq_some_iff.mp e2
  obtain ⟨a, vs, rfl, hs, p, _⟩ := elems_some h e1
  obtain ⟨rfl, _⟩ := ints_some p e3
  exact ⟨a, ns, rfl, hs, e4⟩
theorem sum_tuple {prog : Program} {w : World} {A : Around} {E : Value → Shared → Prop} {s : Shared} {l : Addr} {its : List Value} {ns : List Int} {Q : Value → Shared → Prop} (hh : A.handled = none) (hl : s.heap.IsTuple l its.toArray) (hi : IntsAre its ns)
    (h : ∀ h' tk t', (∀ b o, s.heap.get? b = some o → h'.get? b = some o) → Q (.int ns.sum t') { s with heap := h', toks := tk }) : wpAny (model prog w) A (call (.builtin "sum") [.ref l]) Q E s := by
  obtain ⟨xs, e⟩ := hi.allInts.items
  have hn : numsOf (intItems xs).toList = ns := by rw [← e]; exact hi.numsOf
  rw [nums_intItems] at hn
  rw [e] at hl
  have hlt : l < s.heap.objs.size := by obtain ⟨_, q, _⟩ := id hl; exact Heap.lt_size q
  refine call_sum_walkG (wpAny_pyIter_tuple hl ?_)
  refine ⟨_, _, _, _, _, _, numAt xs, rfl, Walks.tuple (A := A.in1) hh _ l (Nat.ne_of_lt hlt) (intItems xs), ⟨⟨_, Heap.get?_push_size _ rfl, rfl, rfl⟩, hl.push _⟩, fun b hb => ?_, (fun _ _ => intItems_at), fun h' tk t' hk => ?_⟩
  · show b < (s.heap.push _).objs.size
    rw [Heap.size_push]
    rcases List.mem_cons.mp hb with rfl | hb
    · exact Nat.lt_succ_self _
    · rcases List.mem_cons.mp hb with rfl | hb
      · exact Nat.lt_succ_of_lt hlt
      · cases hb
  · have old : ∀ b o, s.heap.get? b = some o → h'.get? b = some o := fun b o q => by
      refine hk b o (fun hm => ?_) (Heap.get?_push_of_some _ q)
      rcases List.mem_cons.mp hm with e1 | hm
      · exact absurd (e1 ▸ Heap.lt_size q) (Nat.lt_irrefl _)
      · cases hm
    have z := h h' tk t' old
    rw [preSum_eq, List.take_of_length_le (by simp [intItems]), hn]
    exact z
theorem cr_sumT (hc : X.calm = true) : CallR X (.builtin "sum") (fun vs H Q => ∃ (a : Addr) (ns : List Int), vs = [V.ref a] ∧ SqT X.K H a (ns.map V.int) ∧ Q (.int ns.sum) H) := by
  intro pins s σ H vs us Q I r h
  obtain ⟨a, ns, rfl, hs, q⟩ := h
  obtain ⟨its, rv, hl, _⟩ := I.tuple hs
  rw [Vals.ref1 r]
  exact sum_tuple (I.ok.hd hc) (show s.heap.IsTuple a its.toArray from hl) rv.ints fun h' tk t' hk => ⟨.int _, H, I.kept hk, ⟨_, rfl⟩, q⟩
theorem ok_sum (hc : X.calm = true) : CallR X (.builtin "sum") (rFs X.K .sum) := CallR.imp (CallR.or (cr_sum hc) (cr_sumT hc)) fun xs H Q ⟨L, Xs, Z, p, e, q⟩ => by
  obtain ⟨A, rfl, e⟩ := fn_one (f := .sum) (fun _ _ => rfl) e
  obtain ⟨v, rfl, h⟩ := one_of p
  obtain ⟨a, ns, rfl, hs, e'⟩ := onInts_some h e
  cases e'
  exact hs.imp (fun z => ⟨a, ns, rfl, z, q _ bor_int⟩) (fun z => ⟨a, ns, rfl, z, q _ bor_int⟩)
/-! abs, int, max, min -/
theorem ok_abs : CallR X (.builtin "abs") (rFs X.K .abs) := CallR.imp call_abs fun xs H Q ⟨L, Xs, Z, p, e, q⟩ => by
  obtain ⟨A, rfl, e⟩ := fn_one (f := .abs) (fun _ _ => rfl) e
  obtain ⟨v, rfl, h⟩ := one_of p
  have e' : gAbs A = some Z := e
  cases A <;> first | (cases e'; done) | skip
  cases e'
  exact ⟨_, by rw [h.int], q _ bor_int⟩
theorem ok_int : CallR X (.type "int") (rFs X.K .int) := CallR.imp call_int1 fun xs H Q ⟨L, Xs, Z, p, e, q⟩ => by
  obtain ⟨A, rfl, e⟩ := fn_one (f := .int) (fun _ _ => rfl) e
  obtain ⟨v, rfl, h⟩ := one_of p
  have e' : gInt A = some Z := e
  cases A <;> first | (cases e'; done) | skip
  · cases e'
    exact .inr ⟨_, by rw [h.bl], q _ bor_int⟩
  · cases e'
    exact .inl ⟨_, by rw [h.int], q _ bor_int⟩
theorem ok_max2 (hc : X.calm = true) : CallR X (.builtin "max") (rFs X.K .max2) := CallR.imp (call_max2 hc) fun xs H Q ⟨L, Xs, Z, p, e, q⟩ => by
  obtain ⟨A, B, rfl, e⟩ := fn_two (f := .max2) (fun _ => rfl) e
  obtain ⟨v, w, rfl, h1, h2⟩ := two_of p
  obtain ⟨i, j, rfl, rfl, e'⟩ := gI_some e
  cases e'
  exact ⟨i, j, by rw [h1.int, h2.int], q _ bor_int⟩
theorem ok_min2 (hc : X.calm = true) : CallR X (.builtin "min") (rFs X.K .min2) := CallR.imp (call_min2 hc) fun xs H Q ⟨L, Xs, Z, p, e, q⟩ => by
  obtain ⟨A, B, rfl, e⟩ := fn_two (f := .min2) (fun _ => rfl) e
  obtain ⟨v, w, rfl, h1, h2⟩ := two_of p
  obtain ⟨i, j, rfl, rfl, e'⟩ := gI_some e
  cases e'
  exact ⟨i, j, by rw [h1.int, h2.int], q _ bor_int⟩
theorem ok_min1 (hc : X.calm = true) (hu : X.A.units + 100 < cLine) : CallR X (.builtin "min") (rFs X.K .min1) := CallR.imp (cr_minLT hc hu) fun xs H Q ⟨L, Xs, Z, p, e, q⟩ => by
  obtain ⟨A, rfl, e⟩ := fn_one (f := .min1) (fun _ _ => rfl) e
  obtain ⟨v, rfl, h⟩ := one_of p
  obtain ⟨a, ns, rfl, hs, e'⟩ := onInts_some h e
  cases ns with
  | nil => cases e'
  | cons n ns =>
    cases e'
    exact ⟨a, n, ns, rfl, hs, q _ bor_int⟩
theorem ok_max1 (hc : X.calm = true) (hu : X.A.units + 100 < cLine) : CallR X (.builtin "max") (rFs X.K .max1) := CallR.imp (cr_maxLT hc hu) fun xs H Q ⟨L, Xs, Z, p, e, q⟩ => by
  obtain ⟨A, rfl, e⟩ := fn_one (f := .max1) (fun _ _ => rfl) e
  obtain ⟨v, rfl, h⟩ := one_of p
  obtain ⟨a, ns, rfl, hs, e'⟩ := onInts_some h e
  cases ns with
  | nil => cases e'
  | cons n ns =>
    cases e'
    exact ⟨a, n, ns, rfl, hs, q _ bor_int⟩
/-! repr -/
theorem repr_ok (hg : X.A.guards = some []) (hu : X.A.units + 70 < cLine) : CallR X (.builtin "repr") (fun xs H Q => ∃ v d, xs = [v] ∧ Dp X.K H v d ∧ d.showable = true ∧ d.hasDict = false ∧ d.depth ≤ 64 ∧ d.shown.length ≤ sizeLine ∧ Q (.str d.shown) H) := by
  intro pins s σ H xs us Q I r h
  obtain ⟨v, d, rfl, hd, hs, hn, hdp, hl, q⟩ := h
  obtain ⟨u, rfl, ru⟩ := vals1 r
  obtain ⟨as, rd⟩ := Dp.reads I d v u hd ru
  cases d with
  | none => cases hd; cases ru; exact PySem.P.repr_of_none ⟨.str _, H, I.tok _, ⟨_, rfl⟩, by simpa [PyData.shown] using q⟩
  | bool b => cases hd; cases ru; exact PySem.P.repr_of_bool ⟨.str _, H, I.tok _, ⟨_, rfl⟩, by cases b <;> simpa [PyData.shown] using q⟩
  | int i =>
    cases hd
    obtain ⟨t, rfl⟩ := ru
    exact PySem.P.repr_of_int (by simpa [PyData.showable] using hs) ⟨.str _, H, I.tok _, ⟨_, rfl⟩, by simpa [PyData.shown] using q⟩
  | str x =>
    cases hd
    obtain ⟨t, rfl⟩ := ru
    exact PySem.P.repr_of_str ⟨.str _, H, I.tok _, ⟨_, rfl⟩, by simpa [PyData.shown] using q⟩ (by simpa [PyData.shown] using hl)
  | list ds =>
    cases hd with
    | lst h1 h2 =>
      cases ru
      exact repr_of_reads' rd hs (PyData.noDict_hsm hn) hg (by omega) (fun _ _ e => e) (fun h' t tk hk => ⟨.str _, H, I.kept (t' := tk) hk, ⟨_, rfl⟩, q⟩) hl
  | tuple ds =>
    cases hd with
    | tup h1 h2 =>
      cases ru
      exact repr_of_reads' rd hs (PyData.noDict_hsm hn) hg (by omega) (fun _ _ e => e) (fun h' t tk hk => ⟨.str _, H, I.kept (t' := tk) hk, ⟨_, rfl⟩, q⟩) hl
  | dict kvs => cases hd
theorem repr_empty (hg : X.A.guards = some []) (hu : X.A.units + 70 < cLine) : CallR X (.builtin "repr") (fun xs H Q => ∃ a, xs = [.ref a] ∧ Rd H a (.dK []) ∧ Q (.str "{}") H) := by
  intro pins s σ H xs us Q I r h
  obtain ⟨a, rfl, hr, q⟩ := h
  obtain ⟨u, rfl, ru⟩ := vals1 r
  obtain rfl : u = Value.ref a := ru
  obtain ⟨_, hsm, vs, kv, o, es, ep, ho, hc, hd, _, he, _⟩ := dk_rd I.hok hr
  cases kv
  have hes : es.toList = [] := by cases hl : es.toList with
    | nil => rfl
    | cons x y => rw [hl] at he; cases he
  have rd : Reads s.heap (.ref a) (.dict []) (a :: [] ++ []) := by
    refine Reads.dict (es := es) (n := ep) ho hc.1 hd ?_ ?_
    · rw [hes]; exact .nil
    · rw [hes]; exact .nil
  refine repr_of_reads' rd rfl (fun _ => ?_) hg (by show X.A.units + (0 + 1 + 1) < cLine; omega) (fun _ _ e => e) (fun h' t tk hk => ⟨.str _, H, I.kept (t' := tk) hk, ⟨_, rfl⟩, q⟩) (by decide)
  intro hm
  have e1 : a = sysModules := by
    have hm' : sysModules ∈ [a] := hm
    simpa using (List.mem_singleton.mp hm').symm
  rw [e1] at hsm
  simp at hsm
theorem ok_repr (hg : X.A.guards = some []) (hu : X.A.units + 70 < cLine) : CallR X (.builtin "repr") (rFs X.K .repr) := CallR.imp (CallR.or (repr_ok hg hu) (repr_empty hg hu)) fun xs H Q ⟨L, Xs, Z, p, e, q⟩ => by
  obtain ⟨A, rfl, e⟩ := fn_one (f := .repr) (fun _ _ => rfl) e
  obtain ⟨v, rfl, h⟩ := one_of p
  have e' : prepr A = some Z := e
  unfold prepr at e'
  split at e'
  · cases e'
    obtain ⟨a, ms, rfl, hr, pp⟩ := h.dct
    cases pp
    exact .inr ⟨a, rfl, hr, q _ bor_str⟩
  · split at e'
    · rename_i d hd
      split at e'
      · rename_i hc
        cases e'
        rw [Bool.and_eq_true, Bool.and_eq_true, decide_eq_true_eq, decide_eq_true_eq] at hc
        exact .inl ⟨v, d, rfl, dp_of A v d h hd, hc.1.1, noDict_of A d hd, hc.1.2, hc.2, q _ bor_str⟩
      · cases e'
    · cases e'
/-! isinstance -/
theorem tyX_of {K : PySem.W.Frag} {L : Addr → Prop} {H : Hp} {A : PV} {v : V} (h : Bor K L H v A) (hA : ∀ c fs, A ≠ .exc c fs) (hB : ∀ ns, A ≠ .scr ns) : ∃ n : String, TyX K H v (.type n) ∧ (∀ k, gKind k A = some (.bl ((n == "int" && k == .int) || (n == "bool" && (k == .int || k == .bool)) || (n == "str" && k == .str) || (n == "tuple" && k == .tup)))) ∧ (n ∈ ["int", "bool", "str", "tuple", "NoneType", "list", "dict"]) := by
  cases A with
  | non => rw [h.non]; exact ⟨"NoneType", .base .non, fun k => by cases k <;> rfl, by decide⟩
  | bl b => rw [h.bl]; exact ⟨"bool", .base (.bl b), fun k => by cases k <;> rfl, by decide⟩
  | int b => rw [h.int]; exact ⟨"int", .base (.int b), fun k => by cases k <;> rfl, by decide⟩
  | str b => rw [h.str]; exact ⟨"str", .base (.str b), fun k => by cases k <;> rfl, by decide⟩
  | tup xs =>
    obtain ⟨a, vs, rfl, hs, p, _⟩ := h.tupT
    refine ⟨"tuple", ?_, fun k => by cases k <;> rfl, by decide⟩
    rcases hs with (hs | ⟨o, hs⟩) | ⟨o, its, n, hk, hc, _⟩
    · exact .base (.tup hs)
    · exact .fTuple hs
    · exact .kTuple hk hc
  | lst xs =>
    obtain ⟨a, vs, rfl, hs, p⟩ := h.lst
    refine ⟨"list", ?_, fun k => by cases k <;> rfl, by decide⟩
    exact .base (.lst hs)
  | dct xs =>
    obtain ⟨a, vs, rfl, hs, p⟩ := h.dct
    refine ⟨"dict", ?_, fun k => by cases k <;> rfl, by decide⟩
    rcases hs with hs | ⟨o, hs⟩
    · exact .base (.dK hs)
    · exact .fDict hs
  | exc c fs => exact (hA c fs rfl).elim
  | scr ns => exact (hB ns rfl).elim
end
end Mi
end
section
set_option Elab.async false
set_option linter.all false
set_option maxRecDepth 100000
set_option maxHeartbeats 2000000
/-! S5: simple expressions. -/
namespace Mi
open PySem PySem.Spec PyProof.Rows L2

def bltNames : List Str := ["len", "sum", "abs", "int", "max", "min", "all", "any", "repr", "isinstance", "bool", "str", "tuple", "list", "range", "enumerate", "zip", "sorted", "set", "dict"]

structure XOk (X : Cx) (N : List Str) (sc : Scope) : Prop where
  nn : X.N = N
  sc : X.env.scope = sc
  nd : N.Nodup
  calm : X.calm = true
  units : X.A.units + 100 < cLine
  guards : X.A.guards = some []
  blt : ∀ b ∈ bltNames, X.mg b = none

def kindIs (k : NameKind) : Option NameKind → Bool
  | some j => k == j
  | none => false
def okVar (N : List Str) (sc : Scope) (i : Nat) (x : Str) : Bool :=
  (match N[i]? with | some y => decide (y = x) | none => false) && (match sc.names.lookup x with | some .local => true | some .cell => true | some .free => true | _ => false) &&
  !decide (x = ("__debug__" : Str)) && !decide (x = ("__classdict__" : Str))
def glB (sc : Scope) (x : Str) : Bool := (match sc.names.lookup x with | some .globalImplicit => true | _ => false) && !decide (x = ("__debug__" : Str))
def noStar : Expr → Bool
  | .Starred _ _ => false
  | _ => true
def noSl : Expr → Bool
  | .Slice _ _ _ _ => false
  | _ => true
def opF : Operator → Option Fn
  | .Add => some .add | .Sub => some .sub | .Mult => some .mul | .FloorDiv => some .fdiv | .Mod => some .mod | .Pow => some .pow
  | _ => none
def cmpF : CmpOp → Option Fn
  | .Eq => some .eq | .NotEq => some .ne | .Lt => some .lt | .LtE => some .le | .Gt => some .gt | .GtE => some .ge
  | .Is => some .is | .IsNot => some .isnot | .In => some .in_ | .NotIn => some .notin
/-- a built-in's name, whether it is a type -/
def biF : Fn → Option (String × Bool)
  | .len => some ("len", false) | .sum => some ("sum", false) | .abs => some ("abs", false) | .repr => some ("repr", false)
  | .max2 => some ("max", false) | .min2 => some ("min", false) | .max1 => some ("max", false) | .min1 => some ("min", false) | .int => some ("int", true)
  | _ => none
def isF : Fn → Option String
  | .isInt => some "int" | .isBool => some "bool" | .isStr => some "str" | .isTup => some "tuple"
  | _ => none
def biIs (f : Fn) (x : Str) : Bool := match biF f with
  | some (n, _) => decide (x = Str.ofString n)
  | none => false
def isIs (f : Fn) (x y : Str) : Bool := match isF f with
  | some n => decide (x = Str.ofString "isinstance") && decide (y = Str.ofString n)
  | none => false
def isIndex (f : Fn) (m : Str) : Bool := (f == .index || f == .indexT) && decide (m = Str.ofString "index")
/-- what is no call by a bare name without arguments -/
def plainBase : Expr → Bool
  | .Call _ [] _ _ => false
  | _ => true

def ck1 (sc : Scope) (f : Fn) (g : Expr → Bool) : Expr → Bool
  | .UnaryOp .USub e _ => f == .neg && g e
  | .Call (.Name x _) [e] [] _ => glB sc x && noStar e && biIs f x && g e
  | .Call (.Name x _) [e, .Name y _] [] _ => glB sc x && glB sc y && noStar e && isIs f x y && g e
  | _ => false
def ck2 (sc : Scope) (f : Fn) (g g' : Expr → Bool) : Expr → Bool
  | .BinOp l o r _ => opF o == some f && g l && g' r
  | .Compare l [o] [r] _ => cmpF o == some f && !behindInMarks o r && g l && g' r
  | .Subscript l r _ => f == .get && noSl r && g l && g' r
  | .Call (.Name x _) [e1, e2] [] _ => glB sc x && noStar e1 && noStar e2 && biIs f x && g e1 && g' e2
  | .Call (.Attribute o m apos) [e] [] cpos => isIndex f m && plainBase o && (apos.endLine == cpos.line) && noStar e && g o && g' e
  | _ => false
def ckC (f f' : Fn) (g1 g2 g3 : Expr → Bool) : Expr → Bool
  | .Compare l [o1, o2] [m, r] _ => cmpF o1 == some f && cmpF o2 == some f' && !behindInMarks o2 r && g1 l && g2 m && g3 r
  | _ => false
def ckNot (g : Expr → Bool) : Expr → Bool
  | .UnaryOp .Not e _ => g e
  | _ => false
def ckAnd (g g' : Expr → Bool) : Expr → Bool
  | .BoolOp .And [x, y] _ => g x && g' y
  | .BoolOp .And (x :: y :: z :: zs) pos => g x && g' (.BoolOp .And (y :: z :: zs) pos)
  | _ => false
def ckOr (g g' : Expr → Bool) : Expr → Bool
  | .BoolOp .Or [x, y] _ => g x && g' y
  | .BoolOp .Or (x :: y :: z :: zs) pos => g x && g' (.BoolOp .Or (y :: z :: zs) pos)
  | _ => false
def ckIte (g1 g2 g3 : Expr → Bool) : Expr → Bool
  | .IfExp c x y _ => g1 c && g2 x && g3 y
  | _ => false
def ckVar (N : List Str) (sc : Scope) (i : Nat) : Expr → Bool
  | .Name x _ => okVar N sc i x
  | _ => false
def ckInt (i : Int) : Expr → Bool
  | .Constant (.int j) _ _ => decide (i = j)
  | _ => false
def ckBl (b : Bool) : Expr → Bool
  | .Constant (.bool c) _ _ => b == c
  | _ => false
def ckNon : Expr → Bool
  | .Constant .none _ _ => true
  | _ => false
def ckStr (s : Str) : Expr → Bool
  | .Constant (.str t) _ _ => decide (s = t)
  | _ => false
/-- whether a mini expression is what Python's tree says -/
def okS (N : List Str) (sc : Scope) : SE → Expr → Bool
  | .var i => ckVar N sc i
  | .int i => ckInt i
  | .bl b => ckBl b
  | .non => ckNon
  | .str s => ckStr s
  | .ap1 f a => ck1 sc f (okS N sc a)
  | .ap2 f a b => ck2 sc f (okS N sc a) (okS N sc b)
  | .chain f g a b c => ckC f g (okS N sc a) (okS N sc b) (okS N sc c)
  | .not a => ckNot (okS N sc a)
  | .and a b => ckAnd (okS N sc a) (okS N sc b)
  | .or a b => ckOr (okS N sc a) (okS N sc b)
  | .ite t a b => ckIte (okS N sc t) (okS N sc a) (okS N sc b)

/-- a simple expression's reading -/
def TS (K : PySem.W.Frag) (fx : List (Nat × V)) (e : SE) : TE := fun σ H Q => ∃ ρ O F x, R K fx σ H ρ O F ∧ evS e ρ = some x ∧ ∀ v, Bor K (fun b => b ∈ O ++ F) H v x → Q v H
def TTs (K : PySem.W.Frag) (fx : List (Nat × V)) (e : SE) : TT := fun σ H Q => ∃ ρ O F b, R K fx σ H ρ O F ∧ evSt e ρ = some b ∧ Q b H

section
variable {X : Cx} {e : Expr}
theorem peImp {t t' : TE} (h : PE X e t) (g : ∀ σ H Q, t' σ H Q → t σ H Q) : PE X e t' := ⟨fun pins s σ H Q I q => h.run pins s σ H Q I (g σ H Q q)⟩
theorem ptImp {t t' : TT} (h : PT X e t) (g : ∀ σ H Q, t' σ H Q → t σ H Q) : PT X e t' := ⟨fun pins s σ H Q I q => h.run pins s σ H Q I (g σ H Q q)⟩
theorem pwImp {t t' : TT} (h : PW X e t) (g : ∀ σ H Q, t' σ H Q → t σ H Q) : PW X e t' := ⟨fun w pins s σ H Q I q => h.run w pins s σ H Q I (g σ H Q q)⟩
theorem peOr {t t' : TE} (h : PE X e t) (h' : PE X e t') : PE X e (fun σ H Q => t σ H Q ∨ t' σ H Q) := ⟨fun pins s σ H Q I q => q.elim (h.run pins s σ H Q I) (h'.run pins s σ H Q I)⟩
theorem star_cons {es : List Expr} {env : Env} (h : noStar e = true) : starEach (e :: es) env = (false, eval e env) :: starEach es env := by
  cases e <;> first | rfl | (cases h; done)
theorem plain_ix (h : noSl e = true) : PlainIx e := by
  intro o i
  cases e <;> first | rfl | (cases h; done)
theorem base_plain {m : Str} {env : Env} (h : plainBase e = true) : attributeBase e m env (eval e env) = eval e env := by
  unfold attributeBase
  cases e <;> try rfl
  rename_i f as ks pos
  cases as with
  | nil => cases h
  | cons a as => cases f <;> rfl
theorem okVar_of {N : List Str} {sc : Scope} {i : Nat} {x : Str} (hX : XOk X N sc) (h : okVar N sc i x = true) : X.N[i]? = some x ∧ Vis X.env.scope x ∧ (x == ("__debug__" : Str)) = false ∧ (x == ("__classdict__" : Str)) = false := by
  unfold okVar at h
  simp only [Bool.and_eq_true, Bool.not_eq_true', decide_eq_false_iff_not] at h
  obtain ⟨⟨⟨h1, h2⟩, h3⟩, h4⟩ := h
  refine ⟨?_, ?_, by simpa using h3, by simpa using h4⟩
  · rw [hX.nn]
    split at h1
    · rename_i y hy; rw [hy]; simpa using h1
    · cases h1
  · rw [hX.sc]
    unfold Vis
    split at h2 <;> first | exact .inl (by assumption) | exact .inr (.inl (by assumption)) | exact .inr (.inr (by assumption)) | cases h2
theorem glB_of {N : List Str} {sc : Scope} {x : Str} (hX : XOk X N sc) (h : glB sc x = true) : Gl X x ∧ (x == ("__debug__" : Str)) = false := by
  unfold glB at h
  simp only [Bool.and_eq_true, Bool.not_eq_true', decide_eq_false_iff_not] at h
  obtain ⟨h1, h2⟩ := h
  refine ⟨?_, by simpa using h2⟩
  show X.env.scope.names.lookup x = _
  rw [hX.sc]
  split at h1
  · assumption
  · cases h1
/-- a built-in -/
theorem bi_of {N : List Str} {sc : Scope} {f : Fn} {x : Str} (hX : XOk X N sc) (h : biIs f x = true) : X.mg x = none ∧ x ≠ "__name__" ∧
    ((∃ id, bootBuiltins x = some (.builtin id) ∧ CallR X (.builtin id) (rFs X.K f)) ∨ ∃ T, bootBuiltins x = some (.type T) ∧ CallR X (.type T) (rFs X.K f)) := by
  have hu := hX.units
  unfold biIs at h
  cases f <;> first | (simp [biF] at h; done) | skip
  all_goals (simp only [biF, decide_eq_true_eq] at h; subst h)
  · exact ⟨hX.blt _ (by decide +kernel), by decide +kernel, .inl ⟨"len", boot_len, ok_len⟩⟩
  · exact ⟨hX.blt _ (by decide +kernel), by decide +kernel, .inl ⟨"sum", by decide +kernel, ok_sum hX.calm⟩⟩
  · exact ⟨hX.blt _ (by decide +kernel), by decide +kernel, .inl ⟨"abs", by decide +kernel, ok_abs⟩⟩
  · exact ⟨hX.blt _ (by decide +kernel), by decide +kernel, .inr ⟨"int", by decide +kernel, ok_int⟩⟩
  · exact ⟨hX.blt _ (by decide +kernel), by decide +kernel, .inl ⟨"max", by decide +kernel, ok_max2 hX.calm⟩⟩
  · exact ⟨hX.blt _ (by decide +kernel), by decide +kernel, .inl ⟨"min", by decide +kernel, ok_min2 hX.calm⟩⟩
  · exact ⟨hX.blt _ (by decide +kernel), by decide +kernel, .inl ⟨"max", by decide +kernel, ok_max1 hX.calm hX.units⟩⟩
  · exact ⟨hX.blt _ (by decide +kernel), by decide +kernel, .inl ⟨"min", by decide +kernel, ok_min1 hX.calm hX.units⟩⟩
  · exact ⟨hX.blt _ (by decide +kernel), by decide +kernel, .inl ⟨"repr", by decide +kernel, ok_repr hX.guards (by omega)⟩⟩
/-- a call of a built-in -/
theorem pe_bi {N : List Str} {sc : Scope} {f : Fn} {x : Str} {p pos : Pos} {es : List Expr} {t : TA} (hX : XOk X N sc) (hg : glB sc x = true) (hb : biIs f x = true) (ha : PA X (e :: es) t) (hs : noStar e = true) (hes : es.all noStar = true) :
    PE X (.Call (.Name x p) (e :: es) [] pos) (tCB (rFs X.K f) t) := by
  obtain ⟨g1, g2⟩ := glB_of hX hg
  obtain ⟨m1, m2, h⟩ := bi_of hX hb
  have pl : (PySem.backTo pos (starEach es X.env)).any (·.1) = false := by
    clear ha
    induction es with
    | nil => rfl
    | cons a as ih =>
      rw [List.all_cons, Bool.and_eq_true] at hes
      rw [star_cons hes.1]
      exact ih hes.2
  rcases h with ⟨id, hv, hc⟩ | ⟨T, hv, hc⟩
  · exact pe_callB hc g1 m1 hv ha m2 g2 (star_cons hs) pl
  · exact pe_callTy hc g1 m1 hv ha m2 g2 (star_cons hs) pl
theorem op_of {N : List Str} {sc : Scope} {o : Operator} {f : Fn} (hX : XOk X N sc) (h : (opF o == some f) = true) : OpR X (binaryOp o) (rF2 X.K f) := by
  cases o <;> simp only [opF] at h <;> first | (cases (by simpa using h : _ = f); done) | (simp at h; subst h; first | exact ok_add | exact ok_sub | exact ok_mul | exact ok_fdiv | exact ok_mod | exact ok_pow) | (simp at h; done)
theorem cmp_of {N : List Str} {sc : Scope} {o : CmpOp} {f : Fn} (hX : XOk X N sc) (h : (cmpF o == some f) = true) : OpR X (compareOp o) (rF2 X.K f) := by
  have hu := hX.units
  cases o <;> (simp [cmpF] at h; subst h) <;> first | exact ok_eq (by omega) | exact ok_ne (by omega) | exact ok_lt | exact ok_le | exact ok_gt | exact ok_ge | exact ok_is | exact ok_isnot | exact ok_in (by omega) | exact ok_notin (by omega)
/-- a comparison gives True or False -/
theorem cmp_bl {o : CmpOp} {f : Fn} {A B Z : PV} (h : (cmpF o == some f) = true) (e : fn2 f A B = some Z) : ∃ b, Z = .bl b := by
  cases o <;> (simp [cmpF] at h; subst h)
  · have e' : (peq A B).map PV.bl = some Z := e
    obtain ⟨b, _, rfl⟩ := Option.map_eq_some_iff.mp e'; exact ⟨_, rfl⟩
  · have e' : (peq A B).map (fun b => PV.bl (!b)) = some Z := e
    obtain ⟨b, _, rfl⟩ := Option.map_eq_some_iff.mp e'; exact ⟨_, rfl⟩
  · obtain ⟨i, j, _, _, e'⟩ := gI_some e; cases e'; exact ⟨_, rfl⟩
  · obtain ⟨i, j, _, _, e'⟩ := gI_some e; cases e'; exact ⟨_, rfl⟩
  · obtain ⟨i, j, _, _, e'⟩ := gI_some e; cases e'; exact ⟨_, rfl⟩
  · obtain ⟨i, j, _, _, e'⟩ := gI_some e; cases e'; exact ⟨_, rfl⟩
  · have e' : gIs A B = some Z := e
    cases B <;> first | (cases e'; done) | (cases e'; exact ⟨_, rfl⟩)
  · have e' : gIsnot A B = some Z := e
    cases B <;> first | (cases e'; done) | (cases e'; exact ⟨_, rfl⟩)
  · have e' : (inB A B).map PV.bl = some Z := e
    obtain ⟨b, _, rfl⟩ := Option.map_eq_some_iff.mp e'; exact ⟨_, rfl⟩
  · have e' : (inB A B).map (fun b => PV.bl (!b)) = some Z := e
    obtain ⟨b, _, rfl⟩ := Option.map_eq_some_iff.mp e'; exact ⟨_, rfl⟩
/-- isinstance -/
theorem isi_ok {f : Fn} {n : String} (hf : isF f = some n) : CallR X (.builtin "isinstance") (fun xs H Q => ∃ v A Z L, xs = [v, .ty n] ∧ Bor X.K L H v A ∧ fn1 f A = some Z ∧ ∀ z, Bor X.K L H z Z → Q z H) :=
  CallR.imp call_isi fun xs H Q ⟨v, A, Z, L, e1, hb, e, q⟩ => by
    have hA : ∀ c fs, A ≠ .exc c fs := fun c fs h => by subst h; exact hb.exc
    by_cases hB : ∃ ns, A = .scr ns
    · obtain ⟨ns, rfl⟩ := hB
      cases f <;> first | (cases hf; done) | (cases e; done)
    obtain ⟨m, ty, hk, hm⟩ := tyX_of hb hA fun ns h => hB ⟨ns, h⟩
    simp only [List.mem_cons, List.not_mem_nil, or_false] at hm
    cases f <;> first | (cases hf; done) | skip
    all_goals (cases hf)
    · have e' : gKind .int A = some Z := e
      rw [hk] at e'; cases e'
      rcases hm with rfl | rfl | rfl | rfl | rfl | rfl | rfl <;> exact ⟨v, .ty _, _, _, _, e1, .ty _, ty, kit_ty (by decide +kernel), q _ bor_bl⟩
    · have e' : gKind .bool A = some Z := e
      rw [hk] at e'; cases e'
      rcases hm with rfl | rfl | rfl | rfl | rfl | rfl | rfl <;> exact ⟨v, .ty _, _, _, _, e1, .ty _, ty, kit_ty (by decide +kernel), q _ bor_bl⟩
    · have e' : gKind .str A = some Z := e
      rw [hk] at e'; cases e'
      rcases hm with rfl | rfl | rfl | rfl | rfl | rfl | rfl <;> exact ⟨v, .ty _, _, _, _, e1, .ty _, ty, kit_ty (by decide +kernel), q _ bor_bl⟩
    · have e' : gKind .tup A = some Z := e
      rw [hk] at e'; cases e'
      rcases hm with rfl | rfl | rfl | rfl | rfl | rfl | rfl <;> exact ⟨v, .ty _, _, _, _, e1, .ty _, ty, kit_ty (by decide +kernel), q _ bor_bl⟩
theorem ty_name {n : String} {f : Fn} (h : isF f = some n) : bootBuiltins (Str.ofString n) = some (.type n) ∧ Str.ofString n ≠ "__name__" ∧ Str.ofString n ∈ bltNames := by
  cases f <;> first | (cases h; done) | skip
  all_goals (cases h)
  all_goals exact ⟨by decide +kernel, by decide +kernel, by decide +kernel⟩
/-- truth -/
theorem tru_of {K : PySem.W.Frag} {L : Addr → Prop} {H : Hp} {A : PV} {v : V} {k : Bool} (h : Bor K L H v A) (e : truthy A = some k) : TruV K v H k := by
  cases A with
  | non => rw [h.non]; cases e; rfl
  | bl b => rw [h.bl]; cases e; rfl
  | int i => rw [h.int]; cases e; rfl
  | str x =>
    rw [h.str]
    have e' : (if x.length ≤ sizeLine then some (x.length != 0) else none) = some k := e
    split at e'
    · rename_i hl
      cases e'
      exact ⟨hl, by
        show (x.length != 0) = ((x.length : Int) != 0)
        rw [Bool.eq_iff_iff]
        simp⟩
    · cases e'
  | tup xs =>
    obtain ⟨a, vs, rfl, hs, p, _⟩ := h.tupT
    cases e
    exact .inr (.inl ⟨vs, hs, by cases p <;> rfl⟩)
  | lst xs =>
    obtain ⟨a, vs, rfl, hs, p⟩ := h.lst
    cases e
    exact .inl ⟨vs, SqL.of hs, by cases p <;> rfl⟩
  | dct xs => cases e
  | exc c fs => exact h.exc.elim
  | scr ns => cases e

variable {N : List Str} {sc : Scope} {fx : List (Nat × V)}
theorem R.var {K : PySem.W.Frag} {σ : L2.St} {H : Hp} {ρ : Rho} {O F : List Addr} {i : Nat} {a : Arg} (r : R K fx σ H ρ O F) (h : slot ρ i = some a) : ∃ w, σ[i]? = some (some w) ∧ Bor K (fun b => b ∈ O ++ F) H w a.1 := by
  obtain ⟨A, Oi, B, e, f, _⟩ := r.chg (slot_lt h)
  obtain ⟨w, h1, h2⟩ := f a (slot_at h)
  exact ⟨w, h1, _, _, h2⟩

theorem band {a b : Bool} : (a && b) = true → a = true ∧ b = true := by cases a <;> cases b <;> simp
/-- data, none deeper than 63 -/
theorem memB_okD {x : PV} : ∀ {ys : List PV} {b : Bool}, memB x ys = some b → ∃ ds, toDs ys = some ds ∧ PyData.canLayAll0 ds = true ∧ PyData.depthAll ds ≤ 63
  | [], b, e => ⟨[], rfl, rfl, Nat.zero_le _⟩
  | y :: ys, b, e => by
    unfold memB at e
    split at e
    · rename_i a c h1 h2
      obtain ⟨d1, d, g1, g2, s1, s2, _⟩ := peq_okD h1
      obtain ⟨ds, k3, k4, k5⟩ := memB_okD h2
      unfold okD at s1
      rw [Bool.and_eq_true, decide_eq_true_eq] at s1
      refine ⟨d1 :: ds, by unfold toDs; rw [g1, k3], by rw [PyData.canLayAll0, s1.1, k4]; rfl, ?_⟩
      unfold PyData.depthAll
      omega
    · cases e
theorem findB_some {y : PV} : ∀ {xs : List PV} {k n : Nat}, findB y xs k = some n → ∃ d ds j z, toD y = some d ∧ SeqAt.shaped d = true ∧ n = k + j ∧ toDs xs = some ds ∧ PyData.canLayAll0 ds = true ∧ PyData.depthAll ds ≤ 63 ∧ ds[j]? = some z ∧ PyData.eqv z d = true ∧ ∀ m z', m < j → ds[m]? = some z' → PyData.eqv z' d = false
  | [], k, n, h => by cases h
  | x :: xs, k, n, h => by
    unfold findB at h
    split at h
    · rename_i hp
      obtain ⟨b, h0, h⟩ := Option.map_eq_some_iff.mp h
      subst h
      obtain ⟨d1, d, h1, h2, s1, s2, e⟩ := peq_okD hp
      obtain ⟨ds, k3, k4, k5⟩ := memB_okD h0
      have s1' := s1
      unfold okD at s1'
      rw [Bool.and_eq_true, decide_eq_true_eq] at s1'
      refine ⟨d, d1 :: ds, 0, d1, h2, okD_shaped s2, rfl, by unfold toDs; rw [h1, k3], by rw [PyData.canLayAll0, s1'.1, k4]; rfl, ?_, rfl, e.symm, fun m z' hm => absurd hm (Nat.not_lt_zero _)⟩
      unfold PyData.depthAll
      omega
    · rename_i hp
      obtain ⟨d1, d, h1, h2, s1, s2, e⟩ := peq_okD hp
      obtain ⟨d', ds, j, z, g1, g2, g3, g4, g5, g5', g6, g7, g8⟩ := findB_some h
      rw [h2] at g1; cases g1
      have s1' := s1
      unfold okD at s1'
      rw [Bool.and_eq_true, decide_eq_true_eq] at s1'
      refine ⟨d, d1 :: ds, j + 1, z, h2, okD_shaped s2, by omega, by unfold toDs; rw [h1, g4], by rw [PyData.canLayAll0, s1'.1, g5]; rfl, ?_, by simpa using g6, g7, fun m z' hm hz => ?_⟩
      · unfold PyData.depthAll
        omega
      · cases m with
        | zero => simp at hz; subst hz; exact e.symm
        | succ m => exact g8 m z' (by omega) (by simpa using hz)
    · cases h
theorem ok_index (hu : X.A.units + 65 < cLine) : MtR X "list.index" (fun x xs H Q => ∃ L A y B Z, Bor X.K L H x A ∧ xs = [y] ∧ Bor X.K L H y B ∧ gIndex A B = some Z ∧ ∀ z, Bor X.K L H z Z → Q z H) := by
  intro pins s σ H x xs v us Q I rx rxs h
  obtain ⟨L, A, y, B, Z, hx, e1, hy, e, q⟩ := h
  subst e1
  unfold gIndex at e
  split at e
  · rename_i As
    obtain ⟨n, e2, rfl⟩ := Option.map_eq_some_iff.mp e
    obtain ⟨d, ds, j, z, g1, g2, g3, g4, g5, g5', g6, g7, g8⟩ := findB_some e2
    have hl : toD (.lst As) = some (.list ds) := by unfold toD; rw [g4]; rfl
    have dx := dp_of (.lst As) x _ hx hl
    obtain ⟨a, vs, rfl, hr, p⟩ := hx.lst
    refine mt_indexD hu pins s σ H _ _ v us Q I rx rxs ⟨a, y, d, ds, j, z, rfl, rfl, dx, dp_of B y d hy g1, ?_, g2, g6, g7, g8, ?_⟩
    · unfold SeqAt.shaped
      rw [Bool.and_eq_true, decide_eq_true_eq]
      exact ⟨by unfold PyData.canLay0; exact g5, by unfold PyData.depth; exact Nat.succ_le_succ g5'⟩
    · have e3 : n = j := by rw [g3, Nat.zero_add]
      subst e3
      exact q _ bor_int
  · cases e
theorem findI_some {z : Int} : ∀ {ns : List Int} {k n : Nat}, findI z ns k = some n → ∃ j, n = k + j ∧ ns[j]? = some z ∧ ∀ m, m < j → ns[m]? ≠ some z
  | [], k, n, h => by cases h
  | y :: r, k, n, h => by
    unfold findI at h
    split at h
    · rename_i e
      cases h
      subst e
      exact ⟨0, rfl, rfl, fun m hm => by omega⟩
    · rename_i e
      obtain ⟨j, e1, e2, e3⟩ := findI_some h
      refine ⟨j + 1, by omega, by simpa using e2, fun m hm => ?_⟩
      cases m with
      | zero => simpa using e
      | succ m => simpa using e3 m (by omega)
theorem owns_ints0 {K : PySem.W.Frag} {L : Addr → Prop} {H : Hp} : ∀ {xs : List PV} {vs : List V} {ns : List Int}, Owns K L H 0 xs vs [] → intsOf xs = some ns → vs = ns.map V.int
  | [], vs, ns, h, e => by
    cases (show some [] = some ns from e)
    rw [h.1]; rfl
  | x :: xs, vs, ns, h, e => by
    obtain ⟨v, vr, O1, O2, rfl, eo, h1, h2⟩ := h
    obtain ⟨rfl, rfl⟩ := List.append_eq_nil_iff.mp eo.symm
    cases x <;> first | (cases e; done) | skip
    obtain ⟨ms, e1, rfl⟩ := Option.map_eq_some_iff.mp (show (intsOf xs).map _ = some ns from e)
    rw [owns_ints0 h2 e1, List.map_cons, h1.2]
theorem ok_indexT : MtR X "tuple.index" (fun x xs H Q => ∃ L A y B Z, Bor X.K L H x A ∧ xs = [y] ∧ Bor X.K L H y B ∧ gIndexT A B = some Z ∧ ∀ z, Bor X.K L H z Z → Q z H) := by
  intro pins s σ H x xs v us Q I rx rxs h
  obtain ⟨L, A, y, B, Z, hx, e1, hy, e, q⟩ := h
  subst e1
  unfold gIndexT at e
  split at e
  · obtain ⟨ns, e2, e3⟩ := Option.bind_eq_some_iff.mp e
    obtain ⟨n, e4, rfl⟩ := Option.map_eq_some_iff.mp e3
    obtain ⟨a, vs, rfl, hs, _, o⟩ := hx.tupT
    obtain ⟨j, g1, g2, g3⟩ := findI_some e4
    rw [owns_ints0 o e2] at hs
    refine mt_tup_indexI pins s σ H _ _ v us Q I rx rxs ⟨a, ns, _, j, rfl, by rw [hy.int], hs, g2, g3, ?_⟩
    have e5 : n = j := by omega
    subst e5
    exact q _ bor_int
  · cases e
theorem tyV_lst {K : PySem.W.Frag} {L : Addr → Prop} {H : Hp} {v : V} {xs : List PV} (h : Bor K L H v (.lst xs)) : tyV K "list" v H := by
  obtain ⟨a, vs, rfl, hr, p⟩ := h.lst
  exact .inl ⟨rfl, vs, SqL.of hr⟩

theorem pt_plain {s : SE} (h : PE X e (TS X.K fx s)) (he : ∀ whole, isTrue e X.env whole = (do let v ← whole; standAt e.pos; holding [v] (PySem.truthy v))) (hs : ∀ ρ, evSt s ρ = (evS s ρ).bind Mi.truthy) : PT X e (TTs X.K fx s) :=
  ptImp (pt_truth h he) fun σ H Q ⟨ρ, O, F, b, r, ev, q⟩ => by
    rw [hs] at ev
    obtain ⟨x, e1, e2⟩ := Option.bind_eq_some_iff.mp ev
    exact ⟨ρ, O, F, x, r, e1, fun v hv => ⟨b, tru_of hv e2, q⟩⟩
theorem bind_tru {o : Option PV} {g : PV → Option PV} : (o.bind g).bind Mi.truthy = o.bind fun x => (g x).bind Mi.truthy := by cases o <;> rfl
/-- a simple expression is what it says, as a value and as a test -/
theorem okS_both (hX : XOk X N sc) : ∀ (s : SE) (e : Expr), okS N sc s e = true → PE X e (TS X.K fx s) ∧ PT X e (TTs X.K fx s) := by
  intro s
  induction s with
  | var i =>
    intro e h
    cases e <;> first | (cases h; done) | skip
    obtain ⟨h1, h2, h3, h4⟩ := okVar_of hX h
    have hv : ∀ p, PE X (.Name _ p) (TS X.K fx (.var i)) := fun p => by
      refine peImp (pe_var h1 h2 h3 h4) fun σ H Q ⟨ρ, O, F, x, r, ev, q⟩ => ?_
      obtain ⟨a, e1, e2⟩ := Option.map_eq_some_iff.mp ev
      obtain ⟨w, hw, hb⟩ := r.var e1
      subst e2
      exact ⟨w, hw, q w hb⟩
    exact ⟨hv _, pt_plain (hv _) (fun _ => rfl) fun ρ => by unfold evSt evS; cases slot ρ i <;> rfl⟩
  | int i =>
    intro e h
    cases e <;> first | (cases h; done) | skip
    rename_i c k pos
    cases c <;> first | (cases h; done) | skip
    obtain rfl := of_decide_eq_true h
    have hv : ∀ k p, PE X (.Constant (.int i) k p) (TS X.K fx (.int i)) := fun k p => by
      refine peImp pe_int fun σ H Q ⟨ρ, O, F, x, r, ev, q⟩ => ?_
      cases ev
      exact q _ bor_int
    exact ⟨hv _ _, pt_plain (hv _ _) (fun _ => rfl) fun ρ => rfl⟩
  | bl b =>
    intro e h
    cases e <;> first | (cases h; done) | skip
    rename_i c k pos
    cases c <;> first | (cases h; done) | skip
    have h' : (b == _) = true := h
    rw [beq_iff_eq] at h'
    subst h'
    have hv : ∀ (c : Bool) k p, PE X (.Constant (.bool c) k p) (TS X.K fx (.bl c)) := fun c k p => by
      refine peImp pe_bl fun σ H Q ⟨ρ, O, F, x, r, ev, q⟩ => ?_
      cases ev
      exact q _ bor_bl
    exact ⟨hv _ _ _, pt_plain (hv _ _ _) (fun _ => rfl) fun ρ => rfl⟩
  | non =>
    intro e h
    cases e <;> first | (cases h; done) | skip
    rename_i c k pos
    cases c <;> first | (cases h; done) | skip
    have hv : ∀ k p, PE X (.Constant .none k p) (TS X.K fx .non) := fun k p => by
      refine peImp pe_non fun σ H Q ⟨ρ, O, F, x, r, ev, q⟩ => ?_
      cases ev
      exact q _ bor_non
    exact ⟨hv _ _, pt_plain (hv _ _) (fun _ => rfl) fun ρ => rfl⟩
  | str s =>
    intro e h
    cases e <;> first | (cases h; done) | skip
    rename_i c k pos
    cases c <;> first | (cases h; done) | skip
    obtain rfl := of_decide_eq_true h
    have hv : ∀ k p, PE X (.Constant (.str s) k p) (TS X.K fx (.str s)) := fun k p => by
      refine peImp pe_str fun σ H Q ⟨ρ, O, F, x, r, ev, q⟩ => ?_
      cases ev
      exact q _ bor_str
    exact ⟨hv _ _, pt_plain (hv _ _) (fun _ => rfl) fun ρ => rfl⟩
  | ap1 f a ih =>
    intro e h
    have mk : ∀ {e : Expr}, (∀ whole, isTrue e X.env whole = (do let v ← whole; standAt e.pos; holding [v] (PySem.truthy v))) → PE X e (TS X.K fx (.ap1 f a)) → PE X e (TS X.K fx (.ap1 f a)) ∧ PT X e (TTs X.K fx (.ap1 f a)) :=
      fun he hp => ⟨hp, pt_plain hp he fun ρ => bind_tru.symm⟩
    have h' : ck1 sc f (okS N sc a) e = true := h
    unfold ck1 at h'
    split at h'
    · obtain ⟨h1, h2⟩ := band h'
      obtain rfl := eq_of_beq h1
      refine mk (fun _ => rfl) (peImp (pe_un ok_neg (ih _ h2).1) fun σ H Q ⟨ρ, O, F, x, r, ev, q⟩ => ?_)
      obtain ⟨y, e1, e2⟩ := Option.bind_eq_some_iff.mp ev
      exact ⟨ρ, O, F, y, r, e1, fun v hv => ⟨_, y, x, hv, e2, q⟩⟩
    · obtain ⟨h1, h2⟩ := band h'
      obtain ⟨h1, h3⟩ := band h1
      obtain ⟨h1, h4⟩ := band h1
      refine mk (fun _ => rfl) (peImp (pe_bi hX h1 h3 (pa_cons (ih _ h2).1 pa_nil (star_cons h4)) h4 rfl) fun σ H Q ⟨ρ, O, F, x, r, ev, q⟩ => ?_)
      obtain ⟨y, e1, e2⟩ := Option.bind_eq_some_iff.mp ev
      exact ⟨ρ, O, F, y, r, e1, fun v hv => ⟨_, [y], x, .cons hv .nil, e2, q⟩⟩
    · obtain ⟨h1, h2⟩ := band h'
      obtain ⟨h1, h3⟩ := band h1
      obtain ⟨h1, h4⟩ := band h1
      obtain ⟨h1, h5⟩ := band h1
      obtain ⟨g1, g2⟩ := glB_of hX h1
      obtain ⟨k1, k2⟩ := glB_of hX h5
      unfold isIs at h3
      split at h3
      · rename_i n hn
        obtain ⟨e1, e2⟩ := band h3
        obtain rfl := of_decide_eq_true e1
        obtain rfl := of_decide_eq_true e2
        obtain ⟨t1, t2, t3⟩ := ty_name hn
        have hv : ∀ p, PE X (.Name (Str.ofString n) p) (tC (.ty n)) := fun p => pe_bltn k1 (hX.blt _ t3) t1 rfl t2 k2
        refine mk (fun _ => rfl) (peImp (pe_callB (isi_ok hn) g1 (hX.blt _ (by decide +kernel)) boot_isinstance (pa_cons (ih _ h2).1 (pa_cons (hv _) pa_nil) (star_cons h4)) (by decide +kernel) g2 (star_cons h4) rfl) fun σ H Q ⟨ρ, O, F, x, r, ev, q⟩ => ?_)
        obtain ⟨y, e1, e2⟩ := Option.bind_eq_some_iff.mp ev
        exact ⟨ρ, O, F, y, r, e1, fun v hv => ⟨v, y, x, _, rfl, hv, e2, q⟩⟩
      · cases h3
    · cases h'
  | ap2 f a b iha ihb =>
    intro e h
    have h' : ck2 sc f (okS N sc a) (okS N sc b) e = true := h
    have tru2 : ∀ ρ, evSt (.ap2 f a b) ρ = (evS (.ap2 f a b) ρ).bind Mi.truthy := fun ρ => by
      show ((evS a ρ).bind fun x => (evS b ρ).bind fun y => (fn2 f x y).bind Mi.truthy) = ((evS a ρ).bind fun x => (evS b ρ).bind fun y => fn2 f x y).bind Mi.truthy
      cases evS a ρ with
      | none => rfl
      | some x => cases evS b ρ <;> rfl
    have mk : ∀ {e : Expr}, (∀ whole, isTrue e X.env whole = (do let v ← whole; standAt e.pos; holding [v] (PySem.truthy v))) → PE X e (TS X.K fx (.ap2 f a b)) → PE X e (TS X.K fx (.ap2 f a b)) ∧ PT X e (TTs X.K fx (.ap2 f a b)) :=
      fun he hp => ⟨hp, pt_plain hp he tru2⟩
    have red : ∀ {r2 : R2} {ta tb : TE}, (∀ x y H Q, rF2 X.K f x y H Q → r2 x y H Q) → ∀ σ H Q, TS X.K fx (.ap2 f a b) σ H Q → tOp r2 (TS X.K fx a) (TS X.K fx b) σ H Q := fun {r2 ta tb} g σ H Q ⟨ρ, O, F, x, r, ev, q⟩ => by
      obtain ⟨y, e1, e2⟩ := Option.bind_eq_some_iff.mp ev
      obtain ⟨z, e3, e4⟩ := Option.bind_eq_some_iff.mp e2
      exact ⟨ρ, O, F, y, r, e1, fun v hv => ⟨ρ, O, F, z, r, e3, fun w hw => g _ _ _ _ ⟨_, y, z, x, hv, hw, e4, q⟩⟩⟩
    unfold ck2 at h'
    split at h'
    · obtain ⟨h1, h2⟩ := band h'
      obtain ⟨h1, h3⟩ := band h1
      exact mk (fun _ => rfl) (peImp (pe_op (op_of hX h1) (iha _ h3).1 (ihb _ h2).1) (red (ta := TS X.K fx a) (tb := TS X.K fx b) fun _ _ _ _ z => z))
    · obtain ⟨h1, h2⟩ := band h'
      obtain ⟨h1, h3⟩ := band h1
      obtain ⟨h1, h4⟩ := band h1
      refine ⟨peImp (pe_cmpR (cmp_of hX h1) (iha _ h3).1 (ihb _ h2).1 (by simpa using h4)) (red (ta := TS X.K fx a) (tb := TS X.K fx b) fun _ _ _ _ z => z),
        ptImp (pt_cmpR (cmp_of hX h1) (iha _ h3).1 (ihb _ h2).1 (by simpa using h4)) fun σ H Q ⟨ρ, O, F, k, r, ev, q⟩ => ?_⟩
      obtain ⟨y, e1, e2⟩ := Option.bind_eq_some_iff.mp ev
      obtain ⟨z, e3, e4⟩ := Option.bind_eq_some_iff.mp e2
      obtain ⟨t, e5, e6⟩ := Option.bind_eq_some_iff.mp e4
      obtain ⟨c, rfl⟩ := cmp_bl h1 e5
      cases e6
      exact ⟨ρ, O, F, y, r, e1, fun v hv => ⟨ρ, O, F, z, r, e3, fun w hw => ⟨_, y, z, _, hv, hw, e5, fun t ht => ⟨_, ht.bl, q⟩⟩⟩⟩
    · obtain ⟨h1, h2⟩ := band h'
      obtain ⟨h1, h3⟩ := band h1
      obtain ⟨h1, h4⟩ := band h1
      obtain rfl := eq_of_beq h1
      exact mk (fun _ => rfl) (peImp (pe_ix (ok_get (by have := hX.units; omega)) (iha _ h3).1 (ihb _ h2).1 (plain_ix h4)) (red (ta := TS X.K fx a) (tb := TS X.K fx b) fun _ _ _ _ z => z))
    · obtain ⟨h1, h2⟩ := band h'
      obtain ⟨h1, h3⟩ := band h1
      obtain ⟨h1, h4⟩ := band h1
      obtain ⟨h1, h5⟩ := band h1
      obtain ⟨h1, h6⟩ := band h1
      refine mk (fun _ => rfl) (peImp (pe_bi hX h1 h4 (pa_cons (iha _ h3).1 (pa_cons (ihb _ h2).1 pa_nil (star_cons h5)) (star_cons h6)) h6 (by simp [h5])) fun σ H Q ⟨ρ, O, F, x, r, ev, q⟩ => ?_)
      obtain ⟨y, e1, e2⟩ := Option.bind_eq_some_iff.mp ev
      obtain ⟨z, e3, e4⟩ := Option.bind_eq_some_iff.mp e2
      exact ⟨ρ, O, F, y, r, e1, fun v hv => ⟨ρ, O, F, z, r, e3, fun w hw => ⟨_, [y, z], x, .cons hv (.cons hw .nil), e4, q⟩⟩⟩
    · obtain ⟨h1, h2⟩ := band h'
      obtain ⟨h1, h3⟩ := band h1
      obtain ⟨h1, h4⟩ := band h1
      obtain ⟨h1, h5⟩ := band h1
      obtain ⟨h1, h6⟩ := band h1
      obtain ⟨h8, h7⟩ := band h1
      obtain rfl := of_decide_eq_true h7
      rcases (Bool.or_eq_true _ _).mp h8 with h8 | h8
      · obtain rfl := eq_of_beq h8
        refine mk (fun _ => rfl) (peImp (pe_bm PySem.F.plainAttrs_list PySem.F.slot_list_index PySem.F.type_list_index (ok_index (by have := hX.units; omega)) (iha _ h3).1 (pa_cons (ihb _ h2).1 pa_nil (star_cons h4)) (base_plain h6) ?_ h5 (star_cons h4) rfl) fun σ H Q ⟨ρ, O, F, x, r, ev, q⟩ => ?_)
        · rw [star_cons h4]; rfl
        · obtain ⟨y, e1, e2⟩ := Option.bind_eq_some_iff.mp ev
          obtain ⟨z, e3, e4⟩ := Option.bind_eq_some_iff.mp e2
          have e5 : gIndex y z = some x := e4
          refine ⟨ρ, O, F, y, r, e1, fun v hv => ⟨?_, ρ, O, F, z, r, e3, fun w hw => ⟨_, y, w, z, x, hv, rfl, hw, e5, q⟩⟩⟩
          unfold gIndex at e5
          split at e5
          · exact tyV_lst hv
          · cases e5
      · obtain rfl := eq_of_beq h8
        refine mk (fun _ => rfl) (peImp (pe_bmX PySem.F.slot_tuple_index PySem.F.type_tuple_index ok_indexT (iha _ h3).1 (pa_cons (ihb _ h2).1 pa_nil (star_cons h4)) (base_plain h6) ?_ h5 (star_cons h4) rfl) fun σ H Q ⟨ρ, O, F, x, r, ev, q⟩ => ?_)
        · rw [star_cons h4]; rfl
        · obtain ⟨y, e1, e2⟩ := Option.bind_eq_some_iff.mp ev
          obtain ⟨z, e3, e4⟩ := Option.bind_eq_some_iff.mp e2
          have e5 : gIndexT y z = some x := e4
          refine ⟨ρ, O, F, y, r, e1, fun v hv => ⟨?_, ρ, O, F, z, r, e3, fun w hw => ⟨_, y, w, z, x, hv, rfl, hw, e5, q⟩⟩⟩
          unfold gIndexT at e5
          split at e5
          · obtain ⟨a, vs, rfl, hs, _⟩ := hv.tup
            exact ⟨a, vs, rfl, hs⟩
          · cases e5
    · cases h'
  | chain f g a b c iha ihb ihc =>
    intro e h
    have h' : ckC f g (okS N sc a) (okS N sc b) (okS N sc c) e = true := h
    unfold ckC at h'
    split at h'
    · rename_i l o1 o2 m' r' pos
      obtain ⟨h1, h2⟩ := band h'
      obtain ⟨h1, h3⟩ := band h1
      obtain ⟨h1, h4⟩ := band h1
      obtain ⟨h1, h5⟩ := band h1
      obtain ⟨h1, h6⟩ := band h1
      have hl : lastMarks [o1, o2] [m', r'] = false := show behindInMarks o2 r' = false by simpa using h5
      refine ⟨peImp (pe_chain (cmp_of hX h1) (cmp_of hX h6) (iha _ h4).1 (ihb _ h3).1 (ihc _ h2).1 hl) fun σ H Q ⟨ρ, O, F, x, r, ev, q⟩ => ?_,
        ptImp (pt_chain (cmp_of hX h1) (cmp_of hX h6) (iha _ h4).1 (ihb _ h3).1 (ihc _ h2).1 hl) fun σ H Q ⟨ρ, O, F, x, r, ev, q⟩ => ?_⟩
      · obtain ⟨y, e1, e2⟩ := Option.bind_eq_some_iff.mp ev
        obtain ⟨z, e3, e4⟩ := Option.bind_eq_some_iff.mp e2
        obtain ⟨t, e5, e6⟩ := Option.bind_eq_some_iff.mp e4
        obtain ⟨b', e7, e8⟩ := Option.bind_eq_some_iff.mp e6
        obtain ⟨b'', rfl⟩ := cmp_bl h1 e5
        cases e7
        refine ⟨ρ, O, F, y, r, e1, fun v hv => ⟨ρ, O, F, z, r, e3, fun w hw => ⟨_, y, z, _, hv, hw, e5, fun t ht => ⟨b', ht.bl, ?_⟩⟩⟩⟩
        cases b' with
        | true =>
          rw [if_pos rfl] at e8 ⊢
          obtain ⟨u, e9, e10⟩ := Option.bind_eq_some_iff.mp e8
          exact ⟨ρ, O, F, u, r, e9, fun w' hw' => ⟨_, z, u, x, hw, hw', e10, q⟩⟩
        | false =>
          rw [if_neg (by decide)] at e8 ⊢
          cases e8
          exact q _ bor_bl
      · obtain ⟨y, e1, e2⟩ := Option.bind_eq_some_iff.mp ev
        obtain ⟨z, e3, e4⟩ := Option.bind_eq_some_iff.mp e2
        obtain ⟨t, e5, e6⟩ := Option.bind_eq_some_iff.mp e4
        obtain ⟨b', e7, e8⟩ := Option.bind_eq_some_iff.mp e6
        obtain ⟨b'', rfl⟩ := cmp_bl h1 e5
        cases e7
        refine ⟨ρ, O, F, y, r, e1, fun v hv => ⟨ρ, O, F, z, r, e3, fun w hw => ⟨_, y, z, _, hv, hw, e5, fun t ht => ⟨b', ht.bl, ?_⟩⟩⟩⟩
        cases b' with
        | true =>
          rw [if_pos rfl] at e8 ⊢
          obtain ⟨u, e9, e10⟩ := Option.bind_eq_some_iff.mp e8
          obtain ⟨t2, e11, e12⟩ := Option.bind_eq_some_iff.mp e10
          obtain ⟨c2, rfl⟩ := cmp_bl h6 e11
          cases e12
          exact ⟨ρ, O, F, u, r, e9, fun w' hw' => ⟨_, z, u, _, hw, hw', e11, fun t3 ht3 => ⟨_, ht3.bl, q⟩⟩⟩
        | false =>
          rw [if_neg (by decide)] at e8 ⊢
          cases e8
          exact ⟨_, rfl, q⟩
    · cases h'
  | not a ih =>
    intro e h
    have h' : ckNot (okS N sc a) e = true := h
    unfold ckNot at h'
    split at h'
    · refine ⟨peImp (pe_notT (ih _ h').1) fun σ H Q ⟨ρ, O, F, x, r, ev, q⟩ => ?_, ptImp (pt_not (ih _ h').2) fun σ H Q ⟨ρ, O, F, x, r, ev, q⟩ => ?_⟩
      · obtain ⟨y, e1, e2⟩ := Option.bind_eq_some_iff.mp ev
        obtain ⟨k, e3, rfl⟩ := Option.map_eq_some_iff.mp e2
        exact ⟨ρ, O, F, y, r, e1, fun v hv => ⟨k, tru_of hv e3, q _ bor_bl⟩⟩
      · obtain ⟨y, e1, rfl⟩ := Option.map_eq_some_iff.mp ev
        exact ⟨ρ, O, F, y, r, e1, q⟩
    · cases h'
  | and a b iha ihb =>
    intro e h
    have red : ∀ σ H Q, TS X.K fx (.and a b) σ H Q → tAndV (TS X.K fx a) (TS X.K fx b) σ H Q := fun σ H Q ⟨ρ, O, F, x, r, ev, q⟩ => by
      obtain ⟨y, e1, e2⟩ := Option.bind_eq_some_iff.mp ev
      obtain ⟨t, e3, e4⟩ := Option.bind_eq_some_iff.mp e2
      cases y <;> first | (cases e3; done) | skip
      cases e3
      refine ⟨ρ, O, F, _, r, e1, fun v hv => ⟨t, hv.bl, ?_⟩⟩
      cases t with
      | true => rw [if_pos rfl] at e4 ⊢; exact ⟨ρ, O, F, x, r, e4, q⟩
      | false => rw [if_neg (by decide)] at e4 ⊢; cases e4; exact q _ bor_bl
    have redT : ∀ σ H Q, TTs X.K fx (.and a b) σ H Q → tAnd (TTs X.K fx a) (TTs X.K fx b) σ H Q := fun σ H Q ⟨ρ, O, F, x, r, ev, q⟩ => by
      obtain ⟨t, e1, e2⟩ := Option.bind_eq_some_iff.mp ev
      refine ⟨ρ, O, F, t, r, e1, ?_⟩
      cases t with
      | true => rw [if_pos rfl] at e2 ⊢; exact ⟨ρ, O, F, x, r, e2, q⟩
      | false => rw [if_neg (by decide)] at e2 ⊢; cases e2; exact q
    have h' : ckAnd (okS N sc a) (okS N sc b) e = true := h
    unfold ckAnd at h'
    split at h'
    · obtain ⟨h1, h2⟩ := band h'
      exact ⟨peImp (pe_and (iha _ h1).1 (pe_one (ihb _ h2).1)) red, ptImp (PW.pt (pw_and (iha _ h1).2 (pw_and1 (ihb _ h2).2))) redT⟩
    · obtain ⟨h1, h2⟩ := band h'
      exact ⟨peImp (pe_and (iha _ h1).1 (ihb _ h2).1) red, ptImp (PW.pt (pw_and (iha _ h1).2 ⟨fun _ => (ihb _ h2).2.run⟩)) redT⟩
    · cases h'
  | or a b iha ihb =>
    intro e h
    have red : ∀ σ H Q, TS X.K fx (.or a b) σ H Q → tOrV (TS X.K fx a) (TS X.K fx b) σ H Q := fun σ H Q ⟨ρ, O, F, x, r, ev, q⟩ => by
      obtain ⟨y, e1, e2⟩ := Option.bind_eq_some_iff.mp ev
      obtain ⟨t, e3, e4⟩ := Option.bind_eq_some_iff.mp e2
      cases y <;> first | (cases e3; done) | skip
      cases e3
      refine ⟨ρ, O, F, _, r, e1, fun v hv => ⟨t, hv.bl, ?_⟩⟩
      cases t with
      | true => rw [if_pos rfl] at e4 ⊢; cases e4; exact q _ bor_bl
      | false => rw [if_neg (by decide)] at e4 ⊢; exact ⟨ρ, O, F, x, r, e4, q⟩
    have redT : ∀ σ H Q, TTs X.K fx (.or a b) σ H Q → tOr (TTs X.K fx a) (TTs X.K fx b) σ H Q := fun σ H Q ⟨ρ, O, F, x, r, ev, q⟩ => by
      obtain ⟨t, e1, e2⟩ := Option.bind_eq_some_iff.mp ev
      refine ⟨ρ, O, F, t, r, e1, ?_⟩
      cases t with
      | true => rw [if_pos rfl] at e2 ⊢; cases e2; exact q
      | false => rw [if_neg (by decide)] at e2 ⊢; exact ⟨ρ, O, F, x, r, e2, q⟩
    have h' : ckOr (okS N sc a) (okS N sc b) e = true := h
    unfold ckOr at h'
    split at h'
    · obtain ⟨h1, h2⟩ := band h'
      exact ⟨peImp (pe_or (iha _ h1).1 (pe_one (ihb _ h2).1)) red, ptImp (PW.pt (pw_or (iha _ h1).2 (pw_or1 (ihb _ h2).2))) redT⟩
    · obtain ⟨h1, h2⟩ := band h'
      exact ⟨peImp (pe_or (iha _ h1).1 (ihb _ h2).1) red, ptImp (PW.pt (pw_or (iha _ h1).2 ⟨fun _ => (ihb _ h2).2.run⟩)) redT⟩
    · cases h'
  | ite t a b iht iha ihb =>
    intro e h
    have h' : ckIte (okS N sc t) (okS N sc a) (okS N sc b) e = true := h
    unfold ckIte at h'
    split at h'
    · obtain ⟨h1, h2⟩ := band h'
      obtain ⟨h1, h3⟩ := band h1
      refine ⟨peImp (pe_ifExp (iht _ h1).2 (iha _ h3).1 (ihb _ h2).1) fun σ H Q ⟨ρ, O, F, x, r, ev, q⟩ => ?_, ⟨fun pins s σ H Q I ⟨ρ, O, F, x, r, ev, q⟩ => ?_⟩⟩
      · obtain ⟨c, e1, e2⟩ := Option.bind_eq_some_iff.mp ev
        refine ⟨ρ, O, F, c, r, e1, ?_⟩
        cases c with
        | true => rw [if_pos rfl] at e2 ⊢; exact ⟨ρ, O, F, x, r, e2, q⟩
        | false => rw [if_neg (by decide)] at e2 ⊢; exact ⟨ρ, O, F, x, r, e2, q⟩
      · obtain ⟨c, e1, e2⟩ := Option.bind_eq_some_iff.mp ev
        refine isTrue_IfExp (thn ((iht _ h1).2.run pins s σ H (fun d H1 => d = c ∧ H1 = H) I ⟨ρ, O, F, c, r, e1, rfl, rfl⟩) fun d s1 ⟨H1, I1, ed, eH⟩ => ?_)
        subst ed
        rw [eH] at I1
        cases d with
        | true => rw [if_pos rfl] at e2 ⊢; exact (iha _ h3).2.run pins s1 σ H Q I1 ⟨ρ, O, F, x, r, e2, q⟩
        | false => rw [if_neg (by decide)] at e2 ⊢; exact (ihb _ h2).2.run pins s1 σ H Q I1 ⟨ρ, O, F, x, r, e2, q⟩
    · cases h'
end
end Mi
end
section
set_option Elab.async false
set_option linter.all false
set_option maxRecDepth 100000
set_option maxHeartbeats 2000000
/-! S6: what an evaluation asks of the heap behind it. -/
namespace Mi
open PySem PySem.Spec PyProof.Rows L2

theorem Ext.refl {O : List Addr} {H : Hp} {N : List Addr} (h : ∀ b ∈ N, b ∈ O) : Ext O H H N := ⟨fun _ _ e _ => e, fun b hb => .inl (h b hb), fun _ h => h, fun _ _ e => e, fun _ _ _ e => e⟩
theorem Ext.trans {O O1 N : List Addr} {H H1 H2 : Hp} {T : List Addr} (a : Ext O H H1 (O1 ++ T)) (b : Ext O1 H1 H2 N) : Ext O H H2 N where
  keep := fun c o e n => by
    refine b.keep c o (a.keep c o e n) fun z => ?_
    rcases a.new c (List.mem_append_left _ z) with q | q
    · exact n q
    · rw [q] at e; cases e
  new := fun c hc => by
    rcases b.new c hc with q | q
    · exact a.new c (List.mem_append_left _ q)
    · by_cases z : H c = none
      · exact .inr z
      · exact absurd q (a.dom c z)
  dom := fun c h => b.dom c (a.dom c h)
  tups := fun c u e => b.tups c u (a.tups c u e)
  frzs := fun c o u e => b.frzs c o u (a.frzs c o u e)
theorem Ext.sub {O N N' : List Addr} {H H' : Hp} (a : Ext O H H' N) (h : ∀ b ∈ N', b ∈ N) : Ext O H H' N' := ⟨a.keep, fun b hb => a.new b (h b hb), a.dom, a.tups, a.frzs⟩

/-- how an exception lies: its class, its own dict -/
abbrev XRel := Nat → List PV → Value → Option Addr → Hp → Prop

section
variable {K : PySem.W.Frag} {fx : List (Nat × V)}
/-- a relation of what an evaluation gives and of what the machine gives -/
abbrev Rel (α β : Type) := (Addr → Prop) → Hp → α → β → List Addr → Prop
structure RelOk {α β : Type} (rel : Rel α β) : Prop where
  stay : ∀ L L' H H' a b O, rel L H a b O → Stay L L' H H' O → rel L' H' a b O
def Tm {α β : Type} (K : PySem.W.Frag) (fx : List (Nat × V)) (XR : XRel) (W : WX) (rel : Rel α β) (o : Out α) (σ : L2.St) (H : Hp) (O F : List Addr) (Q : β → Hp → Prop) : Prop :=
  match o with
  | .ok a ρ' => ∀ b H' O' T, R K fx σ H' ρ' O' (T ++ F) → rel (fun x => x ∈ O' ++ (T ++ F)) H' a b T → Ext O H H' (O' ++ T) → Q b H'
  | .ex c xs ρ' => ∀ cls d H' O', R K fx σ H' ρ' O' F → Ext O H H' O' → XR c xs cls d H' → W cls d σ H'
  | .stuck => False
variable {XR : XRel} {W : WX} {α β γ δ : Type} {rel : Rel α β} {rel' : Rel γ δ} {σ : L2.St} {H H1 : Hp} {O O1 T F : List Addr}
theorem Tm.mono {o : Out α} {Q Q' : β → Hp → Prop} (h : Tm K fx XR W rel o σ H O F Q) (g : ∀ b H', Q b H' → Q' b H') : Tm K fx XR W rel o σ H O F Q' := by
  cases o with
  | ok a ρ => exact fun b H' O' T r q e => g _ _ (h b H' O' T r q e)
  | ex c xs ρ => exact h
  | stuck => exact h
theorem R.mid {ρ : Rho} {A B : List Addr} (r : R K fx σ H ρ O (A ++ (B ++ F))) : R K fx σ H ρ O (A ++ F) := by
  refine ⟨r.fx, ?_, RS.stay r.rs (Stay.refl fun b _ nl z => nl ?_), fun b hb => r.tr b ?_⟩
  · refine List.Sublist.nodup ?_ r.nd
    exact List.Sublist.append (List.Sublist.refl _) (List.Sublist.append (List.Sublist.refl _) (List.sublist_append_right _ _))
  · simp only [List.mem_append] at z ⊢
    exact z.imp id fun z => z.imp id .inr
  · simp only [List.mem_append] at hb ⊢
    exact hb.imp id .inr
/-- the same, asked from a state further on -/
theorem Tm.shift (ok : RelOk rel) {o : Out α} {Q : β → Hp → Prop} (h : Tm K fx XR W rel o σ H O F Q) (e : Ext O H H1 (O1 ++ T)) : Tm K fx XR W rel o σ H1 O1 (T ++ F) Q := by
  cases o with
  | ok a ρ =>
    intro b H' O' T' r q e'
    refine h b H' O' T' r.mid (ok.stay _ _ _ _ _ _ _ q (Stay.refl fun c _ nl z => nl ?_)) (e.trans e')
    simp only [List.mem_append] at z ⊢
    exact z.imp id fun z => z.imp id .inr
  | ex c xs ρ => exact fun cls d H' O' r e' x => h cls d H' O' r.drop (e.trans e') x
  | stuck => exact h
/-- first this, then that -/
theorem Tm.seq (ok : RelOk rel') {o : Out α} {f : α → Rho → Out γ} {Q : δ → Hp → Prop} (h : Tm K fx XR W rel' (o.bind f) σ H O F Q) :
    Tm K fx XR W rel o σ H O F (fun b H1 => ∃ a ρ1 O1 T, o = .ok a ρ1 ∧ R K fx σ H1 ρ1 O1 (T ++ F) ∧ rel (fun x => x ∈ O1 ++ (T ++ F)) H1 a b T ∧ Ext O H H1 (O1 ++ T) ∧ Tm K fx XR W rel' (f a ρ1) σ H1 O1 (T ++ F) Q) := by
  cases o with
  | ok a ρ =>
    have h' : Tm K fx XR W rel' (f a ρ) σ H O F Q := h
    exact fun b H1 O1 T r q e => ⟨a, ρ, O1, T, rfl, r, q, e, h'.shift ok e⟩
  | ex c xs ρ => exact h
  | stuck => exact h
theorem Tm.orStuck {o : Option α} {f : α → Out γ} {Q : δ → Hp → Prop} (h : Tm K fx XR W rel' (Mi.orStuck o f) σ H O F Q) : ∃ a, o = some a ∧ Tm K fx XR W rel' (f a) σ H O F Q := by
  cases o with
  | none => exact h.elim
  | some a => exact ⟨a, rfl, h⟩
/-- values that waited stay through what came behind -/
theorem Stay.ext {ρ : Rho} {T1 T2 O2 : List Addr} {H2 : Hp} (nd : (O1 ++ F).Nodup) (e : Ext O1 H1 H2 (O2 ++ T2)) (sub : ∀ b ∈ T1, b ∈ F) : Stay (fun x => x ∈ O1 ++ F) (fun x => x ∈ O2 ++ (T2 ++ F)) H1 H2 T1 where
  ht := e.tups
  hf := e.frzs
  k := fun b o eb hb => e.keep b o eb fun z => by
    rcases hb with hb | hb
    · exact not_mem_of_nodup nd z (sub b hb)
    · exact hb (List.mem_append_left _ z)
  n := fun b hb nl z => by
    simp only [List.mem_append] at z nl
    rcases z with z | z | z
    · rcases e.new b (List.mem_append_left _ z) with q | q
      · exact nl (.inl q)
      · exact hb q
    · rcases e.new b (List.mem_append_right _ z) with q | q
      · exact nl (.inl q)
      · exact hb q
    · exact nl (.inr z)

/-! ### the relations -/
def relA (K : PySem.W.Frag) : Rel Arg V := fun L H a v T => Own K L H a.2 a.1 v T
theorem relA_ok : RelOk (relA K) := ⟨fun _ _ _ _ _ _ _ h s => Own.stay h s⟩
def relO (K : PySem.W.Frag) (σ : L2.St) : Rel Opd V := fun L H o v T => match o with
  | .var i => σ[i]? = some (some v) ∧ T = []
  | .val a => Own K L H a.2 a.1 v T
theorem relO_ok : RelOk (relO K σ) := ⟨fun _ _ _ _ o _ _ h s => by
  cases o with
  | var i => exact h
  | val a => exact Own.stay h s⟩
/-- one behind another -/
def relL {α β : Type} (rel : Rel α β) : Rel (List α) (List β) := fun L H as => match as with
  | [] => fun bs T => bs = [] ∧ T = []
  | a :: as => fun bs T => ∃ b br T1 T2, bs = b :: br ∧ T = T1 ++ T2 ∧ rel L H a b T1 ∧ relL rel L H as br T2
theorem relL_ok (ok : RelOk rel) : RelOk (relL rel) := ⟨fun L L' H H' as => by
  induction as with
  | nil => intro b O h _; exact h
  | cons a as ih =>
    intro bs O h s
    obtain ⟨b, br, T1, T2, rfl, rfl, h1, h2⟩ := h
    exact ⟨b, br, T1, T2, rfl, rfl, ok.stay _ _ _ _ _ _ _ h1 (s.mono fun _ => List.mem_append_left _), ih _ _ h2 (s.mono fun _ => List.mem_append_right _)⟩⟩
def relB : Rel Bool Bool := fun _ _ a b T => b = a ∧ T = []
theorem relB_ok : RelOk relB := ⟨fun _ _ _ _ _ _ _ h _ => h⟩
end
end Mi
end
section
set_option Elab.async false
set_option linter.all false
set_option maxRecDepth 100000
set_option maxHeartbeats 2000000
/-! S7: slots lowered, operands settled, new objects. -/
namespace Mi
open PySem PySem.Spec PyProof.Rows L2
section
variable {K : PySem.W.Frag} {fx : List (Nat × V)} {σ : L2.St} {H : Hp} {ρ : Rho} {O F T : List Addr}
theorem set_same {α : Type} {l : List α} {i : Nat} {v : α} (h : l[i]? = some v) : l.set i v = l := by
  obtain ⟨hi, e⟩ := List.getElem?_eq_some_iff.mp h
  rw [← e]; exact List.set_getElem_self hi
theorem sub_nodup {A B Oi Oi' F : List Addr} (s : Oi'.Sublist Oi) (nd : (A ++ (Oi ++ B) ++ F).Nodup) : (A ++ (Oi' ++ B) ++ F).Nodup :=
  List.Sublist.nodup (((List.Sublist.refl _).append (s.append (List.Sublist.refl _))).append (List.Sublist.refl _)) nd
/-- a slot held less deep -/
theorem R.lower (r : R K fx σ H ρ O F) (i m : Nat) : ∃ O', O'.Sublist O ∧ R K fx σ H (Mi.lower i m ρ) O' F := by
  unfold Mi.lower
  split
  · rename_i x d h
    split
    · have hi := slot_lt h
      obtain ⟨A, Oi, B, rfl, f, fn, g⟩ := r.chg hi
      obtain ⟨w, h1, h2⟩ := f _ (slot_at h)
      have nd := r.nd
      have ndi : Oi.Nodup := (List.nodup_append.mp (List.nodup_append.mp (List.nodup_append.mp nd).1).2.1).1
      obtain ⟨Oi', sub, wk⟩ := Own.weaken x d w Oi (min d m) (Nat.min_le_left _ _) ndi h2
      have nd' := sub_nodup sub nd
      have g' := g H (some w) (some (x, min d m)) Oi' F (fun _ _ e => e) (fun _ _ _ e => e) (fun _ _ e _ => e) nd' (fun b hb => (List.mem_append.mp hb).elim (fun z => .inl (sub.subset z)) fun z => .inr (.inl z)) r.tr
        (fun p hp e => by have := r.fx p hp; rw [e, h1] at this; exact Option.some.inj this) (fun a' ha => ⟨w, rfl, by
          cases ha
          refine wk _ (fun b _ nl z => nl ?_) fun b hb nb z => ?_
          · simp only [List.mem_append] at z ⊢
            rcases z with (z | z | z) | z
            · exact .inl (.inl z)
            · exact .inl (.inr (.inl (sub.subset z)))
            · exact .inl (.inr (.inr z))
            · exact .inr z
          · -- b was owned and is no more
            have n1 := List.nodup_append.mp nd
            have n2 := List.nodup_append.mp n1.1
            have n3 := List.nodup_append.mp n2.2.1
            simp only [List.mem_append] at z
            rcases z with (z | z | z) | z
            · exact n2.2.2 b z b (List.mem_append_left _ hb) rfl
            · exact nb z
            · exact n3.2.2 b hb b z rfl
            · exact n1.2.2 b (List.mem_append_right _ (List.mem_append_left _ hb)) b z rfl⟩) (fun e => by cases e)
      rw [set_same h1] at g'
      exact ⟨_, (List.Sublist.refl A).append (sub.append (List.Sublist.refl B)), g'⟩
    · exact ⟨O, List.Sublist.refl _, r⟩
  · exact ⟨O, List.Sublist.refl _, r⟩
theorem R.lowerO (m : Nat) : ∀ (os : List Opd) {ρ : Rho} {O : List Addr}, R K fx σ H ρ O F → ∃ O', O'.Sublist O ∧ R K fx σ H (Mi.lowerO m os ρ) O' F
  | [], _, O, r => ⟨O, List.Sublist.refl _, r⟩
  | .var i :: os, _, O, r => by
    obtain ⟨O1, s1, r1⟩ := r.lower i m
    obtain ⟨O2, s2, r2⟩ := R.lowerO m os r1
    exact ⟨O2, s2.trans s1, r2⟩
  | .val a :: os, _, O, r => R.lowerO m os r
theorem slot_set {ρ : Rho} {i j : Nat} {a : Option Arg} (h : i < ρ.length) : slot (ρ.set i a) j = if i = j then a else slot ρ j := by
  unfold slot
  by_cases e : i = j
  · subst e; rw [List.getElem?_set_self h, if_pos rfl]; rfl
  · rw [List.getElem?_set_ne e, if_neg e]
theorem slot_lower {ρ : Rho} {i j m : Nat} {x : PV} {d : Nat} (h : slot ρ j = some (x, d)) : ∃ d', slot (Mi.lower i m ρ) j = some (x, d') ∧ d' ≤ d ∧ (i = j → isL x = true → d' ≤ m) := by
  unfold Mi.lower
  split
  · rename_i y e hy
    split
    · rename_i hl
      rw [slot_set (slot_lt hy)]
      by_cases q : i = j
      · subst q
        rw [h] at hy; cases hy
        rw [if_pos rfl]
        exact ⟨_, rfl, Nat.min_le_left _ _, fun _ _ => Nat.min_le_right _ _⟩
      · rw [if_neg q]
        exact ⟨d, h, Nat.le_refl _, fun e => absurd e q⟩
    · rename_i hl
      refine ⟨d, h, Nat.le_refl _, fun e hx => ?_⟩
      subst e
      rw [h] at hy; cases hy
      exact absurd hx hl
  · rename_i hn
    refine ⟨d, h, Nat.le_refl _, fun e hx => ?_⟩
    subst e
    rw [h] at hn; cases hn
theorem slot_lowerO {m j : Nat} : ∀ {os : List Opd} {ρ : Rho} {x : PV} {d : Nat}, slot ρ j = some (x, d) → ∃ d', slot (Mi.lowerO m os ρ) j = some (x, d') ∧ d' ≤ d ∧ (Opd.var j ∈ os → isL x = true → d' ≤ m)
  | [], ρ, x, d, h => ⟨d, h, Nat.le_refl _, fun e => by cases e⟩
  | .var i :: os, ρ, x, d, h => by
    obtain ⟨d1, h1, l1, k1⟩ := slot_lower (i := i) (m := m) h
    obtain ⟨d2, h2, l2, k2⟩ := slot_lowerO (m := m) (os := os) h1
    refine ⟨d2, h2, Nat.le_trans l2 l1, fun e hx => ?_⟩
    rcases List.mem_cons.mp e with e | e
    · cases e
      exact Nat.le_trans l2 (k1 rfl hx)
    · exact k2 e hx
  | .val a :: os, ρ, x, d, h => by
    obtain ⟨d2, h2, l2, k2⟩ := slot_lowerO (m := m) (os := os) h
    refine ⟨d2, h2, l2, fun e hx => ?_⟩
    rcases List.mem_cons.mp e with e | e
    · cases e
    · exact k2 e hx
/-- v is x, owned at most to the depth m -/
def Low (K : PySem.W.Frag) (L : Addr → Prop) (H : Hp) (m : Nat) (v : V) (x : PV) : Prop := ∃ d O, d ≤ m ∧ Own K L H d x v O
theorem Low.bor {L : Addr → Prop} {m : Nat} {v : V} {x : PV} (h : Low K L H m v x) : Bor K L H v x := by obtain ⟨d, O, _, h⟩ := h; exact ⟨d, O, h⟩
theorem Low.zero {L : Addr → Prop} {v : V} {x : PV} (h : Low K L H 0 v x) : Own K L H 0 x v [] := by
  obtain ⟨d, O, e, h⟩ := h
  obtain rfl := Nat.le_zero.mp e
  have e2 := Own.zero h
  subst e2
  exact h
theorem Own.frozen {L L' : Addr → Prop} {d : Nat} {x : PV} {v : V} {O : List Addr} (h : Own K L H d x v O) (nd : O.Nodup) (hl : ∀ b, H b ≠ none → ¬ L b → ¬ L' b) (ho : ∀ b ∈ O, ¬ L' b) : Own K L' H 0 x v [] := by
  obtain ⟨O', sub, w⟩ := Own.weaken x d v O 0 (Nat.zero_le _) nd h
  have w' := w L' hl fun b hb _ => ho b hb
  have e := Own.zero w'
  subst e
  exact w'
/-- operands, when their operation is done: names lowered to m, values that waited let go -/
theorem R.settle (m : Nat) {os : List Opd} {vs : List V} {xs : List PV} (r : R K fx σ H ρ O (T ++ F)) (h : relL (relO K σ) (fun x => x ∈ O ++ (T ++ F)) H os vs T) (hv : valsO ρ os = some xs) :
    ∃ O', O'.Sublist O ∧ R K fx σ H (Mi.lowerO m os ρ) O' F ∧ Paired (Low K (fun x => x ∈ O' ++ F) H m) vs xs := by
  obtain ⟨O', s1, r1⟩ := R.lowerO m os r
  have r2 := r1.drop
  refine ⟨O', s1, r2, ?_⟩
  have nd := r.nd
  have gone : ∀ b ∈ T, ¬ (b ∈ O' ++ F) := fun b hb z => by
    have n1 := List.nodup_append.mp nd
    have n2 := List.nodup_append.mp n1.2.1
    rcases List.mem_append.mp z with z | z
    · exact n1.2.2 b (s1.subset z) b (List.mem_append_left _ hb) rfl
    · exact n2.2.2 b hb b z rfl
  have less : ∀ b, H b ≠ none → ¬ (b ∈ O ++ (T ++ F)) → ¬ (b ∈ O' ++ F) := fun b _ nl z => nl (by
    simp only [List.mem_append] at z ⊢
    exact z.imp (fun z => s1.subset z) .inr)
  -- each operand
  have go : ∀ (os' : List Opd) (vs : List V) (xs : List PV) (T' : List Addr), (∀ o ∈ os', o ∈ os) → T'.Sublist T → relL (relO K σ) (fun x => x ∈ O ++ (T ++ F)) H os' vs T' → valsO ρ os' = some xs → Paired (Low K (fun x => x ∈ O' ++ F) H m) vs xs := by
    intro os'
    induction os' with
    | nil =>
      intro vs xs T' _ _ h hv
      have e : some [] = some xs := hv
      cases e
      rw [h.1]; exact .nil
    | cons o os' ih =>
      intro vs xs T' hm hs h hv
      obtain ⟨b, br, T1, T2, rfl, rfl, h1, h2⟩ := h
      have hv' : ((valO ρ o).bind fun x => (valsO ρ os').map (x :: ·)) = some xs := hv
      obtain ⟨x, e1, e2⟩ := Option.bind_eq_some_iff.mp hv'
      obtain ⟨xr, e3, rfl⟩ := Option.map_eq_some_iff.mp e2
      refine .cons ?_ (ih br xr T2 (fun q hq => hm q (List.mem_cons_of_mem _ hq)) ((List.sublist_append_right T1 T2).trans hs) h2 e3)
      cases o with
      | var i =>
        obtain ⟨g1, g2⟩ := h1
        obtain ⟨⟨y, d⟩, e4, e5⟩ := Option.map_eq_some_iff.mp e1
        have e5' : y = x := e5
        subst e5'
        obtain ⟨d', k1, k2, k3⟩ := slot_lowerO (m := m) (os := os) e4
        obtain ⟨A, Oi, B, rfl, f, _⟩ := r2.chg (slot_lt k1)
        obtain ⟨w, hw, hO⟩ := f _ (slot_at k1)
        rw [g1] at hw
        cases hw
        by_cases hl : isL y = true
        · exact ⟨d', Oi, k3 (hm _ List.mem_cons_self) hl, hO⟩
        · exact ⟨0, [], Nat.zero_le _, (Own.scalar (by simpa using hl) hO).2 0⟩
      | val a =>
        have e4 : some a.1 = some x := e1
        cases e4
        have nt : T1.Nodup := ((List.sublist_append_left T1 T2).trans hs).nodup (List.nodup_append.mp (List.nodup_append.mp nd).2.1).1
        exact ⟨0, [], Nat.zero_le _, Own.frozen h1 nt less fun b hb => gone b (hs.subset (List.mem_append_left _ hb))⟩
  exact go os vs xs T (fun _ h => h) (List.Sublist.refl _) h hv

/-! ### new objects -/
theorem ext_new {p : Addr} {o : HO} {N : List Addr} (hp : H p = none) (hN : ∀ b ∈ N, b ∈ O ∨ b = p) : Ext O H (upd H p o) N where
  keep := fun b u e _ => by rw [upd_ne (ne_of_none e hp)]; exact e
  new := fun b hb => (hN b hb).imp id fun e => by rw [e]; exact hp
  dom := fun b h => by
    by_cases e : b = p
    · rw [e, upd_same]; simp
    · rw [upd_ne e]; exact h
  tups := fun b u e => by rw [upd_ne (ne_of_none e hp)]; exact e
  frzs := fun b o u e => by rw [upd_ne (ne_of_none e hp)]; exact e
theorem stay_new {L L' : Addr → Prop} {p : Addr} {o : HO} {A : List Addr} (hp : H p = none) (hL : ∀ b, L' b → L b ∨ b = p) : Stay L L' H (upd H p o) A where
  ht := fun b u e => by rw [upd_ne (ne_of_none e hp)]; exact e
  hf := fun b o u e => by rw [upd_ne (ne_of_none e hp)]; exact e
  k := fun b u e _ => by rw [upd_ne (ne_of_none e hp)]; exact e
  n := fun b hb nl z => (hL b z).elim nl fun e => hb (e ▸ hp)
/-- a new object that is no list -/
theorem R.newT {p : Addr} {o : HO} (r : R K fx σ H ρ O F) (hp : H p = none) : R K fx σ (upd H p o) ρ O F :=
  ⟨r.fx, r.nd, RS.stay r.rs (stay_new hp fun _ h => .inl h), fun b hb => by
    have q := r.tr b hb
    have ne : b ≠ p := fun e => q.there (by rw [e]; exact hp)
    rw [upd_ne ne]; exact q⟩
/-- a new list or dict, owned by the value that comes -/
theorem R.newL {p : Addr} {o : HO} (r : R K fx σ H ρ O F) (hp : H p = none) (ho : IsLD (some o)) : R K fx σ (upd H p o) ρ O ([p] ++ F) := by
  have np : ∀ b ∈ O ++ F, b ≠ p := fun b hb e => (r.ld b hb).there (by rw [e]; exact hp)
  refine ⟨r.fx, ?_, RS.stay r.rs (stay_new hp fun b h => ?_), fun b hb => ?_⟩
  · have nd := r.nd
    rw [List.nodup_append] at nd ⊢
    refine ⟨nd.1, List.nodup_cons.mpr ⟨fun h => np p (List.mem_append_right _ h) rfl, nd.2.1⟩, fun a ha b hb => ?_⟩
    rcases List.mem_append.mp hb with hb | hb
    · rw [List.mem_singleton.mp hb]
      exact np a (List.mem_append_left _ ha)
    · exact nd.2.2 a ha b hb
  · simp only [List.mem_append, List.mem_singleton] at h ⊢
    rcases h with h | h | h
    · exact .inl (.inl h)
    · exact .inr h
    · exact .inl (.inr h)
  · rcases List.mem_append.mp hb with hb | hb
    · rw [List.mem_singleton.mp hb, upd_same]; exact ho
    · have q := r.tr b hb
      have ne : b ≠ p := fun e => q.there (by rw [e]; exact hp)
      rw [upd_ne ne]; exact q
end
end Mi
end
section
set_option Elab.async false
set_option linter.all false
set_option maxRecDepth 100000
set_option maxHeartbeats 2000000
/-! S8: functions that lay a new list, tuple or text. -/
namespace Mi
open PySem PySem.Spec PyProof.Rows L2
/-- what a new value is: a new list or tuple of things that nobody owns, or nothing new -/
def NewV (K : PySem.W.Frag) (L : Addr → Prop) (H : Hp) (Z : PV) (z : V) (H' : Hp) : Prop :=
  (∃ p vs xs, Z = .lst xs ∧ z = .ref p ∧ H p = none ∧ H' = upd H p (.lst vs) ∧ Owns K L H 0 xs vs []) ∨
  (∃ p vs xs o, Z = .tup xs ∧ z = .ref p ∧ H p = none ∧ ExT o ∧ H' = upd H p (.frz o (.tup vs)) ∧ Owns K L H 0 xs vs []) ∨
  (isL Z = false ∧ H' = H ∧ Own K L H 0 Z z [])
section
variable {K : PySem.W.Frag} {fx : List (Nat × V)} {σ : L2.St} {H H' : Hp} {ρ : Rho} {O O0 F T : List Addr}
theorem R.newV {Z : PV} {z : V} (r : R K fx σ H ρ O F) (h : NewV K (fun x => x ∈ O ++ F) H Z z H') (hO : ∀ b ∈ O, b ∈ O0) :
    ∃ T, R K fx σ H' ρ O (T ++ F) ∧ Own K (fun x => x ∈ O ++ (T ++ F)) H' (if isL Z then 1 else 0) Z z T ∧ Ext O0 H H' (O ++ T) := by
  rcases h with ⟨p, vs, xs, rfl, rfl, hp, rfl, ho⟩ | ⟨p, vs, xs, ob, rfl, rfl, hp, hx, rfl, ho⟩ | ⟨hl, rfl, ho⟩
  · refine ⟨[p], r.newL hp (.inl ⟨_, rfl⟩), ⟨p, vs, [], rfl, rfl, upd_same, ho.stay (stay_new hp fun b hb => ?_)⟩, ext_new hp fun b hb => ?_⟩
    · simp only [List.mem_append, List.mem_singleton] at hb ⊢
      rcases hb with h | h | h
      · exact .inl (.inl h)
      · exact .inr h
      · exact .inl (.inr h)
    · exact (List.mem_append.mp hb).imp (hO b) List.mem_singleton.mp
  · refine ⟨[], r.newT hp, ⟨rfl, p, vs, rfl, ⟨ob, upd_same, hx⟩, ho.stay (stay_new hp fun b hb => .inl ?_)⟩, ext_new hp fun b hb => .inl ?_⟩
    · simpa using hb
    · exact hO b (by simpa using hb)
  · refine ⟨[], by simpa using r, ?_, Ext.refl fun b hb => hO b (by simpa using hb)⟩
    rw [hl]
    have e : (fun x => x ∈ O ++ ([] ++ F)) = (fun x => x ∈ O ++ F) := by funext x; simp
    rw [e]; exact ho
variable {L : Addr → Prop}
theorem Low.lst {v : V} {xs : List PV} (h : Low K L H 1 v (.lst xs)) : ∃ a vs, v = .ref a ∧ H a = some (.lst vs) ∧ Owns K L H 0 xs vs [] := by
  obtain ⟨d, O, hd, h⟩ := h
  match d, hd, h with
  | 0, _, h => obtain ⟨_, a, vs, e, _, r, o⟩ := h; exact ⟨a, vs, e, r, o⟩
  | 1, _, h =>
    obtain ⟨a, vs, O', e, _, r, o⟩ := h
    have e2 := Owns.zero o
    subst e2
    exact ⟨a, vs, e, r, o⟩
theorem owns_len {d : Nat} : ∀ {xs : List PV} {vs : List V} {O : List Addr}, Owns K L H d xs vs O → vs.length = xs.length
  | [], _, _, h => by rw [h.1]; rfl
  | x :: xs, _, _, h => by
    obtain ⟨v, vr, O1, O2, rfl, rfl, h1, h2⟩ := h
    simp [owns_len h2]
theorem owns_app : ∀ {xs ys : List PV} {vs ws : List V}, Owns K L H 0 xs vs [] → Owns K L H 0 ys ws [] → Owns K L H 0 (xs ++ ys) (vs ++ ws) []
  | [], _, _, _, h, k => by rw [h.1]; exact k
  | x :: xs, ys, _, ws, h, k => by
    obtain ⟨v, vr, O1, O2, rfl, e, h1, h2⟩ := h
    obtain ⟨rfl, rfl⟩ := List.append_eq_nil_iff.mp e.symm
    exact ⟨v, vr ++ ws, [], [], rfl, rfl, h1, owns_app h2 k⟩
/-- each alone -/
theorem owns_iff : ∀ {xs : List PV} {vs : List V}, Owns K L H 0 xs vs [] ↔ Paired (fun v x => Own K L H 0 x v []) vs xs
  | [], vs => ⟨fun h => by rw [h.1]; exact .nil, fun h => by cases h; exact ⟨rfl, rfl⟩⟩
  | x :: xs, vs => ⟨fun h => by
      obtain ⟨v, vr, O1, O2, rfl, e, h1, h2⟩ := h
      obtain ⟨rfl, rfl⟩ := List.append_eq_nil_iff.mp e.symm
      exact .cons h1 (owns_iff.mp h2), fun h => by
      cases h with
      | cons a b => exact ⟨_, _, [], [], rfl, rfl, a, owns_iff.mpr b⟩⟩
theorem pair_rep {α β : Type} {P : α → β → Prop} {vs : List α} {xs : List β} (h : Paired P vs xs) : ∀ n, Paired P (List.replicate n vs).flatten (List.replicate n xs).flatten
  | 0 => .nil
  | n + 1 => by
    rw [List.replicate_succ, List.replicate_succ, List.flatten_cons, List.flatten_cons]
    exact pair_app h (pair_rep h n)
where
  pair_app {α β : Type} {P : α → β → Prop} : ∀ {vs ws : List α} {xs ys : List β}, Paired P vs xs → Paired P ws ys → Paired P (vs ++ ws) (xs ++ ys)
  | _, _, _, _, .nil, k => k
  | _, _, _, _, .cons a b, k => .cons a (pair_app b k)
theorem pair_take {α β : Type} {P : α → β → Prop} : ∀ (n : Nat) {vs : List α} {xs : List β}, Paired P vs xs → Paired P (vs.take n) (xs.take n)
  | 0, _, _, _ => .nil
  | _ + 1, _, _, .nil => .nil
  | n + 1, _, _, .cons a b => .cons a (pair_take n b)
theorem pair_drop {α β : Type} {P : α → β → Prop} : ∀ (n : Nat) {vs : List α} {xs : List β}, Paired P vs xs → Paired P (vs.drop n) (xs.drop n)
  | 0, _, _, h => h
  | _ + 1, _, _, .nil => .nil
  | n + 1, _, _, .cons a b => pair_drop n b
theorem pair_rev {α β : Type} {P : α → β → Prop} : ∀ {vs : List α} {xs : List β}, Paired P vs xs → Paired P vs.reverse xs.reverse
  | _, _, .nil => .nil
  | _, _, .cons a b => by
    rw [List.reverse_cons, List.reverse_cons]
    exact pair_rep.pair_app (pair_rev b) (.cons a .nil)
theorem sIx_eq (n d : Nat) (o : Option Int) : Mi.sIx n d o = HT.sIx n d o := by cases o <;> rfl

theorem owns_ints : ∀ (ns : List Int), Owns K L H 0 (ns.map PV.int) (ns.map V.int) []
  | [] => ⟨rfl, rfl⟩
  | n :: ns => ⟨_, _, [], [], rfl, rfl, ⟨rfl, rfl⟩, owns_ints ns⟩
theorem upto_eq : ∀ (n : Nat) (lo : Int), upto lo n = (List.range n).map fun i => PV.int (lo + (i : Nat))
  | 0, _ => rfl
  | n + 1, lo => by
    rw [List.range_succ_eq_map, List.map_cons, List.map_map]
    unfold upto
    rw [upto_eq n (lo + 1)]
    congr 1
    · simp
    · refine List.map_congr_left fun i _ => ?_
      show PV.int (lo + 1 + (i : Nat)) = PV.int (lo + ((i + 1 : Nat) : Int))
      congr 1; omega
theorem owns_upto (a b : Int) : Owns K L H 0 (upto a (b - a).toNat) (rgV a b) [] := by
  rw [upto_eq]
  have e1 : (List.range (b - a).toNat).map (fun i => PV.int (a + (i : Nat))) = ((List.range (b - a).toNat).map fun i => a + ((i : Nat) : Int)).map PV.int := by rw [List.map_map]; rfl
  have e2 : rgV a b = ((List.range (b - a).toNat).map fun i => a + ((i : Nat) : Int)).map V.int := by unfold rgV; rw [List.map_map]; rfl
  rw [e1, e2]
  exact owns_ints _
/-- by values -/
def rA (K : PySem.W.Frag) (f : Fa) : List V → Hp → VK → Prop := fun vs H Q => ∃ L Xs Z, Paired (Low K L H 1) vs Xs ∧ fa f Xs = some Z ∧ ∀ z H', NewV K L H Z z H' → Q z H'
def rA2 (K : PySem.W.Frag) (f : Fa) : R2 := fun x y H Q => rA K f [x, y] H Q
theorem lows_one {m : Nat} {xs : List V} {Y : PV} (p : Paired (Low K L H m) xs [Y]) : ∃ v, xs = [v] ∧ Low K L H m v Y := by
  cases p with
  | cons r t => cases t; exact ⟨_, rfl, r⟩
theorem lows_two {m : Nat} {xs : List V} {Y Z : PV} (p : Paired (Low K L H m) xs [Y, Z]) : ∃ v w, xs = [v, w] ∧ Low K L H m v Y ∧ Low K L H m w Z := by
  cases p with
  | cons r t => obtain ⟨w, rfl, h⟩ := lows_one t; exact ⟨_, w, rfl, r, h⟩
theorem fa_one {f : Fa} {Xs : List PV} {Z : PV} (h2 : ∀ x y, fa2 f x y = none) (e : fa f Xs = some Z) : ∃ A, Xs = [A] ∧ fa1 f A = some Z := by
  match Xs, e with
  | [A], e => exact ⟨A, rfl, e⟩
  | [A, B], e =>
    have e' : fa2 f A B = some Z := e
    rw [h2] at e'; cases e'
theorem fa_two {f : Fa} {Xs : List PV} {Z : PV} (h2 : ∀ x, fa1 f x = none) (e : fa f Xs = some Z) : ∃ A B, Xs = [A, B] ∧ fa2 f A B = some Z := by
  match Xs, e with
  | [A], e =>
    have e' : fa1 f A = some Z := e
    rw [h2] at e'; cases e'
  | [A, B], e => exact ⟨A, B, rfl, e⟩
/-- a list's or tuple's items -/
theorem Low.elems {v : V} {A : PV} {xs : List PV} (h : Low K L H 1 v A) (e : elems A = some xs) : (∃ a vs, A = .lst xs ∧ v = .ref a ∧ H a = some (.lst vs) ∧ Owns K L H 0 xs vs []) ∨ ∃ a vs, A = .tup xs ∧ v = .ref a ∧ SqX H a vs ∧ Owns K L H 0 xs vs [] := by
  cases A <;> first | (cases e; done) | skip
  · cases e
    obtain ⟨a, vs, rfl, hs, _, o⟩ := h.bor.tup
    exact .inr ⟨a, vs, rfl, rfl, hs, o⟩
  · cases e
    obtain ⟨a, vs, rfl, hs, o⟩ := h.lst
    exact .inl ⟨a, vs, rfl, rfl, hs, o⟩
theorem new_lst {xs : List PV} {vs : List V} (o : Owns K L H 0 xs vs []) {Q : VK} (q : ∀ z H', NewV K L H (.lst xs) z H' → Q z H') : ∀ p, H p = none → Q (.ref p) (upd H p (.lst vs)) :=
  fun p hp => q _ _ (.inl ⟨p, vs, xs, rfl, rfl, hp, rfl, o⟩)
theorem new_tup {xs : List PV} {vs : List V} (o : Owns K L H 0 xs vs []) {Q : VK} (q : ∀ z H', NewV K L H (.tup xs) z H' → Q z H') : NewX H vs Q :=
  fun p ob hp hx => q _ _ (.inr (.inl ⟨p, vs, xs, ob, rfl, rfl, hp, hx, rfl, o⟩))
theorem same_tup {a : Addr} {xs : List PV} {vs : List V} (hs : SqX H a vs) (o : Owns K L H 0 xs vs []) {Q : VK} (q : ∀ z H', NewV K L H (.tup xs) z H' → Q z H') : Q (.ref a) H :=
  q _ _ (.inr (.inr ⟨rfl, rfl, rfl, a, vs, rfl, hs, o⟩))
end
section
variable {X : Cx}
theorem fa_toL : CallR X (.type "list") (rA X.K .toL) := CallR.imp call_list_of fun vs H Q ⟨L, Xs, Z, p, e, q⟩ => by
  obtain ⟨A, rfl, e⟩ := fa_one (f := .toL) (fun _ _ => rfl) e
  obtain ⟨v, rfl, h⟩ := lows_one p
  have e' : (elems A).map PV.lst = some Z := e
  obtain ⟨xs, e1, rfl⟩ := Option.map_eq_some_iff.mp e'
  rcases h.elems e1 with ⟨a, vs, _, rfl, hs, o⟩ | ⟨a, vs, _, rfl, hs, o⟩
  · exact ⟨a, vs, rfl, .inl (SqL.of hs), new_lst o q⟩
  · exact ⟨a, vs, rfl, .inr hs.toT, new_lst o q⟩
theorem fa_toT : CallR X (.type "tuple") (rA X.K .toT) := CallR.imp call_tupX fun vs H Q ⟨L, Xs, Z, p, e, q⟩ => by
  obtain ⟨A, rfl, e⟩ := fa_one (f := .toT) (fun _ _ => rfl) e
  obtain ⟨v, rfl, h⟩ := lows_one p
  have e' : (elems A).map PV.tup = some Z := e
  obtain ⟨xs, e1, rfl⟩ := Option.map_eq_some_iff.mp e'
  rcases h.elems e1 with ⟨a, vs, _, rfl, hs, o⟩ | ⟨a, vs, _, rfl, hs, o⟩
  · exact ⟨a, vs, rfl, .inl ⟨SqL.of hs, new_tup o q⟩⟩
  · exact ⟨a, vs, rfl, .inr ⟨hs.toT, same_tup hs o q⟩⟩
theorem fa_cat : OpR X (binaryOp .Add) (rA2 X.K .cat) := OpR.imp (OpR.or op_cat (OpR.or op_catX op_add_str)) fun x y H Q ⟨L, Xs, Z, p, e, q⟩ => by
  obtain ⟨A, B, rfl, e⟩ := fa_two (f := .cat) (fun _ => rfl) e
  obtain ⟨v, w, ev, h1, h2⟩ := lows_two p
  cases ev
  have e' : gCat A B = some Z := e
  unfold gCat at e'
  split at e'
  · obtain ⟨zs, e1, rfl⟩ := Option.map_eq_some_iff.mp e'
    unfold fit at e1
    split at e1
    · rename_i hl
      cases e1
      obtain ⟨a, vs, rfl, hs, o⟩ := h1.lst
      obtain ⟨b, ws, rfl, ht, o2⟩ := h2.lst
      refine .inl ⟨a, b, vs, ws, rfl, rfl, hs, ht, ?_, new_lst (owns_app o o2) q⟩
      rw [owns_len o, owns_len o2]
      simpa using hl
    · cases e1
  · rename_i xs ys _
    obtain ⟨zs, e1, rfl⟩ := Option.map_eq_some_iff.mp e'
    unfold fit at e1
    split at e1
    · rename_i hl
      cases e1
      obtain ⟨a, vs, rfl, hs, _, o⟩ := h1.bor.tup
      obtain ⟨b, ws, rfl, ht, _, o2⟩ := h2.bor.tup
      have o3 := owns_app o o2
      refine .inr (.inl ⟨a, b, vs, ws, rfl, rfl, hs.toT, ht.toT, ?_, fun e => ?_, fun _ e => ?_, fun _ _ => new_tup o3 q⟩)
      · rw [owns_len o, owns_len o2]
        simpa using hl
      · subst e
        have ex : xs = [] := List.length_eq_zero_iff.mp (owns_len o).symm
        subst ex
        exact same_tup ht o3 q
      · subst e
        have ex : ys = [] := List.length_eq_zero_iff.mp (owns_len o2).symm
        subst ex
        exact same_tup hs (by simpa using o3) q
    · cases e1
  · split at e'
    · rename_i hl
      cases e'
      exact .inr (.inr ⟨_, _, h1.bor.str, h2.bor.str, hl, q _ _ (.inr (.inr ⟨rfl, rfl, ⟨rfl, rfl⟩⟩))⟩)
    · cases e'
  · cases e'
theorem wide_of {i : Int} (h : wide i = true) : -(2 ^ 62) ≤ i ∧ i < 2 ^ 62 := by
  unfold wide at h
  rw [Bool.and_eq_true, decide_eq_true_eq, decide_eq_true_eq] at h
  exact h
/-- a list or tuple * int -/
theorem fa_rep : OpR X (binaryOp .Mult) (rA2 X.K .rep) := OpR.imp (OpR.or op_rep (OpR.or op_repX op_rep1)) fun x y H Q ⟨L, Xs, Z, p, e, q⟩ => by
  obtain ⟨A, B, rfl, e⟩ := fa_two (f := .rep) (fun _ => rfl) e
  obtain ⟨v, w, ev, h1, h2⟩ := lows_two p
  cases ev
  have e : gRep A B = some Z := e
  unfold gRep at e
  split at e
  · split at e
    · rename_i hc
      cases e
      rw [Bool.and_eq_true, decide_eq_true_eq] at hc
      have hw := wide_of hc.1
      obtain ⟨a, vs, rfl, hs, o⟩ := h1.lst
      refine .inl ⟨a, _, vs, rfl, h2.bor.int, hs, by omega, by omega, by rw [owns_len o]; exact hc.2, new_lst (owns_iff.mpr (pair_rep (owns_iff.mp o) _)) q⟩
    · cases e
  · split at e
    · rename_i hk
      cases e
      obtain ⟨a, vs, rfl, hs, _, o⟩ := h1.bor.tup
      exact .inr (.inr ⟨a, vs, rfl, by rw [h2.bor.int, hk], hs.toT, same_tup hs o q⟩)
    · split at e
      · rename_i hc
        cases e
        simp only [Bool.and_eq_true, decide_eq_true_eq, Bool.not_eq_true'] at hc
        obtain ⟨⟨⟨c1, c2⟩, c3⟩, c4⟩ := hc
        obtain ⟨a, vs, rfl, hs, _, o⟩ := h1.bor.tup
        refine .inr (.inl ⟨a, _, vs, rfl, h2.bor.int, hs.toT, fun z => ?_, c2, c3, by rw [owns_len o]; exact c4, new_tup (owns_iff.mpr (pair_rep (owns_iff.mp o) _)) q⟩)
        have hl := owns_len o
        rw [z] at hl
        rw [List.isEmpty_eq_false_iff] at c1
        exact c1 (List.length_eq_zero_iff.mp hl.symm)
      · cases e
  · cases e
/-- slices -/
theorem fa_slice : SlR X (fun x lo hi H Q => ∃ L A Z, Low X.K L H 1 x A ∧ fslice A lo hi = some Z ∧ ∀ z H', NewV X.K L H Z z H' → Q z H') := by
  have base := SlR.or (X := X) sl_list sl_tupX
  intro pins s σ H x v vl vu lo hi sl Q I rx hs pl pu h
  refine base pins s σ H x v vl vu lo hi sl Q I rx hs pl pu ?_
  obtain ⟨L, A, Z, h1, e, q⟩ := h
  have cutEq : ∀ {xs : List PV} {vs : List V}, Owns X.K L H 0 xs vs [] → Owns X.K L H 0 (cut xs lo hi) (cutV vs lo hi) [] := fun {xs vs} o => by
    unfold cut cutV
    rw [owns_len o, sIx_eq, sIx_eq]
    exact owns_iff.mpr (pair_take _ (pair_drop _ (owns_iff.mp o)))
  unfold fslice at e
  split at e
  · cases e
    obtain ⟨a, vs, rfl, hs, o⟩ := h1.lst
    exact .inl ⟨a, vs, rfl, SqL.of hs, new_lst (cutEq o) q⟩
  · rename_i xs
    cases e
    obtain ⟨a, vs, rfl, hs, _, o⟩ := h1.bor.tup
    refine .inr ⟨a, vs, rfl, hs.toT, fun hw => ?_, fun _ => new_tup (cutEq o) q⟩
    have e2 : cut xs lo hi = xs := by
      unfold cut
      rw [← owns_len o, sIx_eq, sIx_eq, hw.1, hw.2, List.drop_zero, Nat.sub_zero, List.take_of_length_le (Nat.le_of_eq (owns_len o).symm)]
    rw [e2] at q
    exact same_tup hs o q
  · cases e
end
end Mi
end
section
set_option Elab.async false
set_option linter.all false
set_option maxRecDepth 100000
set_option maxHeartbeats 2000000
/-! S9: evaluations in a row; how an operation ends. -/
namespace Mi
open PySem PySem.Spec PyProof.Rows L2
section
variable {K : PySem.W.Frag} {fx : List (Nat × V)} {σ : L2.St} {H H1 H2 : Hp} {ρ ρ1 ρ2 : Rho} {O O1 O2 F T T1 T2 : List Addr}
variable {XR : XRel} {W : WX} {α β γ δ : Type} {rel : Rel α β} {rel' : Rel γ δ}
theorem R.perm {F' : List Addr} (r : R K fx σ H ρ O F) (p : F.Perm F') : R K fx σ H ρ O F' := by
  refine ⟨r.fx, ((List.Perm.refl O).append p).nodup_iff.mp r.nd, RS.stay r.rs (Stay.refl fun b _ nl z => nl ?_), fun b hb => r.tr b (p.mem_iff.mpr hb)⟩
  simp only [List.mem_append] at z ⊢
  exact z.imp id p.mem_iff.mpr
theorem Ext.trans2 (a : Ext O H H1 (O1 ++ T1)) (b : Ext O1 H1 H2 (O2 ++ T2)) : Ext O H H2 (O2 ++ (T1 ++ T2)) where
  keep := (a.trans b).keep
  new := fun c hc => by
    have hc' : c ∈ O2 ++ T2 ∨ c ∈ T1 := by
      simp only [List.mem_append] at hc ⊢
      rcases hc with h | h | h
      · exact .inl (.inl h)
      · exact .inr h
      · exact .inl (.inr h)
    rcases hc' with h | h
    · exact (a.trans b).new c h
    · exact a.new c (List.mem_append_right _ h)
  dom := (a.trans b).dom
  tups := (a.trans b).tups
  frzs := (a.trans b).frzs
/-- first this, from a state further on, then that -/
theorem Tm.seqS {o : Out α} {f : α → Rho → Out γ} {Q : δ → Hp → Prop} (h : Tm K fx XR W rel' (o.bind f) σ H O F Q) (e : Ext O H H1 (O1 ++ T)) :
    Tm K fx XR W rel o σ H1 O1 (T ++ F) (fun b H2 => ∃ a ρ2 O2 T2, o = .ok a ρ2 ∧ R K fx σ H2 ρ2 O2 (T2 ++ (T ++ F)) ∧ rel (fun x => x ∈ O2 ++ (T2 ++ (T ++ F))) H2 a b T2 ∧ Ext O1 H1 H2 (O2 ++ T2) ∧ Tm K fx XR W rel' (f a ρ2) σ H O F Q) := by
  cases o with
  | ok a ρ => exact fun b H2 O2 T2 r q e2 => ⟨a, ρ, O2, T2, rfl, r, q, e2, h⟩
  | ex c xs ρ => exact fun cls d H' O' r e2 x => h cls d H' O' r.drop (e.trans e2) x
  | stuck => exact h
/-- .. from the state itself -/
theorem Tm.seq0 {o : Out α} {f : α → Rho → Out γ} {Q : δ → Hp → Prop} (h : Tm K fx XR W rel' (o.bind f) σ H O F Q) :
    Tm K fx XR W rel o σ H O F (fun b H2 => ∃ a ρ2 O2 T2, o = .ok a ρ2 ∧ R K fx σ H2 ρ2 O2 (T2 ++ F) ∧ rel (fun x => x ∈ O2 ++ (T2 ++ F)) H2 a b T2 ∧ Ext O H H2 (O2 ++ T2) ∧ Tm K fx XR W rel' (f a ρ2) σ H O F Q) := by
  cases o with
  | ok a ρ => exact fun b H2 O2 T2 r q e2 => ⟨a, ρ, O2, T2, rfl, r, q, e2, h⟩
  | ex c xs ρ => exact h
  | stuck => exact h
theorem Tm.ok {a : α} {Q : β → Hp → Prop} (h : Tm K fx XR W rel (.ok a ρ) σ H O F Q) : ∀ b H' O' T, R K fx σ H' ρ O' (T ++ F) → rel (fun x => x ∈ O' ++ (T ++ F)) H' a b T → Ext O H H' (O' ++ T) → Q b H' := h
theorem rel_mem {L L' : Addr → Prop} {a : α} {b : β} (ok : RelOk rel) (h : rel L H a b T) (e : ∀ x, L' x → L x) : rel L' H a b T := ok.stay _ _ _ _ _ _ _ h (Stay.refl fun _ _ nl z => nl (e _ z))
/-- one, then the others -/
theorem Tm.cons (ok : RelOk rel) {o : Out α} {f : Rho → Out (List α)} {Q : List β → Hp → Prop} (h : Tm K fx XR W (relL rel) (o.bind fun a ρ => (f ρ).bind fun as ρ => .ok (a :: as) ρ) σ H O F Q) :
    Tm K fx XR W rel o σ H O F (fun b H1 => ∃ ρ1 O1 F1, R K fx σ H1 ρ1 O1 F1 ∧ Tm K fx XR W (relL rel) (f ρ1) σ H1 O1 F1 (fun bs H2 => Q (b :: bs) H2)) := by
  refine Tm.mono (Tm.seq0 (rel := rel) h) fun b H1 ⟨a, ρ1, O1, T1, e1, r1, q1, x1, h1⟩ => ⟨ρ1, O1, T1 ++ F, r1, ?_⟩
  refine Tm.mono (Tm.seqS (rel := relL rel) h1 x1) fun bs H2 ⟨as, ρ2, O2, T2, e2, r2, q2, x2, h2⟩ => ?_
  have pm : (T2 ++ (T1 ++ F)).Perm ((T1 ++ T2) ++ F) := by
    rw [List.append_assoc, ← List.append_assoc T2 T1 F, ← List.append_assoc T1 T2 F]
    exact List.perm_append_comm.append (List.Perm.refl F)
  refine h2 (b :: bs) H2 O2 (T1 ++ T2) (r2.perm pm) ⟨b, bs, T1, T2, rfl, rfl, ?_, ?_⟩ (x1.trans2 x2)
  · refine ok.stay _ _ _ _ _ _ _ q1 (Stay.mono ?_ fun _ z => z)
    have st := Stay.ext (ρ := ρ1) (T1 := T1) r1.nd x2 fun b hb => List.mem_append_left _ hb
    refine ⟨st.ht, st.hf, st.k, fun c hc nl z => st.n c hc nl ?_⟩
    simp only [List.mem_append] at z ⊢
    rcases z with z | (z | z) | z
    · exact .inl z
    · exact .inr (.inr (.inl z))
    · exact .inr (.inl z)
    · exact .inr (.inr (.inr z))
  · refine rel_mem (relL_ok ok) q2 fun c z => ?_
    simp only [List.mem_append] at z ⊢
    rcases z with z | (z | z) | z
    · exact .inl z
    · exact .inr (.inr (.inl z))
    · exact .inr (.inl z)
    · exact .inr (.inr (.inr z))
theorem Tm.nil {Q : List β → Hp → Prop} (r : R K fx σ H ρ O F) (h : Tm K fx XR W (relL rel) (.ok [] ρ) σ H O F Q) : Q [] H := h [] H O [] r ⟨rfl, rfl⟩ (Ext.refl fun b hb => by simpa using hb)

/-! ### ends -/
/-- operands that made a new list, tuple or text -/
theorem fin_A {Q : VK} {os : List Opd} {vs : List V} {f : Fa} (r : R K fx σ H1 ρ1 O1 (T ++ F)) (hv : relL (relO K σ) (fun x => x ∈ O1 ++ (T ++ F)) H1 os vs T) (e : Ext O H H1 (O1 ++ T))
    (h : Tm K fx XR W (relA K) (Mi.orStuck (valsO ρ1 os) fun xs => Mi.orStuck (fa f xs) fun x => .ok (x, if isL x then 1 else 0) (lowerO 1 os ρ1)) σ H O F Q) : rA K f vs H1 Q := by
  obtain ⟨xs, e1, h⟩ := Tm.orStuck h
  obtain ⟨x, e2, h⟩ := Tm.orStuck h
  obtain ⟨O', s1, r1, p⟩ := R.settle 1 r hv e1
  refine ⟨_, xs, x, p, e2, fun z H' hn => ?_⟩
  obtain ⟨T', r2, o2, x2⟩ := R.newV (O0 := O1) r1 hn fun b hb => s1.subset hb
  exact h z H' O' T' r2 o2 (e.trans x2)
/-- the value of a function that lays nothing and gives no list -/
theorem fin_F {Q : VK} {x : PV} {v : V} (hl : isL x = false) (r : R K fx σ H1 ρ1 O1 (T ++ F)) (e : Ext O H H1 (O1 ++ T)) (hv : Bor K (fun y => y ∈ O1 ++ (T ++ F)) H1 v x)
    (h : Tm K fx XR W (relA K) (.ok (x, 0) ρ1) σ H O F Q) : Q v H1 := by
  obtain ⟨d, O', ho⟩ := hv
  have h0 := (Own.scalar hl ho).2 0
  refine h v H1 O1 [] r.drop ?_ (e.sub fun b hb => by simp only [List.append_nil] at hb; exact List.mem_append_left _ hb)
  refine Own.stay h0 (Stay.refl fun b _ nl z => nl ?_)
  simp only [List.mem_append] at z ⊢
  rcases z with z | z | z
  · exact .inl z
  · cases z
  · exact .inr (.inr z)
/-- operands as they may be read -/
theorem bors_of (r : R K fx σ H1 ρ1 O1 F) : ∀ {os : List Opd} {vs : List V} {xs : List PV} {T : List Addr}, relL (relO K σ) (fun x => x ∈ O1 ++ F) H1 os vs T → valsO ρ1 os = some xs → Paired (Bor K (fun x => x ∈ O1 ++ F) H1) vs xs := by
  intro os
  induction os with
  | nil =>
    intro vs xs T h hv
    have e : some [] = some xs := hv
    cases e
    rw [h.1]; exact .nil
  | cons o os ih =>
    intro vs xs T h hv
    obtain ⟨b, br, T1, T2, rfl, rfl, h1, h2⟩ := h
    have hv' : ((valO ρ1 o).bind fun x => (valsO ρ1 os).map (x :: ·)) = some xs := hv
    obtain ⟨x, e1, e2⟩ := Option.bind_eq_some_iff.mp hv'
    obtain ⟨xr, e3, rfl⟩ := Option.map_eq_some_iff.mp e2
    refine .cons ?_ (ih h2 e3)
    cases o with
    | var i =>
      obtain ⟨g1, g2⟩ := h1
      obtain ⟨⟨y, d⟩, e4, e5⟩ := Option.map_eq_some_iff.mp e1
      have e5' : y = x := e5
      subst e5'
      obtain ⟨w, hw, hb⟩ := r.var e4
      rw [g1] at hw; cases hw
      exact hb
    | val a =>
      have e4 : some a.1 = some x := e1
      cases e4
      exact ⟨_, _, h1⟩
/-- the least depth -/
theorem minD_le : ∀ {as : List Arg} {a : Arg}, a ∈ as → isL a.1 = true → (minD as).getD 0 ≤ a.2
  | (x, d) :: r, a, h, hl => by
    unfold minD
    rcases List.mem_cons.mp h with rfl | h
    · rw [if_pos hl]
      split
      · exact Nat.min_le_left _ _
      · exact Nat.le_refl _
    · have ih := minD_le h hl
      split
      · split
        · rename_i e he; rw [he] at ih
          have ih' : e ≤ a.2 := ih
          exact Nat.le_trans (Nat.min_le_right _ _) ih'
        · rename_i he
          have : minD r ≠ none := minD_some h hl
          exact absurd he this
      · exact ih
where
  minD_some : ∀ {as : List Arg} {a : Arg}, a ∈ as → isL a.1 = true → minD as ≠ none
    | (x, d) :: r, a, h, hl => by
      unfold minD
      rcases List.mem_cons.mp h with rfl | h
      · rw [if_pos hl]; split <;> simp
      · have ih := minD_some h hl
        split
        · split <;> simp
        · exact ih
/-- values, each owned at least to the depth m, as the items of a list -/
theorem owns_of {L : Addr → Prop} {m : Nat} : ∀ {as : List Arg} {vs : List V} {T : List Addr}, relL (relA K) L H as vs T → T.Nodup → (∀ a ∈ as, isL a.1 = true → m ≤ a.2) →
    ∃ T', T'.Sublist T ∧ ∀ L' : Addr → Prop, (∀ b, H b ≠ none → ¬ L b → ¬ L' b) → (∀ b ∈ T, b ∉ T' → ¬ L' b) → Owns K L' H m (as.map (·.1)) vs T'
  | [], vs, T, h, _, _ => ⟨[], List.nil_sublist _, fun _ _ _ => ⟨h.1, rfl⟩⟩
  | a :: as, vs, T, h, nd, hm => by
    obtain ⟨b, br, T1, T2, rfl, rfl, h1, h2⟩ := h
    have n1 := (List.nodup_append.mp nd).1
    have n2 := (List.nodup_append.mp nd).2.1
    obtain ⟨T2', s2, w2⟩ := owns_of h2 n2 fun a ha => hm a (List.mem_cons_of_mem _ ha)
    have h1 : Own K L H a.2 a.1 b T1 := h1
    have one : ∃ T1', T1'.Sublist T1 ∧ ∀ L' : Addr → Prop, (∀ b, H b ≠ none → ¬ L b → ¬ L' b) → (∀ b ∈ T1, b ∉ T1' → ¬ L' b) → Own K L' H m a.1 b T1' := by
      by_cases hl : isL a.1 = true
      · exact Own.weaken a.1 a.2 b T1 m (hm a List.mem_cons_self hl) n1 h1
      · have hl' : isL a.1 = false := by simpa using hl
        obtain ⟨rfl, f⟩ := Own.scalar hl' h1
        exact ⟨[], List.nil_sublist _, fun L' g _ => Own.stay (f m) (Stay.refl g)⟩
    obtain ⟨T1', s1, w1⟩ := one
    refine ⟨T1' ++ T2', s1.append s2, fun L' hl ho => ⟨b, br, T1', T2', rfl, rfl, w1 L' hl fun c hc nc => ho c (List.mem_append_left _ hc) fun z => ?_, w2 L' hl fun c hc nc => ho c (List.mem_append_right _ hc) fun z => ?_⟩⟩
    · rcases List.mem_append.mp z with z | z
      · exact nc z
      · exact not_mem_of_nodup nd hc (s2.subset z)
    · rcases List.mem_append.mp z with z | z
      · exact not_mem_of_nodup nd (s1.subset z) hc
      · exact nc z
theorem relL_len {α β : Type} {rel : Rel α β} {L : Addr → Prop} : ∀ {as : List α} {bs : List β} {T : List Addr}, relL rel L H as bs T → bs.length = as.length
  | [], _, _, h => by rw [h.1]; rfl
  | a :: as, _, _, h => by
    obtain ⟨b, br, T1, T2, rfl, rfl, h1, h2⟩ := h
    simp [relL_len h2]
/-- what waits is let go but for T' -/
theorem R.part (r : R K fx σ H ρ O (T ++ F)) {T' : List Addr} (s : T'.Sublist T) : R K fx σ H ρ O (T' ++ F) := by
  refine ⟨r.fx, ?_, RS.stay r.rs (Stay.refl fun b _ nl z => nl ?_), fun b hb => r.tr b ?_⟩
  · exact List.Sublist.nodup ((List.Sublist.refl O).append (s.append (List.Sublist.refl F))) r.nd
  · simp only [List.mem_append] at z ⊢
    exact z.imp id fun z => z.imp (fun z => s.subset z) id
  · simp only [List.mem_append] at hb ⊢
    exact hb.imp (fun z => s.subset z) id
theorem part_gone (nd : (O ++ (T ++ F)).Nodup) {T' : List Addr} {b : Addr} (hb : b ∈ T) (nb : b ∉ T') : ¬ (b ∈ O ++ (T' ++ F)) := fun z => by
  have n1 := List.nodup_append.mp nd
  have n2 := List.nodup_append.mp n1.2.1
  simp only [List.mem_append] at z
  rcases z with z | z | z
  · exact n1.2.2 b z b (List.mem_append_left _ hb) rfl
  · exact nb z
  · exact n2.2.2 b hb b z rfl
theorem part_less {T' : List Addr} (s : T'.Sublist T) {b : Addr} (nl : ¬ (b ∈ O ++ (T ++ F))) : ¬ (b ∈ O ++ (T' ++ F)) := fun z => nl (by
  simp only [List.mem_append] at z ⊢
  exact z.imp id fun z => z.imp (fun z => s.subset z) id)
/-- a new object behind it -/
theorem Ext.plus {p : Addr} {o : HO} {N : List Addr} (e : Ext O H H1 (O1 ++ T)) (hp : H1 p = none) (hN : ∀ b ∈ N, b ∈ O1 ++ T ∨ b = p) : Ext O H (upd H1 p o) N where
  keep := fun b u g n => by
    have g' := e.keep b u g n
    rw [upd_ne (ne_of_none g' hp)]; exact g'
  new := fun b hb => (hN b hb).elim (e.new b) fun z => by
    subst z
    by_cases q : H b = none
    · exact .inr q
    · exact absurd hp (e.dom b q)
  dom := fun b h => by
    by_cases z : b = p
    · rw [z, upd_same]; simp
    · rw [upd_ne z]; exact e.dom b h
  tups := fun b u g => by rw [upd_ne (ne_of_none (e.tups b u g) hp)]; exact e.tups b u g
  frzs := fun b o u g => by rw [upd_ne (ne_of_none (e.frzs b o u g) hp)]; exact e.frzs b o u g
/-- a tuple of values -/
theorem fin_tup {Q : VK} {as : List Arg} {vs : List V} (r : R K fx σ H1 ρ1 O1 (T ++ F)) (hv : relL (relA K) (fun x => x ∈ O1 ++ (T ++ F)) H1 as vs T) (e : Ext O H H1 (O1 ++ T))
    (h : Tm K fx XR W (relA K) (.ok (.tup (as.map (·.1)), 0) ρ1) σ H O F Q) : NewX H1 vs Q := fun p ob hp hx => by
  have nd := r.nd
  obtain ⟨T', s, w⟩ := owns_of (m := 0) hv (List.nodup_append.mp (List.nodup_append.mp nd).2.1).1 fun _ _ _ => Nat.zero_le _
  have w' := w (fun x => x ∈ O1 ++ ([] ++ F)) (fun b _ nl => part_less (List.nil_sublist T) nl) fun b hb _ => part_gone nd hb (by simp)
  have e0 := Owns.zero w'
  subst e0
  have r' := (r.part (List.nil_sublist T)).newT (o := .frz ob (.tup vs)) hp
  refine h (.ref p) _ O1 [] r' ⟨rfl, p, vs, rfl, ⟨ob, upd_same, hx⟩, w'.stay (stay_new hp fun b hb => .inl hb)⟩ (e.plus hp fun b hb => .inl (List.mem_append_left _ (by simpa using hb)))
/-- a new list of values -/
theorem fin_lst {Q : VK} {as : List Arg} {vs : List V} (r : R K fx σ H1 ρ1 O1 (T ++ F)) (hv : relL (relA K) (fun x => x ∈ O1 ++ (T ++ F)) H1 as vs T) (e : Ext O H H1 (O1 ++ T))
    (h : Tm K fx XR W (relA K) (.ok (.lst (as.map (·.1)), freshD as) ρ1) σ H O F Q) : ∀ p, H1 p = none → Q (.ref p) (upd H1 p (.lst vs)) := fun p hp => by
  have nd := r.nd
  obtain ⟨T', s, w⟩ := owns_of (m := (minD as).getD 0) hv (List.nodup_append.mp (List.nodup_append.mp nd).2.1).1 fun a ha hl => minD_le ha hl
  have w' := w (fun x => x ∈ O1 ++ (T' ++ F)) (fun b _ nl => part_less s nl) fun b hb nb => part_gone nd hb nb
  have r' := (r.part s).newL (o := .lst vs) hp (.inl ⟨_, rfl⟩)
  refine h (.ref p) _ O1 (p :: T') r' ?_ (e.plus hp fun b hb => ?_)
  · show Own K _ _ (1 + (minD as).getD 0) _ _ _
    rw [Nat.add_comm]
    refine ⟨p, vs, T', rfl, rfl, upd_same, w'.stay (stay_new hp fun b hb => ?_)⟩
    simp only [List.mem_append, List.mem_cons, List.cons_append] at hb ⊢
    rcases hb with h | h | h | h
    · exact .inl (.inl h)
    · exact .inr h
    · exact .inl (.inr (.inl h))
    · exact .inl (.inr (.inr h))
  · simp only [List.mem_append, List.mem_cons] at hb ⊢
    rcases hb with h | h | h
    · exact .inl (.inl h)
    · exact .inr h
    · exact .inl (.inr (s.subset h))
end
end Mi
end
section
set_option Elab.async false
set_option linter.all false
set_option maxRecDepth 100000
set_option maxHeartbeats 2000000
/-! S10: expressions, part by part. -/
namespace Mi
open PySem PySem.Spec PyProof.Rows L2

/-! ### d[k], xs[i]: what comes is an item -/
section
/-- the items of a list, a tuple, a dict, each as P says -/
def Cont (K : PySem.W.Frag) (P : V → PV → Prop) (H : Hp) (v : V) : PV → Prop
  | .lst xs => ∃ a vs, v = .ref a ∧ H a = some (.lst vs) ∧ Paired P vs xs
  | .tup xs => ∃ a vs, v = .ref a ∧ SqT K H a vs ∧ Paired P vs xs
  | .dct kvs => ∃ a vs, v = .ref a ∧ Rd H a (.dK vs) ∧ Paired (fun (p : Key × V) (q : Key × PV) => p.1 = q.1 ∧ P p.2 q.2) vs kvs
  | _ => False
def rGet (K : PySem.W.Frag) : R2 := fun x y H Q => ∃ (L : Addr → Prop) (P : V → PV → Prop) (A B Z : PV), Cont K P H x A ∧ Bor K L H y B ∧ get1 A B = some Z ∧ ∀ z, P z Z → Q z H
theorem valP {P : V → PV → Prop} : ∀ {vs : List (Key × V)} {xs : List (Key × PV)} {k : Key} {z : PV}, Paired (fun (p : Key × V) (q : Key × PV) => p.1 = q.1 ∧ P p.2 q.2) vs xs → dget k xs = some z → ∃ v, valV vs k = some v ∧ P v z
  | _, _, _, _, .nil, e => by simp [dget] at e
  | _, _, k, z, .cons (a := p) (b := q) r t, e => by
    obtain ⟨k1, v1⟩ := p
    obtain ⟨k2, x2⟩ := q
    obtain ⟨ek, hb⟩ := r
    simp only at ek hb
    subst ek
    unfold dget at e
    by_cases hk : k1 = k
    · subst hk
      rw [if_pos rfl] at e
      cases e
      exact ⟨v1, valV_pos rfl, hb⟩
    · rw [if_neg hk] at e
      rw [valV_neg hk]
      exact valP t e
variable {X : Cx}
theorem ix_dictP (hu : X.A.units + 1 < cLine) : IxR X (fun x y H Q => ∃ a ms k z, x = .ref a ∧ Rd H a (.dK ms) ∧ y = kV k ∧ valV ms k = some z ∧ Q z H) := by
  intro value slice pins s σ H x y v u Q I rx ry h hs
  obtain ⟨a, ms, k, z, rfl, hr, rfl, hw, q⟩ := h
  have g : DGet H a (kV k) (some z) := .inl ⟨ms, k, hr, rfl, hw.symm⟩
  obtain rfl : v = Value.ref a := rx
  obtain ⟨_, _, vs, kv, o, es, ep, ho, hc, _⟩ := dk_rd I.hok hr
  have ht : s.TypeIs (.ref a) "dict" := ⟨o, ho, hc.1⟩
  exact tail_any ht slot_dict_getitem.lookup (d_getItem hu I g ry fun w' s' I' r' => ⟨z, H, I', r', q⟩) hs
theorem ok_getP (hu : X.A.units + 1 < cLine) : IxR X (rGet X.K) := IxR.imp (IxR.or ix_list (IxR.or ix_tup (ix_dictP hu))) fun x y H Q ⟨L, P, A, B, Z, hx, hy, e, q⟩ => by
  unfold get1 at e
  split at e
  · obtain ⟨a, vs, rfl, hr, p⟩ := hx
    obtain ⟨w, h1, h2⟩ := pair_atI p e
    exact .inl ⟨a, vs, _, w, rfl, hy.int, SqL.of hr, h1, q _ h2⟩
  · obtain ⟨a, vs, rfl, hr, p⟩ := hx
    obtain ⟨w, h1, h2⟩ := pair_atI p e
    exact .inr (.inl ⟨a, vs, _, w, rfl, hy.int, hr, h1, q _ h2⟩)
  · obtain ⟨k', e1, e2⟩ := Option.bind_eq_some_iff.mp e
    obtain ⟨a, vs, rfl, hr, p⟩ := hx
    obtain ⟨w, h1, h2⟩ := valP p e2
    exact .inr (.inr ⟨a, vs, k', w, rfl, hr, keyOf_kV hy e1, h1, q _ h2⟩)
  · cases e
variable {K : PySem.W.Frag} {L : Addr → Prop} {H : Hp}
theorem ownd_iff : ∀ {xs : List (Key × PV)} {vs : List (Key × V)}, Ownd K L H 0 xs vs [] → Paired (fun (p : Key × V) (q : Key × PV) => p.1 = q.1 ∧ Own K L H 0 q.2 p.2 []) vs xs
  | [], vs, h => by rw [h.1]; exact .nil
  | (k, x) :: xs, vs, h => by
    obtain ⟨v, vr, O1, O2, rfl, e, h1, h2⟩ := h
    obtain ⟨rfl, rfl⟩ := List.append_eq_nil_iff.mp e.symm
    exact .cons ⟨rfl, h1⟩ (ownd_iff h2)
/-- owned at most one deep: the items are nobody's -/
theorem Low.cont {v : V} {A B Z : PV} (h : Low K L H 1 v A) (e : get1 A B = some Z) : Cont K (fun v x => Own K L H 0 x v []) H v A := by
  unfold get1 at e
  split at e
  · obtain ⟨a, vs, rfl, hr, o⟩ := h.lst
    exact ⟨a, vs, rfl, hr, owns_iff.mp o⟩
  · obtain ⟨a, vs, rfl, hr, _, o⟩ := h.bor.tupT
    exact ⟨a, vs, rfl, hr, owns_iff.mp o⟩
  · obtain ⟨d, O, hd, h⟩ := h
    match d, hd, h with
    | 0, _, h => obtain ⟨_, a, vs, e, _, r, o⟩ := h; exact ⟨a, vs, e, r, ownd_iff o⟩
    | 1, _, h =>
      obtain ⟨a, vs, O', e, _, r, o⟩ := h
      have e2 := Ownd.zero o
      subst e2
      exact ⟨a, vs, e, .inl r, ownd_iff o⟩
  · cases e
end

/-! ### readings -/
section
variable (K : PySem.W.Frag) (fx : List (Nat × V)) (XR : XRel) (W : WX) (G : Cfg)
def TM (m : ME) : TE := fun σ H Q => ∃ ρ O F, R K fx σ H ρ O F ∧ Tm K fx XR W (relA K) (ev G m ρ) σ H O F Q
def TO (m : ME) : TE := fun σ H Q => ∃ ρ O F, R K fx σ H ρ O F ∧ Tm K fx XR W (relO K σ) (evo1 G m ρ) σ H O F Q
def TB (m : ME) : TT := fun σ H Q => ∃ ρ O F, R K fx σ H ρ O F ∧ Tm K fx XR W relB (evT G m ρ) σ H O F Q
def TMs (ms : List ME) : TA := fun σ H Q => ∃ ρ O F, R K fx σ H ρ O F ∧ Tm K fx XR W (relL (relA K)) (evs G ms ρ) σ H O F Q
def TOs (ms : List ME) : TA := fun σ H Q => ∃ ρ O F, R K fx σ H ρ O F ∧ Tm K fx XR W (relL (relO K σ)) (evo G ms ρ) σ H O F Q
/-- what is to come once the operands are there -/
def rE {γ δ : Type} (rel' : Rel γ δ) (g : List Opd → Rho → Out γ) (vs : List V) (H1 : Hp) (Q : δ → Hp → Prop) : Prop :=
  ∃ σ os ρ1 O1 F T O H, R K fx σ H1 ρ1 O1 (T ++ F) ∧ relL (relO K σ) (fun x => x ∈ O1 ++ (T ++ F)) H1 os vs T ∧ Ext O H H1 (O1 ++ T) ∧ Tm K fx XR W rel' (g os ρ1) σ H O F Q
/-- .. the values -/
def rV {γ δ : Type} (rel' : Rel γ δ) (g : List Arg → Rho → Out γ) (vs : List V) (H1 : Hp) (Q : δ → Hp → Prop) : Prop :=
  ∃ σ os ρ1 O1 F T O H, R K fx σ H1 ρ1 O1 (T ++ F) ∧ relL (relA K) (fun x => x ∈ O1 ++ (T ++ F)) H1 os vs T ∧ Ext O H H1 (O1 ++ T) ∧ Tm K fx XR W rel' (g os ρ1) σ H O F Q
variable {K fx XR W G} {σ : L2.St} {H : Hp}
theorem to_of {m : ME} (h : ∀ ρ, evo1 G m ρ = (ev G m ρ).bind fun a ρ => .ok (.val a) ρ) {Q : VK} (t : TO K fx XR W G m σ H Q) : TM K fx XR W G m σ H Q := by
  obtain ⟨ρ, O, F, r, t⟩ := t
  rw [h] at t
  refine ⟨ρ, O, F, r, Tm.mono (Tm.seq0 (rel := relA K) t) fun b H1 ⟨a, ρ1, O1, T, e, r1, q1, x1, t1⟩ => t1 b H1 O1 T r1 q1 x1⟩
/-- a test of a value -/
theorem tb_of {m : ME} (h : ∀ ρ, evT G m ρ = (ev G m ρ).bind fun a ρ => Mi.orStuck (truthy a.1) fun b => .ok b ρ) {Q : Bool → Hp → Prop} (t : TB K fx XR W G m σ H Q) : TM K fx XR W G m σ H (fun v H1 => ∃ k, TruV K v H1 k ∧ Q k H1) := by
  obtain ⟨ρ, O, F, r, t⟩ := t
  rw [h] at t
  refine ⟨ρ, O, F, r, Tm.mono (Tm.seq0 (rel := relA K) t) fun b H1 ⟨a, ρ1, O1, T, e, r1, q1, x1, t1⟩ => ?_⟩
  obtain ⟨k, ek, t1⟩ := Tm.orStuck t1
  exact ⟨k, tru_of ⟨_, _, q1⟩ ek, t1 k H1 O1 [] r1.drop ⟨rfl, rfl⟩ (x1.sub fun c hc => List.mem_append_left _ (by simpa using hc))⟩
theorem tos_cons {m : ME} {ms : List ME} {Q : List V → Hp → Prop} (t : TOs K fx XR W G (m :: ms) σ H Q) : tCons (TO K fx XR W G m) (TOs K fx XR W G ms) σ H Q := by
  obtain ⟨ρ, O, F, r, t⟩ := t
  exact ⟨ρ, O, F, r, Tm.cons relO_ok t⟩
theorem tms_cons {m : ME} {ms : List ME} {Q : List V → Hp → Prop} (t : TMs K fx XR W G (m :: ms) σ H Q) : tCons (TM K fx XR W G m) (TMs K fx XR W G ms) σ H Q := by
  obtain ⟨ρ, O, F, r, t⟩ := t
  exact ⟨ρ, O, F, r, Tm.cons relA_ok t⟩
theorem tos_nil {Q : List V → Hp → Prop} (t : TOs K fx XR W G [] σ H Q) : Q [] H := by
  obtain ⟨ρ, O, F, r, t⟩ := t
  exact Tm.nil r t
theorem tms_nil {Q : List V → Hp → Prop} (t : TMs K fx XR W G [] σ H Q) : Q [] H := by
  obtain ⟨ρ, O, F, r, t⟩ := t
  exact Tm.nil r t
theorem re_of {γ δ : Type} {rel' : Rel γ δ} {es : List ME} {g : List Opd → Rho → Out γ} {ρ : Rho} {O F : List Addr} {Q : δ → Hp → Prop} (r : R K fx σ H ρ O F) (t : Tm K fx XR W rel' ((evo G es ρ).bind g) σ H O F Q) :
    TOs K fx XR W G es σ H (fun vs H1 => rE K fx XR W rel' g vs H1 Q) :=
  ⟨ρ, O, F, r, Tm.mono (Tm.seq0 (rel := relL (relO K σ)) t) fun vs H1 ⟨os, ρ1, O1, T, e, r1, q1, x1, t1⟩ => ⟨σ, os, ρ1, O1, F, T, O, H, r1, q1, x1, t1⟩⟩
theorem rv_of {γ δ : Type} {rel' : Rel γ δ} {es : List ME} {g : List Arg → Rho → Out γ} {ρ : Rho} {O F : List Addr} {Q : δ → Hp → Prop} (r : R K fx σ H ρ O F) (t : Tm K fx XR W rel' ((evs G es ρ).bind g) σ H O F Q) :
    TMs K fx XR W G es σ H (fun vs H1 => rV K fx XR W rel' g vs H1 Q) :=
  ⟨ρ, O, F, r, Tm.mono (Tm.seq0 (rel := relL (relA K)) t) fun vs H1 ⟨os, ρ1, O1, T, e, r1, q1, x1, t1⟩ => ⟨σ, os, ρ1, O1, F, T, O, H, r1, q1, x1, t1⟩⟩
end

/-! ### functions that lay nothing -/
theorem opt_isL {α : Type} {o : Option α} {g : α → PV} {x : PV} (e : o.map g = some x) (h : ∀ a, isL (g a) = false) : isL x = false := by
  obtain ⟨a, _, rfl⟩ := Option.map_eq_some_iff.mp e; exact h a
theorem gI_isL {g : Int → Int → Option PV} {a b x : PV} (e : gI g a b = some x) (h : ∀ i j y, g i j = some y → isL y = false) : isL x = false := by
  obtain ⟨i, j, _, _, e'⟩ := gI_some e; exact h _ _ _ e'
theorem on_isL {g : List Int → Option PV} {a x : PV} (e : onInts g a = some x) (h : ∀ i y, g i = some y → isL y = false) : isL x = false := by
  obtain ⟨xs, _, e⟩ := Option.bind_eq_some_iff.mp e
  obtain ⟨ns, _, e⟩ := Option.bind_eq_some_iff.mp e
  exact h _ _ e
theorem ob_isL {g : List Bool → Option PV} {a x : PV} (e : onBools g a = some x) (h : ∀ i y, g i = some y → isL y = false) : isL x = false := by
  obtain ⟨xs, _, e⟩ := Option.bind_eq_some_iff.mp e
  obtain ⟨ns, _, e⟩ := Option.bind_eq_some_iff.mp e
  exact h _ _ e
theorem kind_isL {k : Kd} {a x : PV} (e : gKind k a = some x) : isL x = false := by
  cases a <;> first | (cases e; done) | (cases e; rfl)
theorem fn1_isL {f : Fn} {a x : PV} (e : fn1 f a = some x) : isL x = false := by
  cases f <;> first | (cases e; done) | skip
  · cases a <;> first | (cases e; done) | (cases e; rfl)
  · cases a <;> first | (cases e; done) | (cases e; rfl)
  · exact on_isL e fun i y h => by cases h; rfl
  · cases a <;> first | (cases e; done) | (cases e; rfl)
  · cases a <;> first | (cases e; done) | (cases e; rfl)
  · exact on_isL e fun i y h => opt_isL h fun _ => rfl
  · exact on_isL e fun i y h => opt_isL h fun _ => rfl
  · exact ob_isL e fun i y h => by cases h; rfl
  · exact ob_isL e fun i y h => by cases h; rfl
  · have e' : prepr a = some x := e
    unfold prepr at e'
    split at e'
    · cases e'; rfl
    · split at e'
      · split at e'
        · cases e'; rfl
        · cases e'
      · cases e'
  all_goals exact kind_isL e
theorem fn2_isL {f : Fn} {a b x : PV} (hf : f ≠ .get) (e : fn2 f a b = some x) : isL x = false := by
  cases f <;> first | (cases e; done) | (exact absurd rfl hf) | skip
  all_goals first
    | exact gI_isL e fun i j y h => by (first | (cases h; rfl) | (split at h <;> first | (cases h; rfl) | (cases h; done)))
    | exact opt_isL e fun _ => rfl
    | skip
  · have e' : gIs a b = some x := e
    cases b <;> first | (cases e'; done) | (cases e'; rfl)
  · have e' : gIsnot a b = some x := e
    cases b <;> first | (cases e'; done) | (cases e'; rfl)
  · have e' : gIndex a b = some x := e
    unfold gIndex at e'
    split at e'
    · exact opt_isL e' fun _ => rfl
    · cases e'
  · have e' : gIndexT a b = some x := e
    unfold gIndexT at e'
    split at e'
    · obtain ⟨ns, _, e2⟩ := Option.bind_eq_some_iff.mp e'
      exact opt_isL e2 fun _ => rfl
    · cases e'
theorem fn_isL {f : Fn} {xs : List PV} {x : PV} (hf : f ≠ .get) (e : fn f xs = some x) : isL x = false := by
  match xs, e with
  | [a], e => exact fn1_isL e
  | [a, b], e => exact fn2_isL hf e
end Mi
end
section
set_option Elab.async false
set_option linter.all false
set_option maxRecDepth 100000
set_option maxHeartbeats 2000000
/-! S11: expressions: names, displays, functions, tests. -/
namespace Mi
open PySem PySem.Spec PyProof.Rows L2

/-- an expression is what its mini text says: as a value, as an operand, as a test -/
structure PM (X : Cx) (fx : List (Nat × V)) (XR : XRel) (W : WX) (G : Cfg) (m : ME) (e : Expr) : Prop where
  v : PE X e (TM X.K fx XR W G m)
  o : PE X e (TO X.K fx XR W G m)
  t : PT X e (TB X.K fx XR W G m)
inductive PMs (X : Cx) (fx : List (Nat × V)) (XR : XRel) (W : WX) (G : Cfg) : List ME → List Expr → Prop where
  | nil : PMs X fx XR W G [] []
  | cons {m e ms es} : PM X fx XR W G m e → PMs X fx XR W G ms es → PMs X fx XR W G (m :: ms) (e :: es)

theorem bind_assoc {α β γ : Type} (o : Out α) (f : α → Rho → Out β) (g : β → Rho → Out γ) : (o.bind f).bind g = o.bind fun a ρ => (f a ρ).bind g := by cases o <;> rfl
theorem stuck_bind {α β γ : Type} (o : Option α) (f : α → Out β) (g : β → Rho → Out γ) : (Mi.orStuck o f).bind g = Mi.orStuck o fun a => (f a).bind g := by cases o <;> rfl
theorem ofBl_asT (o : Out Arg) : ofBl (asT true o) = o.bind fun a ρ => Mi.orStuck (truthy a.1) fun b => .ok b ρ := by
  unfold ofBl asT
  rw [if_pos rfl, bind_assoc]
  congr 1
  funext a ρ
  rw [stuck_bind]
  congr 1
theorem asT_false (o : Out Arg) : asT false o = o := rfl
section
variable {X : Cx} {fx : List (Nat × V)} {XR : XRel} {W : WX} {G : Cfg} {e : Expr} {m : ME} {ms : List ME} {es : List Expr} {σ : L2.St} {H : Hp}

theorem pm_pa_o (h : PMs X fx XR W G ms es) (hs : es.all noStar = true) : PA X es (TOs X.K fx XR W G ms) := by
  induction h with
  | nil => exact ⟨fun pos pins s σ H Q I t => (pa_nil (X := X)).run pos pins s σ H Q I (tos_nil t)⟩
  | cons h1 h2 ih =>
    rw [List.all_cons, Bool.and_eq_true] at hs
    exact ⟨fun pos pins s σ H Q I t => (pa_cons h1.o (ih hs.2) (star_cons hs.1)).run pos pins s σ H Q I (tos_cons t)⟩
theorem pm_pa_v (h : PMs X fx XR W G ms es) (hs : es.all noStar = true) : PA X es (TMs X.K fx XR W G ms) := by
  induction h with
  | nil => exact ⟨fun pos pins s σ H Q I t => (pa_nil (X := X)).run pos pins s σ H Q I (tms_nil t)⟩
  | cons h1 h2 ih =>
    rw [List.all_cons, Bool.and_eq_true] at hs
    exact ⟨fun pos pins s σ H Q I t => (pa_cons h1.v (ih hs.2) (star_cons hs.1)).run pos pins s σ H Q I (tms_cons t)⟩
theorem paImp {t t' : TA} (h : PA X es t) (g : ∀ σ H Q, t' σ H Q → t σ H Q) : PA X es t' := ⟨fun pos pins s σ H Q I q => h.run pos pins s σ H Q I (g σ H Q q)⟩
/-- not a bare name, a test by its value -/
theorem pm_of (hv : PE X e (TM X.K fx XR W G m)) (ho : ∀ ρ, evo1 G m ρ = (ev G m ρ).bind fun a ρ => .ok (.val a) ρ) (ht : PT X e (TB X.K fx XR W G m)) : PM X fx XR W G m e :=
  ⟨hv, peImp hv fun _ _ _ t => to_of ho t, ht⟩
theorem pt_val' (hv : PE X e (TM X.K fx XR W G m)) (he : ∀ whole, isTrue e X.env whole = (do let v ← whole; standAt e.pos; holding [v] (PySem.truthy v))) (ht : ∀ ρ, evX G true m ρ = asT true (evX G false m ρ)) : PT X e (TB X.K fx XR W G m) :=
  ptImp (pt_truth hv he) fun σ H Q t => tb_of (fun ρ => by
    show ofBl (evX G true m ρ) = (evX G false m ρ).bind _
    rw [ht, ofBl_asT]) t

/-! ### simple ones, names -/
theorem pm_s {N : List Str} {sc : Scope} (hX : XOk X N sc) {s : SE} (h : okS N sc s e = true) : PM X fx XR W G (.s s) e := by
  obtain ⟨h1, h2⟩ := okS_both (fx := fx) hX s e h
  refine pm_of (peImp h1 fun σ H Q ⟨ρ, O, F, r, t⟩ => ?_) (fun ρ => rfl) (ptImp h2 fun σ H Q ⟨ρ, O, F, r, t⟩ => ?_)
  · have t' : Tm X.K fx XR W (relA X.K) (Mi.orStuck (evS s ρ) fun x => if isL x then .stuck else .ok (x, 0) ρ) σ H O F Q := t
    obtain ⟨x, e1, t'⟩ := Tm.orStuck t'
    by_cases hl : isL x = true
    · rw [if_pos hl] at t'; exact t'.elim
    · rw [if_neg hl] at t'
      refine ⟨ρ, O, F, x, r, e1, fun v ⟨d, O', ho⟩ => ?_⟩
      exact t' v H O [] r ((Own.scalar (by simpa using hl) ho).2 0) (Ext.refl fun b hb => by simpa using hb)
  · have t' : Tm X.K fx XR W relB (ofBl (Mi.orStuck (evSt s ρ) fun b => .ok (.bl b, 0) ρ)) σ H O F Q := t
    unfold ofBl at t'
    rw [stuck_bind] at t'
    obtain ⟨b, e1, t'⟩ := Tm.orStuck t'
    exact ⟨ρ, O, F, b, r, e1, t' b H O [] r ⟨rfl, rfl⟩ (Ext.refl fun b hb => by simpa using hb)⟩
theorem pm_var {N : List Str} {sc : Scope} (hX : XOk X N sc) {i : Nat} (h : ckVar N sc i e = true) : PM X fx XR W G (.var i) e := by
  cases e <;> first | (cases h; done) | skip
  obtain ⟨h1, h2, h3, h4⟩ := okVar_of hX h
  have hp : ∀ p, PE X (.Name _ p) (tVar i) := fun p => pe_var h1 h2 h3 h4
  refine ⟨peImp (hp _) fun σ H Q ⟨ρ, O, F, r, t⟩ => ?_, peImp (hp _) fun σ H Q ⟨ρ, O, F, r, t⟩ => ?_, ptImp (pt_truth (hp _) fun _ => rfl) fun σ H Q ⟨ρ, O, F, r, t⟩ => ?_⟩
  · have t' : Tm X.K fx XR W (relA X.K) (Mi.orStuck (slot ρ i) fun a => .ok (a.1, 0) (Mi.lower i 0 ρ)) σ H O F Q := t
    obtain ⟨a, e1, t'⟩ := Tm.orStuck t'
    obtain ⟨w, hw, _⟩ := r.var e1
    have hr : relL (relO X.K σ) (fun x => x ∈ O ++ ([] ++ F)) H [.var i] [w] [] := ⟨w, [], [], [], rfl, rfl, ⟨hw, rfl⟩, rfl, rfl⟩
    obtain ⟨O', s1, r1, p⟩ := R.settle (K := X.K) (T := []) (F := F) 0 r hr (xs := [a.1]) (by show ((slot ρ i).map (·.1)).bind _ = _; rw [e1]; rfl)
    refine ⟨w, hw, t' w H O' [] r1 ?_ (Ext.refl fun b hb => s1.subset (by simpa using hb))⟩
    cases p with
    | cons p1 _ => exact p1.zero
  · have t' : Tm X.K fx XR W (relO X.K σ) (Mi.orStuck (slot ρ i) fun _ => .ok (.var i) ρ) σ H O F Q := t
    obtain ⟨a, e1, t'⟩ := Tm.orStuck t'
    obtain ⟨w, hw, _⟩ := r.var e1
    exact ⟨w, hw, t' w H O [] r ⟨hw, rfl⟩ (Ext.refl fun b hb => by simpa using hb)⟩
  · have t' : Tm X.K fx XR W relB (ofBl (Mi.orStuck ((slot ρ i).bind fun a => Mi.truthy a.1) fun b => .ok (.bl b, 0) ρ)) σ H O F Q := t
    unfold ofBl at t'
    rw [stuck_bind] at t'
    obtain ⟨b, e1, t'⟩ := Tm.orStuck t'
    obtain ⟨a, e2, e3⟩ := Option.bind_eq_some_iff.mp e1
    obtain ⟨w, hw, hb⟩ := r.var e2
    exact ⟨w, hw, b, tru_of hb e3, t' b H O [] r ⟨rfl, rfl⟩ (Ext.refl fun b hb => by simpa using hb)⟩

/-! ### displays -/
theorem pm_tup {k : Nat} {pos : Pos} (h : PMs X fx XR W G ms es) (hs : es.all noStar = true) (hl : ms.length ≤ sizeLine) : PM X fx XR W G (.tup ms) (.Tuple es k pos) := by
  have hv : PE X (.Tuple es k pos) (TM X.K fx XR W G (.tup ms)) := peImp (pe_tupX (pm_pa_v h hs)) fun σ H Q ⟨ρ, O, F, r, t⟩ => by
    have t' : Tm X.K fx XR W (relA X.K) ((evs G ms ρ).bind fun as ρ => .ok (.tup (as.map (·.1)), 0) ρ) σ H O F Q := t
    obtain ⟨ρ0, O0, F0, r0, q⟩ := rv_of (rel' := relA X.K) r t'
    refine ⟨ρ0, O0, F0, r0, lens q fun vs H1 hlen ⟨σ', as, ρ1, O1, F1, T, O2, H2, r1, hv, x1, t1⟩ => ⟨by rw [hlen]; exact hl, fin_tup r1 hv x1 t1⟩⟩
  exact pm_of hv (fun _ => rfl) (pt_val' hv (fun _ => rfl) fun _ => rfl)
where
  /-- as many values as were written -/
  lens {ρ : Rho} {O F : List Addr} {ms : List ME} {Q Q' : List V → Hp → Prop} {σ : L2.St} {H : Hp} (t : Tm X.K fx XR W (relL (relA X.K)) (evs G ms ρ) σ H O F Q) (g : ∀ vs H1, vs.length = ms.length → Q vs H1 → Q' vs H1) : Tm X.K fx XR W (relL (relA X.K)) (evs G ms ρ) σ H O F Q' := by
    have hl := evs_len (G := G) (ms := ms) (ρ := ρ)
    cases he : evs G ms ρ with
    | ok as ρ1 =>
      rw [he] at t hl
      exact fun vs H1 O1 T r q x => g vs H1 ((relL_len q).trans (hl _ _ rfl)) (t vs H1 O1 T r q x)
    | ex c xs ρ1 => rw [he] at t; exact t
    | stuck => rw [he] at t; exact t
  evs_len {G : Cfg} : ∀ {ms : List ME} {ρ : Rho} (as : List Arg) (ρ1 : Rho), evs G ms ρ = .ok as ρ1 → as.length = ms.length
    | [], ρ, as, ρ1, h => by
      have h' : Out.ok [] ρ = .ok as ρ1 := h
      cases h'; rfl
    | m :: ms, ρ, as, ρ1, h => by
      have h' : ((evX G false m ρ).bind fun a ρ => (evs G ms ρ).bind fun as ρ => .ok (a :: as) ρ) = .ok as ρ1 := h
      cases h1 : evX G false m ρ with
      | ok a ρ2 =>
        rw [h1] at h'
        have h'' : ((evs G ms ρ2).bind fun as ρ => .ok (a :: as) ρ) = .ok as ρ1 := h'
        cases h2 : evs G ms ρ2 with
        | ok as2 ρ3 =>
          rw [h2] at h''
          have h3 : Out.ok (a :: as2) ρ3 = .ok as ρ1 := h''
          cases h3
          rw [List.length_cons, List.length_cons, evs_len _ _ h2]
        | ex c xs ρ3 => rw [h2] at h''; cases h''
        | stuck => rw [h2] at h''; cases h''
      | ex c xs ρ2 => rw [h1] at h'; cases h'
      | stuck => rw [h1] at h'; cases h'
theorem pm_lst {pos : Pos} (h : PMs X fx XR W G ms es) (hs : es.all noStar = true) (hl : ms.length ≤ sizeLine) : PM X fx XR W G (.lst ms) (.List es pos) := by
  have hv : PE X (.List es pos) (TM X.K fx XR W G (.lst ms)) := peImp (pe_lst (pm_pa_v h hs)) fun σ H Q ⟨ρ, O, F, r, t⟩ => by
    have t' : Tm X.K fx XR W (relA X.K) ((evs G ms ρ).bind fun as ρ => .ok (.lst (as.map (·.1)), freshD as) ρ) σ H O F Q := t
    obtain ⟨ρ0, O0, F0, r0, q⟩ := rv_of (rel' := relA X.K) r t'
    refine ⟨ρ0, O0, F0, r0, pm_tup.lens q fun vs H1 hlen ⟨σ', as, ρ1, O1, F1, T, O2, H2, r1, hv, x1, t1⟩ => ⟨by rw [hlen]; exact hl, fin_lst r1 hv x1 t1⟩⟩
  exact pm_of hv (fun _ => rfl) (pt_val' hv (fun _ => rfl) fun _ => rfl)

/-! ### tests and choices -/
/-- a value that is True or False, then on -/
theorem go_val {γ δ : Type} {rel' : Rel γ δ} (ok : RelOk rel') {a : ME} {k : Bool → Rho → Out γ} {ρ : Rho} {O F : List Addr} {Q : δ → Hp → Prop} (r : R X.K fx σ H ρ O F) (t : Tm X.K fx XR W rel' ((ofBl (evX G false a ρ)).bind k) σ H O F Q) :
    TM X.K fx XR W G a σ H (fun v H1 => ∃ b, v = .bl b ∧ ∃ ρ1 O1 F1, R X.K fx σ H1 ρ1 O1 F1 ∧ Tm X.K fx XR W rel' (k b ρ1) σ H1 O1 F1 Q) := by
  unfold ofBl at t
  rw [bind_assoc] at t
  refine ⟨ρ, O, F, r, Tm.mono (Tm.seq0 (rel := relA X.K) t) fun v H1 ⟨x, ρ1, O1, T, e1, r1, q1, x1, t1⟩ => ?_⟩
  rw [stuck_bind] at t1
  obtain ⟨b, e2, t1⟩ := Tm.orStuck t1
  obtain ⟨x, d⟩ := x
  cases x <;> first | (cases e2; done) | skip
  cases e2
  have q1' : Own X.K _ _ d (.bl b) v T := q1
  exact ⟨b, Bor.bl (K := X.K) ⟨_, _, q1'⟩, ρ1, O1, T ++ F, r1, Tm.shift ok t1 x1⟩
theorem go_tst {γ δ : Type} {rel' : Rel γ δ} (ok : RelOk rel') {a : ME} {k : Bool → Rho → Out γ} {ρ : Rho} {O F : List Addr} {Q : δ → Hp → Prop} (r : R X.K fx σ H ρ O F) (t : Tm X.K fx XR W rel' ((ofBl (evX G true a ρ)).bind k) σ H O F Q) :
    TB X.K fx XR W G a σ H (fun b H1 => ∃ ρ1 O1 F1, R X.K fx σ H1 ρ1 O1 F1 ∧ Tm X.K fx XR W rel' (k b ρ1) σ H1 O1 F1 Q) := by
  refine ⟨ρ, O, F, r, Tm.mono (Tm.seq0 (rel := relB) t) fun v H1 ⟨b, ρ1, O1, T, e1, r1, q1, x1, t1⟩ => ?_⟩
  obtain ⟨rfl, rfl⟩ := q1
  exact ⟨ρ1, O1, [] ++ F, r1, Tm.shift ok t1 x1⟩
theorem pm_ite {c a b : ME} {c' a' b' : Expr} {pos : Pos} (hc : PM X fx XR W G c c') (ha : PM X fx XR W G a a') (hb : PM X fx XR W G b b') : PM X fx XR W G (.ite c a b) (.IfExp c' a' b' pos) := by
  refine pm_of (peImp (pe_ifExp hc.t ha.v hb.v) fun σ H Q ⟨ρ, O, F, r, t⟩ => ?_) (fun _ => rfl) ⟨fun pins s σ H Q I ⟨ρ, O, F, r, t⟩ => ?_⟩
  · have t' : Tm X.K fx XR W (relA X.K) ((ofBl (evX G true c ρ)).bind fun k ρ => if k then evX G false a ρ else evX G false b ρ) σ H O F Q := t
    obtain ⟨ρ0, O0, F0, r0, q⟩ := go_tst relA_ok r t'
    refine ⟨ρ0, O0, F0, r0, Tm.mono q fun k H1 ⟨ρ1, O1, F1, r1, t1⟩ => ?_⟩
    cases k with
    | true => exact ⟨ρ1, O1, F1, r1, t1⟩
    | false => exact ⟨ρ1, O1, F1, r1, t1⟩
  · have t' : Tm X.K fx XR W relB (ofBl ((ofBl (evX G true c ρ)).bind fun k ρ => if k then evX G true a ρ else evX G true b ρ)) σ H O F Q := t
    have e1 : ofBl ((ofBl (evX G true c ρ)).bind fun k ρ => if k then evX G true a ρ else evX G true b ρ) = (ofBl (evX G true c ρ)).bind fun k ρ => if k then evT G a ρ else evT G b ρ := by
      show ((ofBl (evX G true c ρ)).bind _).bind _ = _
      rw [bind_assoc]
      congr 1
      funext k ρ
      cases k <;> rfl
    rw [e1] at t'
    obtain ⟨ρ0, O0, F0, r0, q⟩ := go_tst relB_ok r t'
    refine isTrue_IfExp (thn (hc.t.run pins s σ H _ I ⟨ρ0, O0, F0, r0, q⟩) fun d s1 ⟨H1, I1, ρ1, O1, F1, r1, t1⟩ => ?_)
    cases d with
    | true => exact ha.t.run pins s1 σ H1 Q I1 ⟨ρ1, O1, F1, r1, t1⟩
    | false => exact hb.t.run pins s1 σ H1 Q I1 ⟨ρ1, O1, F1, r1, t1⟩
theorem false_fin {γ δ : Type} {ρ : Rho} {O F : List Addr} {Q : VK} {b : Bool} (r : R X.K fx σ H ρ O F) (t : Tm X.K fx XR W (relA X.K) (.ok (.bl b, 0) ρ) σ H O F Q) : Q (.bl b) H :=
  t (.bl b) H O [] r ⟨rfl, rfl⟩ (Ext.refl fun b hb => by simpa using hb)
theorem falseB_fin {ρ : Rho} {O F : List Addr} {Q : Bool → Hp → Prop} {b : Bool} (r : R X.K fx σ H ρ O F) (t : Tm X.K fx XR W relB (ofBl (.ok (.bl b, 0) ρ)) σ H O F Q) : Q b H :=
  (show Tm X.K fx XR W relB (.ok b ρ) σ H O F Q from t) b H O [] r ⟨rfl, rfl⟩ (Ext.refl fun b hb => by simpa using hb)
theorem pm_and_red {a b : ME} : (∀ σ H Q, TM X.K fx XR W G (.and a b) σ H Q → tAndV (TM X.K fx XR W G a) (TM X.K fx XR W G b) σ H Q) ∧ (∀ σ H Q, TB X.K fx XR W G (.and a b) σ H Q → tAnd (TB X.K fx XR W G a) (TB X.K fx XR W G b) σ H Q) := by
  refine ⟨fun σ H Q ⟨ρ, O, F, r, t⟩ => ?_, fun σ H Q ⟨ρ, O, F, r, t⟩ => ?_⟩
  · have t' : Tm X.K fx XR W (relA X.K) ((ofBl (evX G false a ρ)).bind fun k ρ => if k then evX G false b ρ else .ok (.bl false, 0) ρ) σ H O F Q := t
    obtain ⟨ρ0, O0, F0, r0, q⟩ := go_val relA_ok r t'
    refine ⟨ρ0, O0, F0, r0, Tm.mono q fun v H1 ⟨k, e1, ρ1, O1, F1, r1, t1⟩ => ⟨k, e1, ?_⟩⟩
    cases k with
    | true => exact ⟨ρ1, O1, F1, r1, t1⟩
    | false => exact false_fin (γ := Unit) (δ := Unit) r1 t1
  · have e1 : evT G (.and a b) ρ = (ofBl (evX G true a ρ)).bind fun k ρ => if k then evT G b ρ else ofBl (.ok (.bl false, 0) ρ) := by
      show ((ofBl (evX G true a ρ)).bind _).bind _ = _
      rw [bind_assoc]
      congr 1
      funext k ρ
      cases k <;> rfl
    rw [e1] at t
    obtain ⟨ρ0, O0, F0, r0, q⟩ := go_tst relB_ok r t
    refine ⟨ρ0, O0, F0, r0, Tm.mono q fun k H1 ⟨ρ1, O1, F1, r1, t1⟩ => ?_⟩
    cases k with
    | true => exact ⟨ρ1, O1, F1, r1, t1⟩
    | false => exact falseB_fin r1 t1
theorem pm_or_red {a b : ME} : (∀ σ H Q, TM X.K fx XR W G (.or a b) σ H Q → tOrV (TM X.K fx XR W G a) (TM X.K fx XR W G b) σ H Q) ∧ (∀ σ H Q, TB X.K fx XR W G (.or a b) σ H Q → tOr (TB X.K fx XR W G a) (TB X.K fx XR W G b) σ H Q) := by
  refine ⟨fun σ H Q ⟨ρ, O, F, r, t⟩ => ?_, fun σ H Q ⟨ρ, O, F, r, t⟩ => ?_⟩
  · have t' : Tm X.K fx XR W (relA X.K) ((ofBl (evX G false a ρ)).bind fun k ρ => if k then .ok (.bl true, 0) ρ else evX G false b ρ) σ H O F Q := t
    obtain ⟨ρ0, O0, F0, r0, q⟩ := go_val relA_ok r t'
    refine ⟨ρ0, O0, F0, r0, Tm.mono q fun v H1 ⟨k, e1, ρ1, O1, F1, r1, t1⟩ => ⟨k, e1, ?_⟩⟩
    cases k with
    | false => exact ⟨ρ1, O1, F1, r1, t1⟩
    | true => exact false_fin (γ := Unit) (δ := Unit) r1 t1
  · have e1 : evT G (.or a b) ρ = (ofBl (evX G true a ρ)).bind fun k ρ => if k then ofBl (.ok (.bl true, 0) ρ) else evT G b ρ := by
      show ((ofBl (evX G true a ρ)).bind _).bind _ = _
      rw [bind_assoc]
      congr 1
      funext k ρ
      cases k <;> rfl
    rw [e1] at t
    obtain ⟨ρ0, O0, F0, r0, q⟩ := go_tst relB_ok r t
    refine ⟨ρ0, O0, F0, r0, Tm.mono q fun k H1 ⟨ρ1, O1, F1, r1, t1⟩ => ?_⟩
    cases k with
    | false => exact ⟨ρ1, O1, F1, r1, t1⟩
    | true => exact falseB_fin r1 t1
theorem pm_and2 {a b : ME} {a' b' : Expr} {pos : Pos} (ha : PM X fx XR W G a a') (hb : PM X fx XR W G b b') : PM X fx XR W G (.and a b) (.BoolOp .And [a', b'] pos) :=
  pm_of (peImp (pe_and ha.v (pe_one hb.v)) pm_and_red.1) (fun _ => rfl) (ptImp (PW.pt (pw_and ha.t (pw_and1 hb.t))) pm_and_red.2)
theorem pm_and3 {a b : ME} {a' b' c' : Expr} {cs : List Expr} {pos : Pos} (ha : PM X fx XR W G a a') (hb : PM X fx XR W G b (.BoolOp .And (b' :: c' :: cs) pos)) : PM X fx XR W G (.and a b) (.BoolOp .And (a' :: b' :: c' :: cs) pos) :=
  pm_of (peImp (pe_and ha.v hb.v) pm_and_red.1) (fun _ => rfl) (ptImp (PW.pt (pw_and ha.t ⟨fun _ => hb.t.run⟩)) pm_and_red.2)
theorem pm_or2 {a b : ME} {a' b' : Expr} {pos : Pos} (ha : PM X fx XR W G a a') (hb : PM X fx XR W G b b') : PM X fx XR W G (.or a b) (.BoolOp .Or [a', b'] pos) :=
  pm_of (peImp (pe_or ha.v (pe_one hb.v)) pm_or_red.1) (fun _ => rfl) (ptImp (PW.pt (pw_or ha.t (pw_or1 hb.t))) pm_or_red.2)
theorem pm_or3 {a b : ME} {a' b' c' : Expr} {cs : List Expr} {pos : Pos} (ha : PM X fx XR W G a a') (hb : PM X fx XR W G b (.BoolOp .Or (b' :: c' :: cs) pos)) : PM X fx XR W G (.or a b) (.BoolOp .Or (a' :: b' :: c' :: cs) pos) :=
  pm_of (peImp (pe_or ha.v hb.v) pm_or_red.1) (fun _ => rfl) (ptImp (PW.pt (pw_or ha.t ⟨fun _ => hb.t.run⟩)) pm_or_red.2)
theorem pm_not {a : ME} {a' : Expr} {pos : Pos} (ha : PM X fx XR W G a a') : PM X fx XR W G (.not a) (.UnaryOp .Not a' pos) := by
  refine pm_of (peImp (pe_notT ha.o) fun σ H Q ⟨ρ, O, F, r, t⟩ => ?_) (fun _ => rfl) (ptImp (pt_not ha.t) fun σ H Q ⟨ρ, O, F, r, t⟩ => ?_)
  · have t' : Tm X.K fx XR W (relA X.K) ((evo1 G a ρ).bind fun o ρ => Mi.orStuck ((valO ρ o).bind Mi.truthy) fun b => .ok (.bl (!b), 0) ρ) σ H O F Q := t
    refine ⟨ρ, O, F, r, Tm.mono (Tm.seq0 (rel := relO X.K σ) t') fun v H1 ⟨o, ρ1, O1, T, e1, r1, q1, x1, t1⟩ => ?_⟩
    obtain ⟨b, e2, t1⟩ := Tm.orStuck t1
    obtain ⟨x, e3, e4⟩ := Option.bind_eq_some_iff.mp e2
    have hb : Paired (Bor X.K (fun y => y ∈ O1 ++ (T ++ F)) H1) [v] [x] := bors_of (os := [o]) (vs := [v]) (xs := [x]) r1 (T := T) ⟨v, [], T, [], rfl, by simp, q1, rfl, rfl⟩ (by
      show (valO ρ1 o).bind _ = _
      rw [e3]; rfl)
    cases hb with
    | cons hb _ =>
      refine ⟨b, tru_of hb e4, ?_⟩
      exact t1 (.bl !b) H1 O1 [] r1.drop ⟨rfl, rfl⟩ (x1.sub fun c hc => List.mem_append_left _ (by simpa using hc))
  · have e1 : evT G (.not a) ρ = (ofBl (evX G true a ρ)).bind fun b ρ => ofBl (.ok (.bl (!b), 0) ρ) := by
      show ((ofBl (evX G true a ρ)).bind _).bind _ = _
      rw [bind_assoc]
      rfl
    rw [e1] at t
    obtain ⟨ρ0, O0, F0, r0, q⟩ := go_tst relB_ok r t
    exact ⟨ρ0, O0, F0, r0, Tm.mono q fun k H1 ⟨ρ1, O1, F1, r1, t1⟩ => falseB_fin r1 t1⟩
end
end Mi
end
section
set_option Elab.async false
set_option linter.all false
set_option maxRecDepth 100000
set_option maxHeartbeats 2000000
/-! S12: expressions: items, functions by name, new lists and tuples. -/
namespace Mi
open PySem PySem.Spec PyProof.Rows L2
section
variable {K : PySem.W.Frag} {fx : List (Nat × V)} {XR : XRel} {W : WX} {H : Hp} {L : Addr → Prop}
theorem kvp_id {P : V → PV → Prop} {vs : List (Key × V)} {xs : List (Key × PV)} (h : Paired (fun (p : Key × V) (q : Key × PV) => p.1 = q.1 ∧ P p.2 q.2) vs xs) : Paired (fun (p : Key × V) (q : Key × PV) => p.1 = q.1 ∧ P p.2 q.2) vs xs := h
theorem Bor.cont {v : V} {A B Z : PV} (h : Bor K L H v A) (e : get1 A B = some Z) : Cont K (Bor K L H) H v A := by
  unfold get1 at e
  split at e
  · obtain ⟨a, vs, rfl, hr, p⟩ := h.lst
    exact ⟨a, vs, rfl, hr, p⟩
  · obtain ⟨a, vs, rfl, hr, p, _⟩ := h.tupT
    exact ⟨a, vs, rfl, hr, p⟩
  · obtain ⟨a, vs, rfl, hr, p⟩ := h.dct
    exact ⟨a, vs, rfl, hr, p⟩
  · cases e
abbrev gFn (f : Fn) : List Opd → Rho → Out Arg := fun os ρ => Mi.orStuck (valsO ρ os) fun xs => Mi.orStuck (fn f xs) fun x => .ok (x, 0) (if isL x then lowerO 1 os ρ else ρ)
abbrev gFa (f : Fa) : List Opd → Rho → Out Arg := fun os ρ => Mi.orStuck (valsO ρ os) fun xs => Mi.orStuck (fa f xs) fun x => .ok (x, if isL x then 1 else 0) (lowerO 1 os ρ)
theorem re_fn {f : Fn} (hf : f ≠ .get) {vs : List V} {Q : VK} (h : rE K fx XR W (relA K) (gFn f) vs H Q) : rFs K f vs H Q := by
  obtain ⟨σ, os, ρ1, O1, F, T, O, H0, r, hv, x1, t⟩ := h
  obtain ⟨xs, e1, t⟩ := Tm.orStuck t
  obtain ⟨x, e2, t⟩ := Tm.orStuck t
  have hl := fn_isL hf e2
  rw [hl] at t
  exact ⟨_, xs, x, bors_of r hv e1, e2, fun z hz => fin_F hl r x1 hz t⟩
theorem rFs_two {f : Fn} {x y : V} {Q : VK} (h : rFs K f [x, y] H Q) : rF2 K f x y H Q := by
  obtain ⟨L, Xs, Z, p, e, q⟩ := h
  cases p with
  | cons p1 p =>
    cases p with
    | cons p2 p =>
      cases p
      exact ⟨L, _, _, Z, p1, p2, e, q⟩
theorem rFs_one {f : Fn} {x : V} {Q : VK} (h : rFs K f [x] H Q) : rF1 K f x H Q := by
  obtain ⟨L, Xs, Z, p, e, q⟩ := h
  cases p with
  | cons p1 p =>
    cases p
    exact ⟨L, _, Z, p1, e, q⟩
theorem re_get {x y : V} {Q : VK} (h : rE K fx XR W (relA K) (gFn .get) [x, y] H Q) : rGet K x y H Q := by
  obtain ⟨σ, os, ρ1, O1, F, T, O, H0, r, hv, x1, t0⟩ := h
  obtain ⟨xs, e1, t1⟩ := Tm.orStuck t0
  obtain ⟨z, e2, t⟩ := Tm.orStuck t1
  obtain ⟨A, B, rfl, e2⟩ := fn_two (f := .get) (fun _ => rfl) e2
  have e2 : get1 A B = some z := e2
  by_cases hl : isL z = true
  · rw [if_pos hl] at t
    obtain ⟨O', s1, r1, p⟩ := R.settle 1 r hv e1
    obtain ⟨v, w, ev, h1, h2⟩ := lows_two p
    cases ev
    exact ⟨_, _, A, B, z, h1.cont e2, h2.bor, e2, fun u hu => t u H O' [] r1 hu (x1.sub fun b hb => List.mem_append_left _ (s1.subset (by simpa using hb)))⟩
  · rw [if_neg hl] at t
    obtain ⟨v, w, ev, h1, h2⟩ := two_of (bors_of r hv e1)
    cases ev
    exact ⟨_, _, A, B, z, h1.cont e2, h2, e2, fun u hu => fin_F (by simpa using hl) r x1 hu t⟩
theorem re_fa {f : Fa} {vs : List V} {Q : VK} (h : rE K fx XR W (relA K) (gFa f) vs H Q) : rA K f vs H Q := by
  obtain ⟨σ, os, ρ1, O1, F, T, O, H0, r, hv, x1, t⟩ := h
  exact fin_A r hv x1 t
end
section
variable {X : Cx} {fx : List (Nat × V)} {XR : XRel} {W : WX} {G : Cfg} {e : Expr} {m : ME} {ms : List ME} {es : List Expr} {σ : L2.St} {H : Hp} {N : List Str} {sc : Scope}
/-- x[k], x a name -/
theorem pm_elem (hX : XOk X N sc) {i : Nat} {k : SE} {l r : Expr} {pos : Pos} (h1 : ckVar N sc i l = true) (h2 : okS N sc k r = true) (h3 : noSl r = true) : PM X fx XR W G (.elem i k) (.Subscript l r pos) := by
  have hv : PE X (.Subscript l r pos) (TM X.K fx XR W G (.elem i k)) := by
    cases l <;> first | (cases h1; done) | skip
    obtain ⟨g1, g2, g3, g4⟩ := okVar_of hX h1
    refine peImp (pe_ix (ok_getP (by have := hX.units; omega)) (pe_var g1 g2 g3 g4) (okS_both (fx := fx) hX k r h2).1 (plain_ix h3)) fun σ H Q ⟨ρ, O, F, r, t⟩ => ?_
    have t' : Tm X.K fx XR W (relA X.K) (Mi.orStuck (slot ρ i) fun a => Mi.orStuck (evS k ρ) fun y => Mi.orStuck (fn2 .get a.1 y) fun x => .ok (x, 0) (if isL x then Mi.lower i 1 ρ else ρ)) σ H O F Q := t
    obtain ⟨a, e1, t'⟩ := Tm.orStuck t'
    obtain ⟨y, e2, t'⟩ := Tm.orStuck t'
    obtain ⟨z, e3, t'⟩ := Tm.orStuck t'
    have e3 : get1 a.1 y = some z := e3
    obtain ⟨w, hw, hb⟩ := r.var e1
    refine ⟨w, hw, ρ, O, F, y, r, e2, fun v hv => ?_⟩
    by_cases hl : isL z = true
    · rw [if_pos hl] at t'
      have hr : relL (relO X.K σ) (fun x => x ∈ O ++ ([] ++ F)) H [.var i] [w] [] := ⟨w, [], [], [], rfl, rfl, ⟨hw, rfl⟩, rfl, rfl⟩
      obtain ⟨O', s1, r1, p⟩ := R.settle (K := X.K) (T := []) (F := F) 1 r hr (xs := [a.1]) (by show ((slot ρ i).map (·.1)).bind _ = _; rw [e1]; rfl)
      obtain ⟨w', ev, h1⟩ := lows_one p
      cases ev
      exact ⟨_, _, a.1, y, z, h1.cont e3, hv, e3, fun u hu => t' u H O' [] r1 hu (Ext.refl fun b hb => s1.subset (by simpa using hb))⟩
    · rw [if_neg hl] at t'
      refine ⟨_, _, a.1, y, z, hb.cont e3, hv, e3, fun u ⟨d, O', ho⟩ => ?_⟩
      exact t' u H O [] r ((Own.scalar (by simpa using hl) ho).2 0) (Ext.refl fun b hb => by simpa using hb)
  exact pm_of hv (fun _ => rfl) (pt_val' hv (fun _ => rfl) fun _ => rfl)

/-- what an application of f is written as; g: the operands -/
def ckAp (sc : Scope) (f : Fn) (g : List Expr → Bool) : Expr → Bool
  | .UnaryOp .USub e _ => f == .neg && g [e]
  | .BinOp l o r _ => opF o == some f && g [l, r]
  | .Compare l [o] [r] _ => cmpF o == some f && !behindInMarks o r && g [l, r]
  | .Subscript l r _ => f == .get && noSl r && g [l, r]
  | .Call (.Name x _) (e :: es) [] _ => match isF f with
    | some n => (match es with
      | [.Name y _] => glB sc x && glB sc y && noStar e && isIs f x y && g [e]
      | _ => false)
    | none => glB sc x && noStar e && es.all noStar && biIs f x && g (e :: es)
  | _ => false
theorem pms_one {a : Expr} (h : PMs X fx XR W G ms [a]) : ∃ m, ms = [m] ∧ PM X fx XR W G m a := by
  cases h with
  | cons h1 h2 => cases h2; exact ⟨_, rfl, h1⟩
theorem pms_two {a b : Expr} (h : PMs X fx XR W G ms [a, b]) : ∃ m n, ms = [m, n] ∧ PM X fx XR W G m a ∧ PM X fx XR W G n b := by
  cases h with
  | cons h1 h2 => obtain ⟨n, rfl, h3⟩ := pms_one h2; exact ⟨_, n, rfl, h1, h3⟩
/-- operands, one after another -/
theorem ops_one {f : Fn} {m : ME} {Q : VK} (t : TM X.K fx XR W G (.ap f [m]) σ H Q) : TO X.K fx XR W G m σ H (fun x H1 => rE X.K fx XR W (relA X.K) (gFn f) [x] H1 Q) := by
  obtain ⟨ρ, O, F, r, t⟩ := t
  have t1 := re_of (es := [m]) (g := gFn f) r t
  obtain ⟨ρ0, O0, F0, r0, q⟩ := tos_cons t1
  exact ⟨ρ0, O0, F0, r0, Tm.mono q fun x H1 q1 => tos_nil q1⟩
theorem ops_two {f : Fn} {m n : ME} {Q : VK} (t : TM X.K fx XR W G (.ap f [m, n]) σ H Q) : TO X.K fx XR W G m σ H (fun x H1 => TO X.K fx XR W G n σ H1 fun y H2 => rE X.K fx XR W (relA X.K) (gFn f) [x, y] H2 Q) := by
  obtain ⟨ρ, O, F, r, t⟩ := t
  have t1 := re_of (es := [m, n]) (g := gFn f) r t
  obtain ⟨ρ0, O0, F0, r0, q⟩ := tos_cons t1
  refine ⟨ρ0, O0, F0, r0, Tm.mono q fun x H1 q1 => ?_⟩
  obtain ⟨ρ2, O2, F2, r2, q2⟩ := tos_cons q1
  exact ⟨ρ2, O2, F2, r2, Tm.mono q2 fun y H2 q3 => tos_nil q3⟩
theorem opsA_one {f : Fa} {m : ME} {Q : VK} (t : TM X.K fx XR W G (.apA f [m]) σ H Q) : TO X.K fx XR W G m σ H (fun x H1 => rE X.K fx XR W (relA X.K) (gFa f) [x] H1 Q) := by
  obtain ⟨ρ, O, F, r, t⟩ := t
  have t1 := re_of (es := [m]) (g := gFa f) r t
  obtain ⟨ρ0, O0, F0, r0, q⟩ := tos_cons t1
  exact ⟨ρ0, O0, F0, r0, Tm.mono q fun x H1 q1 => tos_nil q1⟩
theorem opsA_two {f : Fa} {m n : ME} {Q : VK} (t : TM X.K fx XR W G (.apA f [m, n]) σ H Q) : TO X.K fx XR W G m σ H (fun x H1 => TO X.K fx XR W G n σ H1 fun y H2 => rE X.K fx XR W (relA X.K) (gFa f) [x, y] H2 Q) := by
  obtain ⟨ρ, O, F, r, t⟩ := t
  have t1 := re_of (es := [m, n]) (g := gFa f) r t
  obtain ⟨ρ0, O0, F0, r0, q⟩ := tos_cons t1
  refine ⟨ρ0, O0, F0, r0, Tm.mono q fun x H1 q1 => ?_⟩
  obtain ⟨ρ2, O2, F2, r2, q2⟩ := tos_cons q1
  exact ⟨ρ2, O2, F2, r2, Tm.mono q2 fun y H2 q3 => tos_nil q3⟩
theorem opF_ne {o : Operator} {f : Fn} (h : (opF o == some f) = true) : f ≠ .get := by
  rintro rfl
  cases o <;> cases h
theorem cmpF_ne {o : CmpOp} {f : Fn} (h : (cmpF o == some f) = true) : f ≠ .get := by
  rintro rfl
  cases o <;> cases h
theorem bi_ne {f : Fn} {x : Str} (h : biIs f x = true) : f ≠ .get := by
  rintro rfl
  cases h
theorem pm_ap (hX : XOk X N sc) {f : Fn} {g : List Expr → Bool} (hg : ∀ es, g es = true → PMs X fx XR W G ms es) (h : ckAp sc f g e = true) : PM X fx XR W G (.ap f ms) e := by
  have mk : ∀ {e : Expr}, (∀ whole, isTrue e X.env whole = (do let v ← whole; standAt e.pos; holding [v] (PySem.truthy v))) → PE X e (TM X.K fx XR W G (.ap f ms)) → PM X fx XR W G (.ap f ms) e :=
    fun he hp => pm_of hp (fun _ => rfl) (pt_val' hp he fun _ => rfl)
  have bors : ∀ {L x A H}, Bor X.K L H x A → True := fun _ => trivial
  unfold ckAp at h
  split at h
  · obtain ⟨h1, h2⟩ := band h
    obtain rfl := eq_of_beq h1
    obtain ⟨m, rfl, pm⟩ := pms_one (hg _ h2)
    refine mk (fun _ => rfl) (peImp (pe_un ok_neg pm.o) fun σ H Q t => ?_)
    obtain ⟨ρ, O, F, r, q⟩ := ops_one t
    exact ⟨ρ, O, F, r, Tm.mono q fun x H1 q1 => rFs_one (re_fn (by decide) q1)⟩
  · obtain ⟨h1, h2⟩ := band h
    obtain ⟨m, n, rfl, pm, pn⟩ := pms_two (hg _ h2)
    refine mk (fun _ => rfl) (peImp (pe_op (op_of hX h1) pm.o pn.o) fun σ H Q t => ?_)
    obtain ⟨ρ, O, F, r, q⟩ := ops_two t
    refine ⟨ρ, O, F, r, Tm.mono q fun x H1 ⟨ρ1, O1, F1, r1, q1⟩ => ⟨ρ1, O1, F1, r1, Tm.mono q1 fun y H2 q2 => rFs_two (re_fn (opF_ne h1) q2)⟩⟩
  · obtain ⟨h1, h2⟩ := band h
    obtain ⟨h1, h4⟩ := band h1
    obtain ⟨m, n, rfl, pm, pn⟩ := pms_two (hg _ h2)
    have red : ∀ σ H Q, TM X.K fx XR W G (.ap f [m, n]) σ H Q → tOp (rF2 X.K f) (TO X.K fx XR W G m) (TO X.K fx XR W G n) σ H Q := fun σ H Q t => by
      obtain ⟨ρ, O, F, r, q⟩ := ops_two t
      refine ⟨ρ, O, F, r, Tm.mono q fun x H1 ⟨ρ1, O1, F1, r1, q1⟩ => ⟨ρ1, O1, F1, r1, Tm.mono q1 fun y H2 q2 => rFs_two (re_fn (cmpF_ne h1) q2)⟩⟩
    refine pm_of (peImp (pe_cmpR (cmp_of hX h1) pm.o pn.o (by simpa using h4)) red) (fun _ => rfl) (ptImp (pt_cmpR (cmp_of hX h1) pm.o pn.o (by simpa using h4)) fun σ H Q t => ?_)
    have t1 := tb_of (fun ρ => by
      show ofBl (evX G true (.ap f [m, n]) ρ) = (evX G false (.ap f [m, n]) ρ).bind _
      exact ofBl_asT _) t
    obtain ⟨ρ, O, F, r, q⟩ := ops_two t1
    refine ⟨ρ, O, F, r, Tm.mono q fun x H1 ⟨ρ1, O1, F1, r1, q1⟩ => ⟨ρ1, O1, F1, r1, Tm.mono q1 fun y H2 q2 => ?_⟩⟩
    obtain ⟨L, A, B, Z, ha, hb, e1, q3⟩ := rFs_two (re_fn (cmpF_ne h1) q2)
    obtain ⟨c, rfl⟩ := cmp_bl h1 e1
    refine ⟨L, A, B, _, ha, hb, e1, fun z hz => ?_⟩
    obtain ⟨k, e2, q4⟩ := q3 z hz
    have ez := hz.bl
    subst ez
    cases e2
    exact ⟨_, rfl, q4⟩
  · obtain ⟨h1, h2⟩ := band h
    obtain ⟨h1, h4⟩ := band h1
    obtain rfl := eq_of_beq h1
    obtain ⟨m, n, rfl, pm, pn⟩ := pms_two (hg _ h2)
    refine mk (fun _ => rfl) (peImp (pe_ix (ok_getP (by have := hX.units; omega)) pm.o pn.o (plain_ix h4)) fun σ H Q t => ?_)
    obtain ⟨ρ, O, F, r, q⟩ := ops_two t
    exact ⟨ρ, O, F, r, Tm.mono q fun x H1 ⟨ρ1, O1, F1, r1, q1⟩ => ⟨ρ1, O1, F1, r1, Tm.mono q1 fun y H2 q2 => re_get q2⟩⟩
  · split at h
    · rename_i n hn
      split at h
      · obtain ⟨h1, h2⟩ := band h
        obtain ⟨h1, h3⟩ := band h1
        obtain ⟨h1, h4⟩ := band h1
        obtain ⟨h1, h5⟩ := band h1
        obtain ⟨g1, g2⟩ := glB_of hX h1
        obtain ⟨k1, k2⟩ := glB_of hX h5
        obtain ⟨m, rfl, pm⟩ := pms_one (hg _ h2)
        unfold isIs at h3
        rw [hn] at h3
        obtain ⟨e1, e2⟩ := band h3
        obtain rfl := of_decide_eq_true e1
        obtain rfl := of_decide_eq_true e2
        obtain ⟨t1, t2, t3⟩ := ty_name hn
        have hv : ∀ p, PE X (.Name (Str.ofString n) p) (tC (.ty n)) := fun p => pe_bltn k1 (hX.blt _ t3) t1 rfl t2 k2
        refine mk (fun _ => rfl) (peImp (pe_callB (isi_ok hn) g1 (hX.blt _ (by decide +kernel)) boot_isinstance (pa_cons pm.o (pa_cons (hv _) pa_nil) (star_cons h4)) (by decide +kernel) g2 (star_cons h4) rfl) fun σ H Q t => ?_)
        obtain ⟨ρ, O, F, r, q⟩ := ops_one t
        refine ⟨ρ, O, F, r, Tm.mono q fun x H1 q1 => ?_⟩
        have hne : f ≠ .get := by rintro rfl; cases hn
        obtain ⟨L, A, Z, ha, e1, q3⟩ := rFs_one (re_fn hne q1)
        exact ⟨x, A, Z, L, rfl, ha, e1, q3⟩
      · cases h
    · obtain ⟨h1, h2⟩ := band h
      obtain ⟨h1, h3⟩ := band h1
      obtain ⟨h1, h4⟩ := band h1
      obtain ⟨h1, h5⟩ := band h1
      refine mk (fun _ => rfl) (peImp (pe_bi hX h1 h3 (pm_pa_o (hg _ h2) (by rw [List.all_cons, h5, h4]; rfl)) h5 h4) fun σ H Q ⟨ρ, O, F, r, t⟩ => ?_)
      obtain ⟨ρ0, O0, F0, r0, q⟩ := re_of (es := ms) (g := gFn f) r t
      exact ⟨ρ0, O0, F0, r0, Tm.mono q fun vs H1 q1 => re_fn (bi_ne h3) q1⟩
  · cases h
end
end Mi
end
section
set_option Elab.async false
set_option linter.all false
set_option maxRecDepth 100000
set_option maxHeartbeats 2000000
/-! S13: expressions: new lists and tuples, slices. -/
namespace Mi
open PySem PySem.Spec PyProof.Rows L2

/-! ### sorting ints -/
theorem insI_perm (x : Int) : ∀ l, (insI x l).Perm (x :: l)
  | [] => .refl _
  | y :: r => by
    unfold insI
    split
    · exact .refl _
    · exact ((insI_perm x r).cons y).trans (.swap x y r)
theorem sortI_perm : ∀ l, (sortI l).Perm l
  | [] => .refl _
  | x :: r => (insI_perm x (sortI r)).trans ((sortI_perm r).cons x)
theorem insI_sorted (x : Int) : ∀ l, l.Pairwise (· ≤ ·) → (insI x l).Pairwise (· ≤ ·)
  | [], _ => List.pairwise_singleton _ _
  | y :: r, h => by
    unfold insI
    have hy := List.pairwise_cons.mp h
    split
    · rename_i hxy
      refine List.pairwise_cons.mpr ⟨fun z hz => ?_, h⟩
      rcases List.mem_cons.mp hz with rfl | hz
      · exact hxy
      · exact Int.le_trans hxy (hy.1 z hz)
    · rename_i hxy
      refine List.pairwise_cons.mpr ⟨fun z hz => ?_, insI_sorted x r hy.2⟩
      rcases List.mem_cons.mp ((insI_perm x r).mem_iff.mp hz) with rfl | hz
      · omega
      · exact hy.1 z hz
theorem sortI_sorted : ∀ l, (sortI l).Pairwise (· ≤ ·)
  | [] => List.Pairwise.nil
  | x :: r => insI_sorted x _ (sortI_sorted r)
theorem sortI_eq {l l' : List Int} (p : l'.Perm l) (s : l'.Pairwise (· ≤ ·)) : l' = sortI l :=
  List.Perm.eq_of_pairwise (fun a b _ _ h1 h2 => Int.le_antisymm h1 h2) s (sortI_sorted l) (p.trans (sortI_perm l).symm)

section
variable {X : Cx}
theorem ints_of {K : PySem.W.Frag} {L : Addr → Prop} {H : Hp} : ∀ {xs : List PV} {vs : List V} {ns : List Int}, Owns K L H 0 xs vs [] → intsOf xs = some ns → vs = ns.map V.int
  | [], vs, ns, h, e => by
    have e' : some [] = some ns := e
    cases e'; rw [h.1]; rfl
  | x :: xs, vs, ns, h, e => by
    obtain ⟨v, vr, O1, O2, rfl, eo, h1, h2⟩ := h
    obtain ⟨rfl, rfl⟩ := List.append_eq_nil_iff.mp eo.symm
    cases x <;> first | (cases e; done) | skip
    obtain ⟨ms, e1, rfl⟩ := Option.map_eq_some_iff.mp (show (intsOf xs).map _ = some ns from e)
    rw [ints_of h2 e1, List.map_cons, h1.2]
theorem CallR.exd {X : Cx} {f : Value} {ι : Type} {r : ι → List V → Hp → VK → Prop} (h : ∀ i, CallR X f (r i)) : CallR X f (fun xs H Q => ∃ i, r i xs H Q) := fun pins s σ H vs us Q I r ⟨i, q⟩ => h i pins s σ H vs us Q I r q
theorem perm_pair {α β : Type} {P : α → β → Prop} {us vs : List α} (p : us.Perm vs) : ∀ {xs : List β}, Paired P vs xs → ∃ ys, ys.Perm xs ∧ Paired P us ys := by
  induction p with
  | nil => exact fun h => ⟨_, .refl _, h⟩
  | cons a _ ih =>
    intro xs h
    cases h with
    | cons h1 h2 =>
      obtain ⟨ys, q1, q2⟩ := ih h2
      exact ⟨_ :: ys, q1.cons _, .cons h1 q2⟩
  | swap a b l =>
    intro xs h
    cases h with
    | cons h1 h2 =>
      cases h2 with
      | cons h3 h4 => exact ⟨_, .swap _ _ _, .cons h3 (.cons h1 h4)⟩
  | trans _ _ ih1 ih2 =>
    intro xs h
    obtain ⟨ys, q1, q2⟩ := ih2 h
    obtain ⟨zs, q3, q4⟩ := ih1 q2
    exact ⟨zs, q3.trans q1, q4⟩
theorem tups_of {K : PySem.W.Frag} {L : Addr → Prop} {H : Hp} : ∀ {xs : List PV} {vs : List V} {nss : List (List Int)}, Owns K L H 0 xs vs [] → intTups xs = some nss → Paired (fun v ns => Own K L H 0 (tupI ns) v [] ∧ TupI K H v ns) vs nss
  | [], vs, ns, h, e => by
    cases (show some [] = some ns from e)
    rw [h.1]; exact .nil
  | x :: xs, vs, ns, h, e => by
    obtain ⟨v, vr, O1, O2, rfl, eo, h1, h2⟩ := h
    obtain ⟨rfl, rfl⟩ := List.append_eq_nil_iff.mp eo.symm
    cases x <;> first | (cases e; done) | skip
    rename_i ys
    unfold intTups at e
    split at e
    · rename_i a b ea eb
      cases e
      refine .cons ?_ (tups_of h2 eb)
      have hy : ys = a.map PV.int := intsOf_eq ea
      subst hy
      refine ⟨h1, ?_⟩
      obtain ⟨_, t, vs, rfl, hs, o⟩ := h1
      rw [ints_of o ea] at hs
      exact ⟨t, rfl, hs.toT⟩
    · cases e
where
  intsOf_eq : ∀ {xs : List PV} {ns : List Int}, intsOf xs = some ns → xs = ns.map PV.int
    | [], ns, e => by cases (show some [] = some ns from e); rfl
    | x :: xs, ns, e => by
      cases x <;> first | (cases e; done) | skip
      obtain ⟨ms, e1, rfl⟩ := Option.map_eq_some_iff.mp (show (intsOf xs).map _ = some ns from e)
      rw [List.map_cons, ← intsOf_eq e1]
theorem code_lex {B : Int} : ∀ {x y : List Int}, x.length = y.length → TS.Bd B x → TS.Bd B y → TS.code B x ≤ TS.code B y → lexLe x y = true
  | [], _, _, _, _, _ => rfl
  | a :: x, [], hl, _, _, _ => by simp at hl
  | a :: x, b :: y, hl, h1, h2, h => by
    have hl' : x.length = y.length := by simpa using hl
    unfold lexLe
    by_cases e : a = b
    · subst e
      rw [if_pos rfl]
      refine code_lex hl' h1.tail h2.tail ?_
      by_cases z : TS.code B y < TS.code B x
      · have := (TS.code_same (d := a) hl'.symm).mpr z
        omega
      · omega
    · rw [if_neg e, decide_eq_true_eq]
      by_cases z : a < b
      · exact z
      · have := TS.code_lt hl'.symm h2.tail h1.tail (show b < a by omega)
        omega
theorem owns_tupI {K : PySem.W.Frag} {L : Addr → Prop} {H : Hp} : ∀ {vs : List V} {nss : List (List Int)}, Paired (fun v ns => Own K L H 0 (tupI ns) v [] ∧ TupI K H v ns) vs nss → Owns K L H 0 (nss.map tupI) vs []
  | _, _, .nil => ⟨rfl, rfl⟩
  | _, _, .cons h t => ⟨_, _, [], [], rfl, rfl, h.1, owns_tupI t⟩
theorem pair_pw {α β : Type} {P : α → β → Prop} {S : α → α → Prop} {T : β → β → Prop} (g : ∀ a b x y, P a x → P b y → S a b → T x y) : ∀ {us : List α} {xs : List β}, Paired P us xs → us.Pairwise S → xs.Pairwise T
  | _, _, .nil, _ => List.Pairwise.nil
  | _, _, .cons h t, s => by
    obtain ⟨s1, s2⟩ := List.pairwise_cons.mp s
    refine List.pairwise_cons.mpr ⟨fun y hy => ?_, pair_pw g t s2⟩
    obtain ⟨i, hi⟩ := List.mem_iff_getElem?.mp hy
    obtain ⟨b, hb, pb⟩ := pair_at t hi
    exact g _ _ _ _ h pb (s1 b (List.mem_of_getElem? hb))
theorem pair_mem {α β : Type} {P : α → β → Prop} : ∀ {us : List α} {xs : List β} {a : α}, Paired P us xs → a ∈ us → ∃ x ∈ xs, P a x
  | _, _, _, .nil, h => nomatch h
  | _, _, a, .cons h t, m => by
    rcases List.mem_cons.mp m with rfl | m
    · exact ⟨_, List.mem_cons_self, h⟩
    · obtain ⟨x, hx, p⟩ := pair_mem t m
      exact ⟨x, List.mem_cons_of_mem _ hx, p⟩
theorem lensOk_of {n : List Int} {r : List (List Int)} (h : lensOk (n :: r) = true) : 1 ≤ n.length ∧ (n :: r).length < 64 ∧ ∀ m ∈ n :: r, m.length = n.length ∧ TS.Bd 1048576 m := by
  unfold lensOk at h
  rw [Bool.and_eq_true, Bool.and_eq_true, decide_eq_true_eq, decide_eq_true_eq, List.all_eq_true] at h
  obtain ⟨⟨h1, h2⟩, h3⟩ := h
  refine ⟨h1, by rw [List.length_cons]; omega, fun m hm => ?_⟩
  have := h2 m hm
  rw [Bool.and_eq_true, decide_eq_true_eq, List.all_eq_true] at this
  refine ⟨this.1, fun i hi => ?_⟩
  have := this.2 i hi
  rw [Bool.and_eq_true, decide_eq_true_eq, decide_eq_true_eq] at this
  exact this
theorem fa_sorted : CallR X (.builtin "sorted") (rA X.K .sorted) := by
  refine CallR.imp (CallR.or cr_sortedI (CallR.or cr_sortedIT (CallR.exd fun d => cr_sortT (d := d + 1) (B := 1048576) (Nat.succ_le_succ (Nat.zero_le _))))) fun xs H Q ⟨L, Xs, Z, p, e, q⟩ => ?_
  obtain ⟨A, rfl, e⟩ := fa_one (f := .sorted) (fun _ _ => rfl) e
  obtain ⟨v, rfl, h⟩ := lows_one p
  have e : gSorted A = some Z := e
  unfold gSorted at e
  split at e
  · split at e
    · rename_i ns e1
      cases e
      obtain ⟨a, vs, rfl, hr, o⟩ := h.lst
      have ev := ints_of o e1
      subst ev
      refine .inl ⟨a, ns, rfl, SqL.of hr, fun ns' p hp hs hn => ?_⟩
      rw [sortI_eq hp hs]
      exact q _ _ (.inl ⟨p, _, _, rfl, rfl, hn, rfl, owns_ints _⟩)
    · obtain ⟨nss, e1, e2⟩ := Option.bind_eq_some_iff.mp e
      split at e2
      · rename_i hl
        cases e2
        obtain ⟨a, vs, rfl, hr, o⟩ := h.lst
        have pr := tups_of o e1
        cases nss with
        | nil =>
          cases pr
          refine .inl ⟨a, [], rfl, SqL.of hr, fun ns' p hp hs hn => ?_⟩
          cases hp.eq_nil
          exact q _ _ (.inl ⟨p, [], [], rfl, rfl, hn, rfl, rfl, rfl⟩)
        | cons n r =>
          obtain ⟨l1, l2, l3⟩ := lensOk_of hl
          refine .inr (.inr ⟨n.length - 1, a, vs, rfl, SqL.of hr, by rw [pair_len pr]; exact l2, fun x hx => ?_, fun ys p hp hs hn => ?_⟩)
          · obtain ⟨m, hm, pm⟩ := pair_mem pr hx
            obtain ⟨g1, g2⟩ := l3 m hm
            exact ⟨m, pm.2, by omega, g2⟩
          · obtain ⟨mss, hm, pm⟩ := perm_pair hp pr
            have hmem : ∀ m ∈ mss, m.length = n.length ∧ TS.Bd 1048576 m := fun m hq => l3 m (hm.mem_iff.mp hq)
            have pm2 : Paired (fun v ns => (Own X.K L H 0 (tupI ns) v [] ∧ TupI X.K H v ns) ∧ ns.length = n.length ∧ TS.Bd 1048576 ns) ys mss := add pm hmem
            have srt : mss.Pairwise (fun a b => lexLe a b = true) := pair_pw (fun a b x y h1 h2 s => code_lex (h1.2.1.trans h2.2.1.symm) h1.2.2 h2.2.2 (s _ _ h1.1.2 h2.1.2)) pm2 hs
            rw [← sortT_eq hm srt] at q
            exact q _ _ (.inl ⟨p, _, _, rfl, rfl, hn, rfl, owns_tupI pm⟩)
      · cases e2
  · obtain ⟨ns, e1, rfl⟩ := Option.map_eq_some_iff.mp e
    obtain ⟨a, vs, rfl, hr, _, o⟩ := h.bor.tupT
    have ev := ints_of o e1
    subst ev
    refine .inr (.inl ⟨a, ns, rfl, hr, fun ns' p hp hs hn => ?_⟩)
    rw [sortI_eq hp hs]
    exact q _ _ (.inl ⟨p, _, _, rfl, rfl, hn, rfl, owns_ints _⟩)
  · cases e
where
  add {P : V → List Int → Prop} {S : List Int → Prop} : ∀ {us : List V} {xs : List (List Int)}, Paired P us xs → (∀ x ∈ xs, S x) → Paired (fun v x => P v x ∧ S x) us xs
    | _, _, .nil, _ => .nil
    | _, _, .cons h t, g => .cons ⟨h, g _ List.mem_cons_self⟩ (add t fun x hx => g x (List.mem_cons_of_mem _ hx))
/-- a call of a type -/
theorem pe_ty {N : List Str} {sc : Scope} {n : String} {e : Expr} {p pos : Pos} {t : TA} {r : List V → Hp → VK → Prop} (hX : XOk X N sc) (hc : CallR X (.type n) r) (hg : glB sc (Str.ofString n) = true) (hb : Str.ofString n ∈ bltNames) (hv : bootBuiltins (Str.ofString n) = some (.type n)) (hn : Str.ofString n ≠ "__name__")
    (hs : noStar e = true) (ha : PA X [e] t) : PE X (.Call (.Name (Str.ofString n) p) [e] [] pos) (tCB r t) := by
  obtain ⟨g1, g2⟩ := glB_of hX hg
  exact pe_callTy hc g1 (hX.blt _ hb) hv ha hn g2 (star_cons hs) rfl
variable {fx : List (Nat × V)} {XR : XRel} {W : WX} {G : Cfg} {e : Expr} {m : ME} {ms : List ME} {es : List Expr} {σ : L2.St} {H : Hp} {N : List Str} {sc : Scope}

/-- what an application of f is written as -/
def ckRange (sc : Scope) (g : List Expr → Bool) : Expr → Bool
  | .Call (.Name x _) es [] _ => glB sc x && decide (x = Str.ofString "range") && es.all noStar && g es
  | _ => false
def ckFa (sc : Scope) (f : Fa) (g : List Expr → Bool) : Expr → Bool
  | .BinOp l .Add r _ => f == .cat && g [l, r]
  | .BinOp l .Mult r _ => f == .rep && g [l, r]
  | .Subscript l (.Slice none none (some (.UnaryOp .USub (.Constant (.int 1) _ _) _)) _) _ => f == .rev && g [l]
  | .Call (.Name x _) [e] [] _ => match f with
    | .toL => glB sc x && decide (x = Str.ofString "list") && noStar e && g [e]
    | .toT => glB sc x && decide (x = Str.ofString "tuple") && noStar e && g [e]
    | .sorted => glB sc x && decide (x = Str.ofString "sorted") && noStar e && g [e]
    | .rangeL1 => glB sc x && decide (x = Str.ofString "list") && ckRange sc (fun es => match es with | [a] => g [a] | _ => false) e
    | .rangeL2 => glB sc x && decide (x = Str.ofString "list") && ckRange sc (fun es => match es with | [a, b] => g [a, b] | _ => false) e
    | _ => false
  | _ => false
theorem pm_fa (hX : XOk X N sc) {f : Fa} {g : List Expr → Bool} (hg : ∀ es, g es = true → PMs X fx XR W G ms es) (h : ckFa sc f g e = true) : PM X fx XR W G (.apA f ms) e := by
  have mk : ∀ {e : Expr}, (∀ whole, isTrue e X.env whole = (do let v ← whole; standAt e.pos; holding [v] (PySem.truthy v))) → PE X e (TM X.K fx XR W G (.apA f ms)) → PM X fx XR W G (.apA f ms) e :=
    fun he hp => pm_of hp (fun _ => rfl) (pt_val' hp he fun _ => rfl)
  unfold ckFa at h
  split at h
  · obtain ⟨h1, h2⟩ := band h
    obtain rfl := eq_of_beq h1
    obtain ⟨m, n, rfl, pm, pn⟩ := pms_two (hg _ h2)
    refine mk (fun _ => rfl) (peImp (pe_op fa_cat pm.o pn.o) fun σ H Q t => ?_)
    obtain ⟨ρ, O, F, r, q⟩ := opsA_two t
    exact ⟨ρ, O, F, r, Tm.mono q fun x H1 ⟨ρ1, O1, F1, r1, q1⟩ => ⟨ρ1, O1, F1, r1, Tm.mono q1 fun y H2 q2 => re_fa q2⟩⟩
  · obtain ⟨h1, h2⟩ := band h
    obtain rfl := eq_of_beq h1
    obtain ⟨m, n, rfl, pm, pn⟩ := pms_two (hg _ h2)
    refine mk (fun _ => rfl) (peImp (pe_op fa_rep pm.o pn.o) fun σ H Q t => ?_)
    obtain ⟨ρ, O, F, r, q⟩ := opsA_two t
    exact ⟨ρ, O, F, r, Tm.mono q fun x H1 ⟨ρ1, O1, F1, r1, q1⟩ => ⟨ρ1, O1, F1, r1, Tm.mono q1 fun y H2 q2 => re_fa q2⟩⟩
  · obtain ⟨h1, h2⟩ := band h
    obtain rfl := eq_of_beq h1
    obtain ⟨m, rfl, pm⟩ := pms_one (hg _ h2)
    refine mk (fun _ => rfl) (peImp (pe_revL pm.o) fun σ H Q t => ?_)
    obtain ⟨ρ, O, F, r, q⟩ := opsA_one t
    refine ⟨ρ, O, F, r, Tm.mono q fun x H1 q1 => ?_⟩
    obtain ⟨L, Xs, Z, p, e1, q2⟩ := re_fa q1
    obtain ⟨A, rfl, e1⟩ := fa_one (f := .rev) (fun _ _ => rfl) e1
    obtain ⟨v, ev, hl⟩ := lows_one p
    cases ev
    have e1 : gRev A = some Z := e1
    unfold gRev at e1
    split at e1
    · cases e1
      obtain ⟨a, vs, rfl, hr, o⟩ := hl.lst
      exact ⟨a, vs, rfl, SqL.of hr, new_lst (owns_iff.mpr (pair_rev (owns_iff.mp o))) q2⟩
    · cases e1
  · rename_i x _ a _
    have one : ∀ {n : String} {p pos : Pos} {r : List V → Hp → VK → Prop}, glB sc (Str.ofString n) = true → Str.ofString n ∈ bltNames → bootBuiltins (Str.ofString n) = some (.type n) → Str.ofString n ≠ "__name__" → noStar a = true → g [a] = true → CallR X (.type n) (rA X.K f) →
        PE X (.Call (.Name (Str.ofString n) p) [a] [] pos) (TM X.K fx XR W G (.apA f ms)) := fun {n p pos r} h1 h2 h3 h4 h5 h6 hc => by
      refine peImp (pe_ty hX hc h1 h2 h3 h4 h5 (pm_pa_o (hg _ h6) (by rw [List.all_cons, h5]; rfl))) fun σ H Q ⟨ρ, O, F, r, t⟩ => ?_
      obtain ⟨ρ0, O0, F0, r0, q⟩ := re_of (es := ms) (g := gFa f) r t
      exact ⟨ρ0, O0, F0, r0, Tm.mono q fun vs H1 q1 => re_fa q1⟩
    split at h
    · obtain ⟨h1, h2⟩ := band h
      obtain ⟨h1, h3⟩ := band h1
      obtain ⟨h1, h4⟩ := band h1
      obtain rfl := of_decide_eq_true h4
      exact mk (fun _ => rfl) (one (r := fun _ _ _ => True) h1 (by decide +kernel) (by decide +kernel) (by decide +kernel) h3 h2 fa_toL)
    · obtain ⟨h1, h2⟩ := band h
      obtain ⟨h1, h3⟩ := band h1
      obtain ⟨h1, h4⟩ := band h1
      obtain rfl := of_decide_eq_true h4
      exact mk (fun _ => rfl) (one (r := fun _ _ _ => True) h1 (by decide +kernel) (by decide +kernel) (by decide +kernel) h3 h2 fa_toT)
    · obtain ⟨h1, h2⟩ := band h
      obtain ⟨h1, h3⟩ := band h1
      obtain ⟨h1, h4⟩ := band h1
      obtain rfl := of_decide_eq_true h4
      obtain ⟨g1, g2⟩ := glB_of hX h1
      refine mk (fun _ => rfl) (peImp (pe_callB fa_sorted g1 (hX.blt _ (by decide +kernel)) (show bootBuiltins (Str.ofString "sorted") = some (.builtin "sorted") by decide +kernel) (pm_pa_o (hg _ h2) (by rw [List.all_cons, h3]; rfl)) (by decide +kernel) g2 (star_cons h3) rfl) fun σ H Q ⟨ρ, O, F, r, t⟩ => ?_)
      obtain ⟨ρ0, O0, F0, r0, q⟩ := re_of (es := ms) (g := gFa .sorted) r t
      exact ⟨ρ0, O0, F0, r0, Tm.mono q fun vs H1 q1 => re_fa q1⟩
    · obtain ⟨h1, h2⟩ := band h
      obtain ⟨h1, h3⟩ := band h1
      obtain rfl := of_decide_eq_true h3
      unfold ckRange at h2
      split at h2
      · obtain ⟨k1, k2⟩ := band h2
        obtain ⟨k5, k3⟩ := band k1
        obtain ⟨k6, k4⟩ := band k5
        obtain rfl := of_decide_eq_true k4
        dsimp only at k2
        split at k2
        · rename_i b
          rw [List.all_cons, Bool.and_eq_true] at k3
          obtain ⟨m, rfl, pm⟩ := pms_one (hg _ k2)
          obtain ⟨g1, g2⟩ := glB_of hX h1
          obtain ⟨g3, g4⟩ := glB_of hX k6
          have pr := fun (p pos : Pos) => prg_1 (X := X) (p := p) (pos := pos) g3 (hX.blt _ (by decide +kernel)) pm.o (star_cons k3.1)
          refine mk (fun _ => rfl) (peImp (pe_listRg hX.calm g1 (hX.blt _ (by decide +kernel)) (pr _ _) rfl) fun σ H Q t => ?_)
          obtain ⟨ρ, O, F, r, q⟩ := opsA_one t
          refine ⟨ρ, O, F, r, Tm.mono q fun x H1 q1 => ?_⟩
          obtain ⟨L, Xs, Z, p, e1, q2⟩ := re_fa q1
          obtain ⟨A, rfl, e1⟩ := fa_one (f := .rangeL1) (fun _ _ => rfl) e1
          obtain ⟨v, ev, hl⟩ := lows_one p
          cases ev
          have e1 : gR1 A = some Z := e1
          unfold gR1 at e1
          split at e1
          · rename_i n _ _
            split at e1
            · rename_i hc
              cases e1
              rw [Bool.and_eq_true, decide_eq_true_eq] at hc
              have hw := wide_of hc.1
              refine ⟨n, hl.bor.int, ⟨by omega, by omega, hw.1, hw.2, by omega⟩, ?_⟩
              have o := owns_upto (K := X.K) (L := L) (H := H1) 0 n
              rw [Int.sub_zero] at o
              exact new_lst o q2
            · cases e1
          · cases e1
        · cases k2
      · cases h2
    · obtain ⟨h1, h2⟩ := band h
      obtain ⟨h1, h3⟩ := band h1
      obtain rfl := of_decide_eq_true h3
      unfold ckRange at h2
      split at h2
      · obtain ⟨k1, k2⟩ := band h2
        obtain ⟨k5, k3⟩ := band k1
        obtain ⟨k6, k4⟩ := band k5
        obtain rfl := of_decide_eq_true k4
        dsimp only at k2
        split at k2
        · rename_i b c
          rw [List.all_cons, List.all_cons, Bool.and_eq_true, Bool.and_eq_true] at k3
          obtain ⟨m, n, rfl, pm, pn⟩ := pms_two (hg _ k2)
          obtain ⟨g1, g2⟩ := glB_of hX h1
          obtain ⟨g3, g4⟩ := glB_of hX k6
          have pr := fun (p pos : Pos) => prg_2 (X := X) (p := p) (pos := pos) g3 (hX.blt _ (by decide +kernel)) pm.o pn.o (star_cons k3.1) (star_cons k3.2.1) (by rw [star_cons k3.2.1]; rfl)
          refine mk (fun _ => rfl) (peImp (pe_listRg hX.calm g1 (hX.blt _ (by decide +kernel)) (pr _ _) rfl) fun σ H Q t => ?_)
          obtain ⟨ρ, O, F, r, q⟩ := opsA_two t
          refine ⟨ρ, O, F, r, Tm.mono q fun x H1 ⟨ρ1, O1, F1, r1, q1⟩ => ⟨ρ1, O1, F1, r1, Tm.mono q1 fun y H2 q2 => ?_⟩⟩
          obtain ⟨L, Xs, Z, p, e1, q2⟩ := re_fa q2
          obtain ⟨A, B, rfl, e1⟩ := fa_two (f := .rangeL2) (fun _ => rfl) e1
          obtain ⟨v, w, ev, hl, hl2⟩ := lows_two p
          cases ev
          have e1 : gR2 A B = some Z := e1
          unfold gR2 at e1
          split at e1
          · rename_i i j _ _
            split at e1
            · rename_i hc
              cases e1
              rw [Bool.and_eq_true, Bool.and_eq_true, decide_eq_true_eq] at hc
              have hw := wide_of hc.1.1
              have hw2 := wide_of hc.1.2
              refine ⟨i, j, hl.bor.int, hl2.bor.int, ⟨hw.1, hw.2, hw2.1, hw2.2, by omega⟩, ?_⟩
              exact new_lst (owns_upto (K := X.K) (L := L) (H := H2) i j) q2
            · cases e1
          · cases e1
        · cases k2
      · cases h2
    · cases h
  · cases h

/-! ### slices -/
def ckPart (N : List Str) (sc : Scope) : Option SE → Option Expr → Bool
  | none, none => true
  | some s, some e => okS N sc s e
  | _, _ => false
def ckSlice (N : List Str) (sc : Scope) (lo hi : Option SE) (g : Expr → Bool) : Expr → Bool
  | .Subscript l (.Slice a b none _) _ => ckPart N sc lo a && ckPart N sc hi b && g l
  | _ => false
/-- a slice's bound -/
def TPt (K : PySem.W.Frag) (fx : List (Nat × V)) (o : Option SE) : L2.TO := fun σ H Q => ∃ ρ O F i, R K fx σ H ρ O F ∧ evSo o ρ = some i ∧ Q i H
theorem po_part (hX : XOk X N sc) {o : Option SE} {eo : Option Expr} (h : ckPart N sc o eo = true) : PO X eo (TPt X.K fx o) := by
  cases o with
  | none =>
    cases eo with
    | none => exact ⟨fun pins s σ H Q I ⟨ρ, O, F, i, r, e, q⟩ => (po_none (X := X)).run pins s σ H Q I (by cases e; exact q)⟩
    | some e => cases h
  | some s =>
    cases eo with
    | none => cases h
    | some e =>
      refine ⟨fun pins s' σ H Q I ⟨ρ, O, F, i, r, ei, q⟩ => (po_some (okS_both (fx := fx) hX s e h).1).run pins s' σ H Q I ?_⟩
      have ei : (match evS s ρ with | some (.int i) => if wide i then some (some i) else none | _ => none) = some i := ei
      split at ei
      · rename_i j hj
        split at ei
        · cases ei
          exact ⟨ρ, O, F, _, r, hj, fun v hv => ⟨j, hv.int, q⟩⟩
        · cases ei
      · cases ei
theorem pm_slice (hX : XOk X N sc) {lo hi : Option SE} {g : Expr → Bool} (hg : ∀ e, g e = true → PM X fx XR W G m e) (h : ckSlice N sc lo hi g e = true) : PM X fx XR W G (.slice m lo hi) e := by
  unfold ckSlice at h
  split at h
  · obtain ⟨h1, h2⟩ := band h
    obtain ⟨h1, h3⟩ := band h1
    have pm := hg _ h2
    have hv : ∀ {l a b p pos}, PE X l (TO X.K fx XR W G m) → PO X a (TPt X.K fx lo) → PO X b (TPt X.K fx hi) → PE X (.Subscript l (.Slice a b none p) pos) (TM X.K fx XR W G (.slice m lo hi)) := fun {l a b p pos} hl ha hb => by
      refine peImp (pe_slice fa_slice hl ha hb) fun σ H Q ⟨ρ, O, F, r, t⟩ => ?_
      have t' : Tm X.K fx XR W (relA X.K) ((evo1 G m ρ).bind fun o ρ => Mi.orStuck (evSo lo ρ) fun l => Mi.orStuck (evSo hi ρ) fun h => Mi.orStuck (valO ρ o) fun x => Mi.orStuck (fslice x l h) fun y => .ok (y, if isL y then 1 else 0) (lowerO 1 [o] ρ)) σ H O F Q := t
      refine ⟨ρ, O, F, r, Tm.mono (Tm.seq0 (rel := relO X.K σ) t') fun v H1 ⟨o, ρ1, O1, T, e1, r1, q1, x1, t1⟩ => ?_⟩
      obtain ⟨l', e2, t1⟩ := Tm.orStuck t1
      obtain ⟨h', e3, t1⟩ := Tm.orStuck t1
      obtain ⟨x, e4, t1⟩ := Tm.orStuck t1
      obtain ⟨y, e5, t1⟩ := Tm.orStuck t1
      refine ⟨ρ1, O1, T ++ F, l', r1, e2, ρ1, O1, T ++ F, h', r1, e3, ?_⟩
      obtain ⟨O', s1, r2, p⟩ := R.settle (os := [o]) (vs := [v]) (xs := [x]) 1 r1 ⟨v, [], T, [], rfl, by simp, q1, rfl, rfl⟩ (by
        show (valO ρ1 o).bind _ = _
        rw [e4]; rfl)
      obtain ⟨v', ev, hl'⟩ := lows_one p
      cases ev
      refine ⟨_, x, y, hl', e5, fun z H' hn => ?_⟩
      obtain ⟨T', r3, o3, x3⟩ := R.newV (O0 := O1) r2 hn fun b hb => s1.subset hb
      exact t1 z H' O' T' r3 o3 (x1.trans x3)
    exact pm_of (hv pm.o (po_part hX h1) (po_part hX h3)) (fun _ => rfl) (pt_val' (hv pm.o (po_part hX h1) (po_part hX h3)) (fun _ => rfl) fun _ => rfl)
  · cases h
end
end Mi
end
section
set_option Elab.async false
set_option linter.all false
set_option maxRecDepth 100000
set_option maxHeartbeats 2000000
/-! S14: calls of defs. -/
namespace Mi
open PySem PySem.Spec PyProof.Rows L2

theorem perm3 (A B C : List Addr) : (A ++ (B ++ C)).Perm (B ++ (A ++ C)) := by
  rw [← List.append_assoc, ← List.append_assoc]
  exact List.perm_append_comm.append (List.Perm.refl C)
/-- what a callee leaves of its parameters -/
def keepB : List Bool → List Arg → Rho
  | _, [] => []
  | br, a :: as => (if br.head? == some true then some a else none) :: keepB br.tail as
section
variable {K : PySem.W.Frag} {fx : List (Nat × V)} {σ : L2.St} {H H' : Hp} {ρ : Rho} {O F T : List Addr}
theorem lt_slot {ρ : Rho} {i : Nat} {a : Arg} (h : slot ρ i = some a) : i < ρ.length := slot_lt h
/-- arguments are handed on: what the callee owns, what stays here -/
theorem R.hand : ∀ {os : List Opd} {br : List Bool} {vs : List V} {ρ ρh : Rho} {as : List Arg} {O T F : List Addr}, R K fx σ H ρ O (T ++ F) → relL (relO K σ) (fun x => x ∈ O ++ (T ++ F)) H os vs T → handOn os br ρ = some (as, ρh) →
    ∃ Oh Oc, R K fx σ H ρh Oh (Oc ++ F) ∧ RS K (fun x => x ∈ Oh ++ (Oc ++ F)) H (vs.map some) (as.map some) Oc ∧ ∀ b ∈ Oh ++ Oc, b ∈ O ++ T
  | [], br, vs, ρ, ρh, as, O, T, F, r, h, e => by
    have e' : some ([], ρ) = some (as, ρh) := e
    cases e'
    obtain ⟨rfl, rfl⟩ := h
    exact ⟨O, [], r, rfl, fun b hb => hb⟩
  | .val a :: os, br, vs, ρ, ρh, as, O, T, F, r, h, e => by
    obtain ⟨v, vr, T1, T2, rfl, rfl, h1, h2⟩ := h
    obtain ⟨⟨as', ρ'⟩, e1, e2⟩ := Option.map_eq_some_iff.mp (show (handOn os br.tail ρ).map _ = some (as, ρh) from e)
    cases e2
    have pm : (T1 ++ T2 ++ F).Perm (T2 ++ (T1 ++ F)) := by
      rw [← List.append_assoc]
      exact List.perm_append_comm.append (List.Perm.refl F)
    have eqL : ∀ x, x ∈ O ++ (T2 ++ (T1 ++ F)) → x ∈ O ++ (T1 ++ T2 ++ F) := fun x hx => by
      exact (List.mem_append.mp hx).elim (fun z => List.mem_append_left _ z) fun z => List.mem_append_right _ (pm.symm.mem_iff.mp z)
    obtain ⟨Oh, Oc, rh, rs, sub⟩ := R.hand (r.perm pm) (rel_mem (relL_ok relO_ok) h2 eqL) e1
    have pm2 : (Oc ++ (T1 ++ F)).Perm (T1 ++ Oc ++ F) := by
      rw [← List.append_assoc]
      exact List.perm_append_comm.append (List.Perm.refl F)
    refine ⟨Oh, T1 ++ Oc, rh.perm pm2, ⟨v, T1, Oc, rfl, rfl, ?_, ?_⟩, fun b hb => ?_⟩
    · refine Own.stay (show Own K _ H a.2 a.1 v T1 from h1) (Stay.refl fun b _ nl z => nl ?_)
      simp only [List.mem_append] at z ⊢
      rcases z with z | (z | z) | z
      · have := sub b (List.mem_append_left _ z)
        simp only [List.mem_append] at this
        exact this.imp id fun q => .inl (.inr q)
      · exact .inr (.inl (.inl z))
      · have := sub b (List.mem_append_right _ z)
        simp only [List.mem_append] at this
        exact this.imp id fun q => .inl (.inr q)
      · exact .inr (.inr z)
    · refine RS.stay rs (Stay.refl fun b _ nl z => nl ?_)
      simp only [List.mem_append] at z ⊢
      rcases z with z | (z | z) | z
      · exact .inl z
      · exact .inr (.inr (.inl z))
      · exact .inr (.inl z)
      · exact .inr (.inr (.inr z))
    · simp only [List.mem_append] at hb ⊢
      rcases hb with z | z | z
      · have := sub b (List.mem_append_left _ z)
        simp only [List.mem_append] at this
        exact this.imp id .inr
      · exact .inr (.inl z)
      · have := sub b (List.mem_append_right _ z)
        simp only [List.mem_append] at this
        exact this.imp id .inr
  | .var i :: os, br, vs, ρ, ρh, as, O, T, F, r, h, e => by
    obtain ⟨v, vr, T1, T2, rfl, rfl, h1, h2⟩ := h
    obtain ⟨h1, rfl⟩ := h1
    rw [List.nil_append] at r h2
    obtain ⟨a, e0, e⟩ := Option.bind_eq_some_iff.mp (show (slot ρ i).bind _ = some (as, ρh) from e)
    split at e
    · obtain ⟨⟨as', ρ'⟩, e1, e2⟩ := Option.map_eq_some_iff.mp e
      cases e2
      obtain ⟨A, Oi, B, rfl, f, _, g⟩ := r.chg (slot_lt e0)
      obtain ⟨w, hw, ho⟩ := f a (slot_at e0)
      rw [h1] at hw; cases hw
      have mem : ∀ x, x ∈ A ++ ([] ++ B) ++ (T2 ++ (Oi ++ F)) ↔ x ∈ A ++ (Oi ++ B) ++ (T2 ++ F) := fun x => by
        simp only [List.mem_append, List.not_mem_nil, false_or]
        constructor
        · rintro ((z | z) | z | z | z)
          · exact .inl (.inl z)
          · exact .inl (.inr (.inr z))
          · exact .inr (.inl z)
          · exact .inl (.inr (.inl z))
          · exact .inr (.inr z)
        · rintro ((z | z | z) | z | z)
          · exact .inl (.inl z)
          · exact .inr (.inr (.inl z))
          · exact .inl (.inr z)
          · exact .inr (.inl z)
          · exact .inr (.inr (.inr z))
      have r' := g H (some v) none [] (T2 ++ (Oi ++ F)) (fun _ _ z => z) (fun _ _ _ z => z) (fun _ _ z _ => z) ?_ (fun b hb => ?_) (fun b hb => ?_) (fun p hp q => ?_) (fun a' z => nomatch z) (fun _ => rfl)
      rotate_left
      · have nd := r.nd
        refine (List.Perm.nodup_iff ?_).mp nd
        have p1 : (A ++ (Oi ++ B) ++ (T2 ++ F)).Perm (A ++ B ++ Oi ++ (T2 ++ F)) := by
          refine List.Perm.append ?_ (List.Perm.refl _)
          rw [List.append_assoc]
          exact (List.Perm.refl A).append List.perm_append_comm
        refine p1.trans ?_
        have p2 : (Oi ++ (T2 ++ F)).Perm (T2 ++ (Oi ++ F)) := by
          rw [← List.append_assoc, ← List.append_assoc]
          exact List.perm_append_comm.append (List.Perm.refl F)
        rw [List.append_assoc]
        exact (List.Perm.refl (A ++ B)).append p2
      · simp only [List.nil_append, List.mem_append] at hb ⊢
        rcases hb with z | z | z
        · exact .inr (.inl (.inl z))
        · exact .inl z
        · exact .inr (.inl (.inr z))
      · simp only [List.mem_append] at hb
        rcases hb with z | z | z
        · exact r.tr b (List.mem_append_left _ z)
        · exact Own.isLD _ _ _ _ ho b z
        · exact r.tr b (List.mem_append_right _ z)
      · have := r.fx p hp
        rw [q, h1] at this
        exact Option.some.inj this
      rw [set_same h1] at r'
      obtain ⟨Oh, Oc, rh, rs, sub⟩ := R.hand r' (rel_mem (relL_ok relO_ok) h2 fun x hx => (mem x).mp hx) e1
      have pm2 : (Oc ++ (Oi ++ F)).Perm (Oi ++ Oc ++ F) := by
        rw [← List.append_assoc]
        exact List.perm_append_comm.append (List.Perm.refl F)
      refine ⟨Oh, Oi ++ Oc, rh.perm pm2, ⟨v, Oi, Oc, rfl, rfl, ?_, ?_⟩, fun b hb => ?_⟩
      · refine Own.stay ho (Stay.refl fun b _ nl z => nl ((mem b).mp ?_))
        simp only [List.mem_append] at z ⊢
        rcases z with z | (z | z) | z
        · have := sub b (List.mem_append_left _ z)
          simp only [List.mem_append] at this
          exact this.imp id .inl
        · exact .inr (.inr (.inl z))
        · have := sub b (List.mem_append_right _ z)
          simp only [List.mem_append] at this
          exact this.imp id .inl
        · exact .inr (.inr (.inr z))
      · refine RS.stay rs (Stay.refl fun b _ nl z => nl ?_)
        simp only [List.mem_append] at z ⊢
        rcases z with z | (z | z) | z
        · exact .inl z
        · exact .inr (.inr (.inl z))
        · exact .inr (.inl z)
        · exact .inr (.inr (.inr z))
      · have back : ∀ b, b ∈ A ++ ([] ++ B) ++ T2 → b ∈ A ++ (Oi ++ B) ++ ([] ++ T2) := fun b z => by
          simp only [List.mem_append, List.not_mem_nil, false_or] at z ⊢
          rcases z with (z | z) | z
          · exact .inl (.inl z)
          · exact .inl (.inr (.inr z))
          · exact .inr z
        simp only [List.mem_append] at hb
        rcases hb with z | z | z
        · exact back b (sub b (List.mem_append_left _ z))
        · simp [z]
        · exact back b (sub b (List.mem_append_right _ z))
    · obtain ⟨a', e3, e⟩ := Option.bind_eq_some_iff.mp e
      obtain ⟨⟨as', ρ'⟩, e1, e2⟩ := Option.map_eq_some_iff.mp e
      cases e2
      obtain ⟨O', s1, r1⟩ := r.lower i 0
      have less : ∀ x, x ∈ O' ++ (T2 ++ F) → x ∈ O ++ (T2 ++ F) := fun x hx => by
        simp only [List.mem_append] at hx ⊢
        exact hx.imp (fun z => s1.subset z) id
      obtain ⟨Oh, Oc, rh, rs, sub⟩ := R.hand r1 (rel_mem (relL_ok relO_ok) h2 less) e1
      obtain ⟨A, Oi, B, eO, f, _, _⟩ := r1.chg (slot_lt e3)
      obtain ⟨w, hw, ho⟩ := f a' (slot_at e3)
      rw [h1] at hw; cases hw
      obtain ⟨x, d⟩ := a
      obtain ⟨d', q1, q2, q3⟩ := slot_lower (i := i) (m := 0) e0
      rw [q1] at e3; cases e3
      have ho0 : Own K (fun b => b ∈ O' ++ (T2 ++ F)) H d' x v [] := by
        by_cases hl : isL x = true
        · obtain rfl := Nat.le_zero.mp (q3 rfl hl)
          have z := Own.zero ho
          subst z; exact ho
        · exact (Own.scalar (by simpa using hl) ho).2 d'
      refine ⟨Oh, Oc, rh, ⟨v, [], Oc, rfl, rfl, ?_, rs⟩, fun b hb => ?_⟩
      · refine Own.stay ho0 (Stay.refl fun b _ nl z => nl ?_)
        simp only [List.mem_append] at z ⊢
        rcases z with z | z | z
        · have := sub b (List.mem_append_left _ z)
          simp only [List.mem_append] at this
          exact this.imp id .inl
        · have := sub b (List.mem_append_right _ z)
          simp only [List.mem_append] at this
          exact this.imp id .inl
        · exact .inr (.inr z)
      · have := sub b hb
        simp only [List.mem_append, List.not_mem_nil, false_or] at this ⊢
        exact this.imp (fun z => s1.subset z) id
/-- what comes back is put where it was -/
theorem R.back : ∀ {os : List Opd} {br : List Bool} {vs : List V} {ρ ρ3 : Rho} {as : List Arg} {L : Addr → Prop} {H0 : Hp} {T0 O Oc F : List Addr}, relL (relO K σ) L H0 os vs T0 → R K fx σ H ρ O (Oc ++ F) → RS K (fun x => x ∈ O ++ (Oc ++ F)) H (vs.map some) (keepB br as) Oc → backTo os br as ρ = some ρ3 →
    ∃ O3, R K fx σ H ρ3 O3 F ∧ ∀ b ∈ O3, b ∈ O ++ Oc
  | [], br, vs, ρ, ρ3, as, L, H0, T0, O, Oc, F, h, r, rs, e => by
    obtain ⟨rfl, rfl⟩ := h
    cases as with
    | nil =>
      have e' : some ρ = some ρ3 := e
      cases e'
      exact ⟨O, r.drop, fun b hb => List.mem_append_left _ hb⟩
    | cons a as => cases e
  | o :: os, br, vs, ρ, ρ3, [], L, H0, T0, O, Oc, F, h, r, rs, e => by
    cases o <;> cases e
  | o :: os, br, vs, ρ, ρ3, a :: as, L, H0, T0, O, Oc, F, h, r, rs, e => by
    obtain ⟨v, vr, T1, T2, rfl, rfl, h1, h2⟩ := h
    -- the argument's own part of Oc
    have part : ∃ O1 O2, Oc = O1 ++ O2 ∧ (br.head? == some true → Own K (fun x => x ∈ O ++ (Oc ++ F)) H a.2 a.1 v O1) ∧ RS K (fun x => x ∈ O ++ (Oc ++ F)) H (vr.map some) (keepB br.tail as) O2 := by
      unfold keepB at rs
      by_cases hb : (br.head? == some true) = true
      · rw [if_pos hb] at rs
        obtain ⟨w, O1, O2, ew, eo, k1, k2⟩ := rs
        cases ew
        exact ⟨O1, O2, eo, fun _ => k1, k2⟩
      · rw [if_neg hb] at rs
        exact ⟨[], Oc, rfl, fun z => absurd z hb, rs⟩
    obtain ⟨O1, O2, rfl, k1, k2⟩ := part
    -- it is let go
    have skip : backTo os br.tail as ρ = some ρ3 → ∃ O3, R K fx σ H ρ3 O3 F ∧ ∀ b ∈ O3, b ∈ O ++ (O1 ++ O2) := fun e => by
      rw [List.append_assoc] at r
      have r2 := r.drop
      obtain ⟨O3, r3, s3⟩ := R.back h2 r2 (RS.stay k2 (Stay.refl fun b _ nl z => nl (by
        simp only [List.mem_append] at z ⊢
        exact z.imp id fun z => z.imp .inr id))) e
      exact ⟨O3, r3, fun b hb => by
        have := s3 b hb
        simp only [List.mem_append] at this ⊢
        exact this.imp id .inr⟩
    cases o with
    | val a0 => exact skip e
    | var i =>
      have e' : (if handed i os br then (if i < ρ.length then backTo os br.tail as (ρ.set i (some a)) else none) else backTo os br.tail as ρ) = some ρ3 := e
      split at e'
      · rename_i hh
        split at e'
        · rename_i hi
          obtain ⟨g1, _⟩ := h1
          have hb : (br.head? == some true) = true := by
            unfold handed at hh
            exact (band hh).1
          have ho := k1 hb
          obtain ⟨A, Oi, B, rfl, f, _, g⟩ := r.chg hi
          have nd := r.nd
          have r' := g H (some v) (some a) O1 (O2 ++ F) (fun _ _ z => z) (fun _ _ _ z => z) (fun _ _ z _ => z) ?_ (fun b hb => ?_) (fun b hb => ?_) (fun p hp q => ?_) (fun a' z => ?_) (fun z => nomatch z)
          rotate_left
          · -- nodup
            have p1 : (A ++ (Oi ++ B) ++ (O1 ++ O2 ++ F)).Perm (Oi ++ (A ++ (O1 ++ B) ++ (O2 ++ F))) := by
              have q1 : (A ++ (Oi ++ B)).Perm (Oi ++ (A ++ B)) := by
                rw [← List.append_assoc, ← List.append_assoc]
                exact List.perm_append_comm.append (List.Perm.refl B)
              have q2 : ((A ++ B) ++ (O1 ++ O2 ++ F)).Perm (A ++ (O1 ++ B) ++ (O2 ++ F)) := by
                have : ((A ++ B) ++ (O1 ++ O2 ++ F)) = A ++ ((B ++ O1) ++ (O2 ++ F)) := by simp
                rw [this, List.append_assoc A (O1 ++ B)]
                exact (List.Perm.refl A).append (List.perm_append_comm.append (List.Perm.refl _))
              refine (q1.append (List.Perm.refl _)).trans ?_
              rw [List.append_assoc]
              exact (List.Perm.refl Oi).append q2
            exact (List.nodup_append.mp (p1.nodup_iff.mp nd)).2.1
          · simp only [List.mem_append] at hb ⊢
            rcases hb with z | z | z
            · exact .inr (.inl (.inl (.inl z)))
            · exact .inr (.inl (.inl (.inr z)))
            · exact .inr (.inl (.inr z))
          · refine r.tr b ?_
            simp only [List.mem_append] at hb ⊢
            exact hb.imp .inr id
          · have := r.fx p hp
            rw [q, g1] at this
            exact Option.some.inj this
          · cases z
            refine ⟨v, rfl, Own.stay ho (Stay.refl fun b _ nl z => nl ?_)⟩
            simp only [List.mem_append] at z ⊢
            rcases z with (z | z | z) | z | z
            · exact .inl (.inl z)
            · exact .inr (.inl (.inl z))
            · exact .inl (.inr (.inr z))
            · exact .inr (.inl (.inr z))
            · exact .inr (.inr z)
          rw [set_same g1] at r'
          obtain ⟨O3, r3, s3⟩ := R.back h2 r' (RS.stay k2 (Stay.refl fun b _ nl z => nl (by
            simp only [List.mem_append] at z ⊢
            rcases z with (z | z | z) | z | z
            · exact .inl (.inl z)
            · exact .inr (.inl (.inl z))
            · exact .inl (.inr (.inr z))
            · exact .inr (.inl (.inr z))
            · exact .inr (.inr z)))) e'
          exact ⟨O3, r3, fun b hb => by
            have := s3 b hb
            simp only [List.mem_append] at this ⊢
            rcases this with (z | z | z) | z
            · exact .inl (.inl z)
            · exact .inr (.inl z)
            · exact .inl (.inr (.inr z))
            · exact .inr (.inr z)⟩
        · cases e'
      · exact skip e'

/-! ### what a def promises -/
/-- by the mini callee -/
def SpG (XR : XRel) (np : Nat) (F : Fun0) : Sp := fun vs H Q E => vs.length = np ∧ ∃ as Oc Fc, R K [] (vs.map some) H (as.map some) Oc Fc ∧ match F.sem as with
  | .ok r as' => ∀ v H' O' T, R K [] (vs.map some) H' (keepB F.br as') O' (T ++ Fc) → Own K (fun x => x ∈ O' ++ (T ++ Fc)) H' r.2 r.1 v T → Ext Oc H H' (O' ++ T) → Q v H'
  | .ex c xs as' => ∀ cls d H' O', R K [] (vs.map some) H' (keepB F.br as') O' Fc → Ext Oc H H' O' → XR c xs cls d H' → E cls d H'
  | .stuck => False
/-- a def that keeps its promise where no recursion is guarded -/
structure FnG (P : Program) (w : World) (K : PySem.W.Frag) (mg : Str → Option Value) (base : Heap) (CX : CXT) (k : Nat) (f : Addr) (fd : FuncData) (ps : List Str) (sp : Sp) : Prop where
  len : ∀ vs H Q E, sp vs H Q E → vs.length = ps.length
  run : ∀ (B : Around) (out : List Env) (s : Shared) (H : Hp) (given : Args) (us : List Value) (vs : List V) (Q : VK) (E : XK), B.guards = some [] → Room k B → Env0 P w K mg base B out s H → BindsTo s fd given (ps.zip us) → Vals vs us → sp vs H Q E →
    codeAny (model P w) B (.call (.ref f) given) (CR CX out P w H s Q E) s
variable {W : WX} {XR : XRel}
/-- the state at a call, behind it -/
theorem go_call {os : List Opd} {vs : List V} {ρ1 : Rho} {O1 : List Addr} {H1 : Hp} {F0 : Fun0} {Q : VK} (r : R K fx σ H1 ρ1 O1 (T ++ F)) (hv : relL (relO K σ) (fun x => x ∈ O1 ++ (T ++ F)) H1 os vs T) (x1 : Ext O H H1 (O1 ++ T))
    (t : Tm K fx XR W (relA K) (Mi.orStuck (handOn os F0.br ρ1) fun p => match F0.sem p.1 with
      | .ok r as' => Mi.orStuck (backTo os F0.br as' p.2) fun ρ => .ok r ρ
      | .ex c xs as' => Mi.orStuck (backTo os F0.br as' p.2) fun ρ => .ex c xs ρ
      | .stuck => .stuck) σ H O F Q) : SpG (K := K) XR vs.length F0 vs H1 Q (fun cls d H' => W cls d σ H') := by
  obtain ⟨⟨as, ρh⟩, e1, t⟩ := Tm.orStuck t
  obtain ⟨Oh, Oc, rh, rs, sub⟩ := R.hand r hv e1
  have mem : ∀ {A : List Addr} x, x ∈ A ++ (Oh ++ F) ↔ x ∈ Oh ++ (A ++ F) := fun {A} x => by
    simp only [List.mem_append]
    exact ⟨fun z => z.elim (fun z => .inr (.inl z)) fun z => z.imp id .inr, fun z => z.elim (fun z => .inr (.inl z)) fun z => z.imp id .inr⟩
  have pm : ∀ {A : List Addr}, (A ++ (Oh ++ F)).Perm (Oh ++ (A ++ F)) := fun {A} => by
    rw [← List.append_assoc, ← List.append_assoc]
    exact List.perm_append_comm.append (List.Perm.refl F)
  refine ⟨rfl, as, Oc, Oh ++ F, ⟨fun p hp => (nomatch hp), pm.nodup_iff.mpr rh.nd, RS.stay rs (Stay.refl fun b _ nl z => nl ((mem b).mp z)), fun b hb => rh.ld b (by
    simp only [List.mem_append] at hb ⊢
    exact hb.imp id .inr)⟩, ?_⟩
  -- the state behind
  have behind : ∀ {as' : List Arg} {H' : Hp} {O' T' : List Addr}, R K [] (vs.map some) H' (keepB F0.br as') O' (T' ++ (Oh ++ F)) → Ext Oc H1 H' (O' ++ T') → ∀ {ρ3 : Rho}, backTo os F0.br as' ρh = some ρ3 → ∃ O3, R K fx σ H' ρ3 O3 (T' ++ F) ∧ (∀ b ∈ O3, b ∈ Oh ++ O') := fun {as' H' O' T'} r2 x2 {ρ3} e2 => by
    have ndh := rh.nd
    have st : Stay (fun x => x ∈ Oh ++ (Oc ++ F)) (fun x => x ∈ Oh ++ (O' ++ (T' ++ F))) H1 H' Oh := by
      refine ⟨x2.tups, x2.frzs, fun b o eb hb => x2.keep b o eb fun z => ?_, fun b hb nl z => ?_⟩
      · rcases hb with hb | hb
        · exact not_mem_of_nodup ndh hb (List.mem_append_left _ z)
        · exact hb (List.mem_append_right _ (List.mem_append_left _ z))
      · simp only [List.mem_append] at z nl
        rcases z with z | z | z | z
        · exact nl (.inl z)
        · rcases x2.new b (List.mem_append_left _ z) with q | q
          · exact nl (.inr (.inl q))
          · exact hb q
        · rcases x2.new b (List.mem_append_right _ z) with q | q
          · exact nl (.inr (.inl q))
          · exact hb q
        · exact nl (.inr (.inr z))
    have pm2 : (O' ++ (T' ++ (Oh ++ F))).Perm (Oh ++ (O' ++ (T' ++ F))) := by
      have a1 : (O' ++ (T' ++ (Oh ++ F))).Perm (O' ++ (Oh ++ (T' ++ F))) := (List.Perm.refl O').append (by
        rw [← List.append_assoc, ← List.append_assoc]
        exact List.perm_append_comm.append (List.Perm.refl F))
      exact a1.trans (perm3 O' Oh (T' ++ F))
    have r3 : R K fx σ H' ρh Oh (O' ++ (T' ++ F)) := ⟨rh.fx, pm2.nodup_iff.mp r2.nd, RS.stay rh.rs st, fun b hb => r2.ld b (pm2.mem_iff.mpr (List.mem_append_right _ hb))⟩
    exact R.back hv r3 (RS.stay r2.rs (Stay.refl fun b _ nl z => nl (pm2.mem_iff.mpr z))) e2
  have sub2 : ∀ {O3 O' T' : List Addr} {H' : Hp}, (∀ b ∈ O3, b ∈ Oh ++ O') → Ext Oc H1 H' (O' ++ T') → Ext O H H' (O3 ++ T') := fun {O3 O' T' H'} s3 x2 => by
    have x1' : Ext O H H1 ((O1 ++ T) ++ []) := x1.sub fun b hb => by simpa using hb
    refine x1'.trans ⟨fun b o eb nb => x2.keep b o eb fun z => nb (sub b (List.mem_append_right _ z)), fun b hb => ?_, x2.dom, x2.tups, x2.frzs⟩
    rcases List.mem_append.mp hb with z | z
    · rcases List.mem_append.mp (s3 b z) with z | z
      · exact .inl (sub b (List.mem_append_left _ z))
      · exact (x2.new b (List.mem_append_left _ z)).imp (fun q => sub b (List.mem_append_right _ q)) id
    · exact (x2.new b (List.mem_append_right _ z)).imp (fun q => sub b (List.mem_append_right _ q)) id
  have t2 : Tm K fx XR W (relA K) (match F0.sem as with
      | .ok r as' => Mi.orStuck (backTo os F0.br as' ρh) fun ρ => .ok r ρ
      | .ex c xs as' => Mi.orStuck (backTo os F0.br as' ρh) fun ρ => .ex c xs ρ
      | .stuck => .stuck) σ H O F Q := t
  cases hs : F0.sem as with
  | ok r0 as' =>
    rw [hs] at t2
    obtain ⟨ρ3, e2, t3⟩ := Tm.orStuck (f := fun ρ => Out.ok r0 ρ) t2
    intro v H' O' T' r2 o2 x2
    obtain ⟨O3, r3, s3⟩ := behind r2 x2 e2
    refine t3 v H' O3 T' r3 (Own.stay o2 (Stay.refl fun b _ nl z => nl ?_)) (sub2 s3 x2)
    simp only [List.mem_append] at z ⊢
    rcases z with z | z | z
    · have := s3 b z
      simp only [List.mem_append] at this
      exact this.elim (fun q => .inr (.inr (.inl q))) .inl
    · exact .inr (.inl z)
    · exact .inr (.inr (.inr z))
  | ex c xs as' =>
    rw [hs] at t2
    obtain ⟨ρ3, e2, t3⟩ := Tm.orStuck (f := fun ρ => (Out.ex c xs ρ : Out Arg)) t2
    intro cls d H' O' r2 x2 hx
    have x2' : Ext Oc H1 H' (O' ++ []) := x2.sub fun b hb => by simpa using hb
    obtain ⟨O3, r3, s3⟩ := behind (T' := []) r2 x2' e2
    exact t3 cls d H' O3 r3 ((sub2 s3 x2').sub fun b hb => by simpa using hb) hx
  | stuck => rw [hs] at t2; exact t2.elim
end
section
variable {X : Cx} {fx : List (Nat × V)} {XR : XRel} {W : WX} {G : Cfg} {ms : List ME} {CX : CXT} {k : Nat} {f : Addr} {fd : FuncData} {ps : List Str} {sp : Sp} {x : Str} {e : Expr} {es : List Expr} {p pos : Pos} {t : TA} {E : L2.St → XK}
/-- an exception of a callee, from a state with these slots -/
def PassesG (CX : CXT) (X : Cx) (E : L2.St → XK) : Prop := ∀ (pins : List (Addr × Obj)) (σ : L2.St) (H : Hp) (s : Shared) (u : Value) (s' : Shared), Inv X pins σ H s → CX X.stack H s (E σ) u s' → X.xe u s'
/-- f(e, ..) -/
theorem pe_callG' (F : FnG X.prog X.w X.K X.mg X.base CX k f fd ps sp) (room : Room k X.A) (free : X.A.guards = some []) (glob : Gl X x) (known : X.mg x = some (.ref f)) (kept : PySem.W.keepIn X.K (.ref f) = true) (bind : Binds X.K fd ps []) (pass : PassesG CX X E)
    (args : PA X (e :: es) t) (nodb : (x == ("__debug__" : Str)) = false) (hs : noStar e = true) (hes : (PySem.backTo pos (starEach es X.env)).any (·.1) = false) : PE X (.Call (.Name x p) (e :: es) [] pos) (fun σ H Q => t σ H fun vs H1 => sp vs H1 Q (E σ)) := by
  constructor
  intro pins s0 σ H Q J q0
  apply wpAny_Call_Name_kw
  apply ld_glob J glob known _ nodb
  apply PySem.W.callWith_K (h₀ := X.base) J.ok.mod.kin kept _ (star_cons hs) hes
  refine thn (args.run pos pins s0 σ H _ J q0) ?_
  rintro us s1 ⟨vs, H1, J1, rv, q1⟩
  refine ⟨J1.kIn, ?_⟩
  have many : (us ++ []).length = ps.length := by rw [List.append_nil, ← rv.length]; exact F.len _ _ _ _ q1
  have bound := bind s1 us J1.kIn many
  rw [List.append_nil] at bound
  refine wpAny_call (codeAny_mono (F.run X.A X.stack s1 H1 ⟨us, []⟩ us vs Q (E σ) free room J1.env0 bound rv q1) ?_)
  intro res s2 hres
  match res, hres with
  | .error u, hres => exact pass pins σ H1 s1 u s2 J1 hres
  | .ok (.ret u), hres => exact J1.after hres
theorem no_star_any {env : Env} : ∀ {es : List Expr}, es.all noStar = true → (PySem.backTo pos (starEach es env)).any (·.1) = false
  | [], _ => rfl
  | a :: as, h => by
    rw [List.all_cons, Bool.and_eq_true] at h
    rw [star_cons h.1]
    exact no_star_any (es := as) h.2
theorem evo_len {G : Cfg} : ∀ {ms : List ME} {ρ : Rho} (as : List Opd) (ρ1 : Rho), evo G ms ρ = .ok as ρ1 → as.length = ms.length
  | [], ρ, as, ρ1, h => by
    have h' : Out.ok [] ρ = .ok as ρ1 := h
    cases h'; rfl
  | m :: ms, ρ, as, ρ1, h => by
    have h' : ((opd m ρ (evX G false m ρ)).bind fun a ρ => (evo G ms ρ).bind fun as ρ => .ok (a :: as) ρ) = .ok as ρ1 := h
    cases h1 : opd m ρ (evX G false m ρ) with
    | ok a ρ2 =>
      rw [h1] at h'
      have h'' : ((evo G ms ρ2).bind fun as ρ => .ok (a :: as) ρ) = .ok as ρ1 := h'
      cases h2 : evo G ms ρ2 with
      | ok as2 ρ3 =>
        rw [h2] at h''
        have h3 : Out.ok (a :: as2) ρ3 = .ok as ρ1 := h''
        cases h3
        rw [List.length_cons, List.length_cons, evo_len _ _ h2]
      | ex c xs ρ3 => rw [h2] at h''; cases h''
      | stuck => rw [h2] at h''; cases h''
    | ex c xs ρ2 => rw [h1] at h'; cases h'
    | stuck => rw [h1] at h'; cases h'
theorem pm_call {N : List Str} {sc : Scope} (hX : XOk X N sc) {j : Nat} {F0 : Fun0} (hj : G.C[j]? = some F0) (F : FnG X.prog X.w X.K X.mg X.base CX k f fd ps (SpG (K := X.K) XR ps.length F0)) (room : Room k X.A) (glob : glB sc x = true) (known : X.mg x = some (.ref f)) (kept : PySem.W.keepIn X.K (.ref f) = true) (bind : Binds X.K fd ps [])
    (pass : PassesG CX X fun σ cls d H => W cls d σ H) (hm : PMs X fx XR W G ms (e :: es)) (hs : (e :: es).all noStar = true) (hl : ms.length = ps.length) : PM X fx XR W G (.call j ms) (.Call (.Name x p) (e :: es) [] pos) := by
  obtain ⟨g1, g2⟩ := glB_of hX glob
  rw [List.all_cons, Bool.and_eq_true] at hs
  have hv : PE X (.Call (.Name x p) (e :: es) [] pos) (TM X.K fx XR W G (.call j ms)) := by
    refine peImp (pe_callG' F room hX.guards g1 known kept bind pass (pm_pa_o hm (by rw [List.all_cons, hs.1, hs.2]; rfl)) g2 hs.1 (no_star_any hs.2)) fun σ H Q ⟨ρ, O, F1, r, t⟩ => ?_
    have t' : Tm X.K fx XR W (relA X.K) ((evo G ms ρ).bind fun os ρ => Mi.orStuck (G.C[j]?) fun F => Mi.orStuck (handOn os F.br ρ) fun p => match F.sem p.1 with
      | .ok r as' => Mi.orStuck (backTo os F.br as' p.2) fun ρ => .ok r ρ
      | .ex c xs as' => Mi.orStuck (backTo os F.br as' p.2) fun ρ => .ex c xs ρ
      | .stuck => .stuck) σ H O F1 Q := t
    refine ⟨ρ, O, F1, r, Tm.mono (Tm.seq0 (rel := relL (relO X.K σ)) t') fun vs H1 ⟨os, ρ1, O1, T, e1, r1, q1, x1, t1⟩ => ?_⟩
    rw [hj] at t1
    have q := go_call r1 q1 x1 t1
    have hl2 : vs.length = ps.length := by rw [relL_len q1, evo_len os ρ1 e1]; exact hl
    rw [hl2] at q
    exact q
  exact pm_of hv (fun _ => rfl) (pt_val' hv (fun _ => rfl) fun _ => rfl)
end
end Mi
end
section
set_option Elab.async false
set_option linter.all false
set_option maxRecDepth 100000
set_option maxHeartbeats 2000000
/-! S15: what is walked. -/
namespace Mi
open PySem PySem.Spec PyProof.Rows L2

/-! ### enumerate(tuple) -/
section
open AutoSeq1 (wpAny_loadPart')
theorem enum_newT (l : Addr) (arr : Array Value) (m : Nat) (dd : Option Addr) (slt : Array (Option Value)) :
    Meets (Builtin.«enumerate.__new__» ⟨[.type "enumerate", .ref l], []⟩) fun _ R st =>
      st.heap.get? l = some { cls := .type "tuple", dict := dd, data := .seq arr m, slots := slt } ∧
        R (.ok (.ret (.ref (st.heap.push { cls := .type "tuple_iterator", data := .fields #[.ref l, .int 0 0] }).objs.size)))
          { st with heap := (st.heap.push { cls := .type "tuple_iterator", data := .fields #[.ref l, .int 0 0] }).push { cls := .type "enumerate", data := .fields #[.none, .bool false, .ref st.heap.objs.size, rawInt 0, .none, .none] } } := by
  refine Meets.of_wp fun pr wo Ar Re st0 hyp => ?_
  obtain ⟨hp0, g0, d0, t0, o0⟩ := st0
  obtain ⟨here, rest⟩ := hyp
  have subE := sub_enumerate
  have isT : Heap.IsTuple (Shared.heap ⟨hp0, g0, d0, t0, o0⟩) l arr := ⟨_, here, rfl, m, rfl⟩
  wp_walk using wpAny_loadPart' here
  refine wpAny_stack_any fun _ => wpAny_pure ?_
  split
  next c _ _ _ _ _ =>
    cases (c == Value.type "enumerate")
    all_goals
      wp_walk using wpAny_loadPart' here, wpAny_pyIter_tuple isT
      exact ⟨_, rfl, rest⟩
  next =>
    wp_walk using wpAny_loadPart' here, wpAny_pyIter_tuple isT
    exact ⟨_, rfl, rest⟩
theorem enum_callT {prog : Program} {w : World} {A : Around} {E : Value → Shared → Prop} {s : Shared} {l : Addr} {arr : Array Value} {Q : Value → Shared → Prop} (isT : s.heap.IsTuple l arr)
    (go : ∀ h', IsEnum h' (s.heap.objs.size + 1) s.heap.objs.size 0 .none → h'.IsTupleIter s.heap.objs.size l 0 → (∀ b o, s.heap.get? b = some o → h'.get? b = some o) → Q (.ref (s.heap.objs.size + 1)) { s with heap := h' }) :
    wpAny (model prog w) A (call (.type "enumerate") [.ref l]) Q E s := by
  obtain ⟨⟨c, dd, dt, slt⟩, here, hc, m, hd⟩ := isT
  obtain rfl : c = .type "tuple" := hc
  obtain rfl : dt = .seq arr m := hd
  refine callType_new F.called_enumerate (by decide) (F.typeCall_enumerate_1 _) (F.newCall_enumerate_1 _) (fun ob => F.args_object_init_2 ob _) F.entry_enumerate_new (enum_newT l arr m dd slt) ⟨here, ?_⟩
  have size1 : (s.heap.push { cls := .type "tuple_iterator", data := .fields #[.ref l, .int 0 0] }).objs.size = s.heap.objs.size + 1 := Heap.size_push ..
  show _ ∧ _
  rw [size1]
  have isE := Heap.get?_push_size (s.heap.push { cls := .type "tuple_iterator", data := .fields #[.ref l, .int 0 0] }) (o := { cls := .type "enumerate", data := .fields #[.none, .bool false, .ref s.heap.objs.size, rawInt 0, .none, .none] }) rfl
  rw [size1] at isE
  exact ⟨⟨_, isE, rfl⟩, go _ isE ⟨_, Heap.get?_push_of_some _ (Heap.get?_push_size _ rfl), rfl, rfl⟩ fun b o x => Heap.get?_push_of_some _ (Heap.get?_push_of_some _ x)⟩
end
/-- the tuple at a, each item in a new pair -/
def IteT (K : PySem.W.Frag) (a : Addr) : It where
  go := fun i H => ∃ (xs : List V) (x : V), SqT K H a xs ∧ xs[i]? = some x
  yld := fun i H v H' => ∃ p x, v = .ref p ∧ H p = none ∧ H' = upd H p (.tup [.int (i : Nat), x]) ∧ ∀ xs, SqT K H a xs → xs[i]? = some x
  stop := fun i H => ∃ xs : List V, SqT K H a xs ∧ xs.length = i
theorem turn_enumT {P : Program} {w : World} {K : PySem.W.Frag} {elts : List Expr} {kk : Nat} {tpos : Pos} (a e it : Addr) :
    Turn P w K (.Tuple elts kk tpos) (IteT K a) [e, it] e (fun i h => (∃ old, IsEnum h e it ((i : Nat) : Int) old) ∧ h.IsTupleIter it a i ∧ e ≠ it) where
  mem := List.mem_cons_self
  obj := by
    rintro i h ⟨⟨old, he⟩, ⟨o, ho, _, hd⟩, _⟩ b hb
    rcases List.mem_cons.mp hb with rfl | hb
    · exact ⟨_, he, fun v q => nomatch q⟩
    · rw [List.mem_singleton.mp hb]
      exact ⟨o, ho, fun v q => by rw [hd] at q; cases q⟩
  keep := by
    rintro i h h' ⟨⟨old, he⟩, hi, hne⟩ k
    exact ⟨⟨old, k e List.mem_cons_self _ he⟩, hi.at fun o q => k it (by simp) o q, hne⟩
  item := by
    intro X hP hw hK hc i pins s σ H E I hf st hg
    subst hP hw hK
    obtain ⟨⟨old, he⟩, hit, hne⟩ := st
    obtain ⟨xs, x, hq, hx⟩ := hg
    obtain ⟨its, rv, p, hz⟩ := I.tuple hq
    have lenI := rv.length
    have ilt : i < its.toArray.size := by
      have := (List.getElem?_eq_some_iff.mp hx).1
      simp only [List.size_toArray]; omega
    have low : ∀ b ∈ [e, it], b < s.heap.objs.size := by
      intro b hb
      rcases List.mem_cons.mp hb with rfl | hb
      · exact Heap.lt_size he
      · rw [List.mem_singleton.mp hb]
        obtain ⟨_, q, _⟩ := hit
        exact Heap.lt_size q
    have neA : a ≠ it := by
      rintro rfl
      obtain ⟨o1, g1, c1, _⟩ := hit
      obtain ⟨o2, g2, c2, _⟩ := p
      rw [g1] at g2; cases g2
      rw [c1] at c2
      injection c2 with q
      exact absurd q (by decide)
    have neE : a ≠ e := by
      rintro rfl
      obtain ⟨o2, g2, c2, _⟩ := p
      have he' : s.heap.get? a = _ := he
      rw [he'] at g2; cases g2
      injection c2 with q
      exact absurd q (by decide)
    have noH : X.A.in1.handled = none := I.ok.hd hc
    refine wpAny_pyNext_enum_itemD (Draws.tuple noH it a neA its.toArray) he ⟨hit, p⟩ ilt hne (by simp [hne, Ne.symm neE]) fun y h1 tk hy hout hst hT hsz hk => ?_
    obtain ⟨u, hu, ru⟩ := rv.get hx
    have hy' : its.toArray[i]? = some y := hy
    have ey : y = u := by
      rw [List.getElem?_toArray, hu] at hy'
      exact (Option.some.inj hy').symm
    subst ey
    refine ⟨_, rfl, wpAny_letOwnedTupleGo_enum (s := { s with heap := h1, toks := tk + 1 }) hout fun h2 he2 sb => ?_⟩
    have neT : s.heap.objs.size ≠ e := Nat.ne_of_gt (low e List.mem_cons_self)
    have tupT : h2.get? s.heap.objs.size = some { cls := .type "tuple", data := .seq #[.int i tk, y] } := (sb.2 _ neT).trans hT
    have okT : ObjOk X.prog X.w (upd H s.heap.objs.size (.tup [.int (i : Nat), x])) h2 s.heap.objs.size (.tup [.int (i : Nat), x]) :=
      ⟨show 2 ≤ sizeLine by decide, [.int i tk, y], .cons ⟨_, rfl⟩ (.cons ru .nil), ⟨_, tupT, rfl, _, rfl⟩⟩
    have J := I.turnedNew (ch := [e, it]) (fun b ob nb q => (sb.2 b fun z => nb (by simp [z])).trans (hk b ob (fun z => nb (by simp [z])) (fun z => nb (by simp [z])) q)) hf (Nat.le_refl _) okT (t' := tk + 1)
    refine ⟨.ref s.heap.objs.size, _, J, rfl, ⟨_, x, rfl, I.hok.fresh (Nat.le_refl _), rfl, fun ys hys => by rw [I.tuple_inj hys hq]; exact hx⟩, ⟨⟨y, ?_⟩, hst.1.at fun o q => (sb.2 it (Ne.symm hne)).trans q, hne⟩, fun b hb => ?_⟩
    · have e1 : ((i + 1 : Nat) : Int) = (i : Int) + 1 := by omega
      rw [e1]; exact he2
    · rw [upd_ne (Nat.ne_of_lt (low b hb))]
      exact (hf b hb).1
  done := by
    intro X hP hw hK hc i pins s σ H E I hf st hg
    subst hP hw hK
    obtain ⟨⟨old, he⟩, hit, hne⟩ := st
    obtain ⟨xs, hq, hx⟩ := hg
    obtain ⟨its, rv, p, hz⟩ := I.tuple hq
    have lenI := rv.length
    obtain ⟨f0, f1, f2, f3, f4, f5⟩ := hf it (by simp)
    have neA : a ≠ it := by
      rintro rfl
      obtain ⟨o1, g1, c1, _⟩ := hit
      obtain ⟨o2, g2, c2, _⟩ := p
      rw [g1] at g2; cases g2
      rw [c1] at c2
      injection c2 with q
      exact absurd q (by decide)
    have noH : X.A.in1.handled = none := I.ok.hd hc
    have ei : i = its.toArray.size := by simp only [List.size_toArray]; omega
    subst ei
    exact wpAny_pyNext_enum_endD (Draws.tuple noH it a neA its.toArray) he ⟨hit, p⟩ fun h' eb => ⟨rfl, I.turned (t' := s.toks) (fun b o hb q => eb b o hb q) f0 f1 f3 f4 f5⟩
  self := fun A i s Q E st h => let ⟨⟨_, he⟩, _⟩ := st; wpAny_pyIter_enum he h

/-! ### walks by mini values -/
/-- what the operands are: nobody's -/
abbrev Src (K : PySem.W.Frag) (L : Addr → Prop) (H : Hp) : List V → List PV → Prop := Paired fun v x => Own K L H 0 x v []
/-- kinds whose items are new pairs -/
def pairK : Ik → Bool
  | .enum => true
  | .zip2 => true
  | .zip3 => true
  | .items => true
  | _ => false
def WM (K : PySem.W.Frag) (pk : Bool) (J : It) (items : List PV) (vs : List V) (xs : List PV) : Prop := ∀ (L : Addr → Prop) (H : Hp), Src K L H vs xs →
  (∀ i, i < items.length → J.go i H) ∧ J.stop items.length H ∧ ∀ i x H', J.yld i H x H' → ∀ Z, items[i]? = some Z →
    (H' = H ∧ Own K L H 0 Z x []) ∨ pk = true ∧ ∃ p vs' zs, x = .ref p ∧ Z = .tup zs ∧ H p = none ∧ H' = upd H p (.tup vs') ∧ Owns K L H 0 zs vs' []
def rI (K : PySem.W.Frag) (k : Ik) (vs : List V) (H : Hp) (R : It → Hp → Prop) : Prop := ∃ L xs items, Src K L H vs xs ∧ iter k xs = some items ∧ ∀ J, WM K (pairK k) J items vs xs → R J H
section
variable {K : PySem.W.Frag} {L : Addr → Prop} {H : Hp}
theorem own0_lst {v : V} {xs : List PV} (h : Own K L H 0 (.lst xs) v []) : ∃ a vs, v = .ref a ∧ H a = some (.lst vs) ∧ Owns K L H 0 xs vs [] := by
  obtain ⟨_, a, vs, e, _, r, o⟩ := h; exact ⟨a, vs, e, r, o⟩
theorem own0_tup {v : V} {xs : List PV} (h : Own K L H 0 (.tup xs) v []) : ∃ a vs, v = .ref a ∧ SqT K H a vs ∧ Owns K L H 0 xs vs [] := by
  obtain ⟨_, a, vs, e, r, o⟩ := h; exact ⟨a, vs, e, r.toT, o⟩
theorem owns_at {xs : List PV} {vs : List V} (h : Owns K L H 0 xs vs []) {i : Nat} {Z : PV} {x : V} (e1 : xs[i]? = some Z) (e2 : vs[i]? = some x) : Own K L H 0 Z x [] := by
  obtain ⟨y, h1, h2⟩ := pair_at (owns_iff.mp h) e1
  rw [e2] at h1; cases h1
  exact h2
theorem src_one {vs : List V} {A : PV} (h : Src K L H vs [A]) : ∃ v, vs = [v] ∧ Own K L H 0 A v [] := by
  cases h with
  | cons h1 h2 => cases h2; exact ⟨_, rfl, h1⟩
theorem src_two {vs : List V} {A B : PV} (h : Src K L H vs [A, B]) : ∃ v w, vs = [v, w] ∧ Own K L H 0 A v [] ∧ Own K L H 0 B w [] := by
  cases h with
  | cons h1 h2 => obtain ⟨w, rfl, h3⟩ := src_one h2; exact ⟨_, w, rfl, h1, h3⟩
theorem wm_list {a : Addr} {As : List PV} {pk : Bool} : WM K pk (Itl K a) As [.ref a] [.lst As] := fun L H s => by
  obtain ⟨v, ev, h⟩ := src_one s
  cases ev
  obtain ⟨a', vs, e, r, o⟩ := own0_lst h
  cases e
  have w := walk_list (K := K) (a := a) (xs := vs)
  have hl := owns_len o
  refine ⟨fun i hi => w.goes i H (by omega) (SqL.of r), by rw [← hl]; exact w.stops H (SqL.of r), fun i x H' y Z e1 => ?_⟩
  have hi : i < vs.length := by rw [hl]; exact (List.getElem?_eq_some_iff.mp e1).1
  obtain ⟨e2, e3⟩ := w.yields i H x H' hi (SqL.of r) y
  exact .inl ⟨e2, owns_at o e1 e3⟩
theorem wm_tup {a : Addr} {As : List PV} {pk : Bool} : WM K pk (Itt K a) As [.ref a] [.tup As] := fun L H s => by
  obtain ⟨v, ev, h⟩ := src_one s
  cases ev
  obtain ⟨a', vs, e, r, o⟩ := own0_tup h
  cases e
  have w := walk_tup (K := K) (a := a) (xs := vs)
  have hl := owns_len o
  refine ⟨fun i hi => w.goes i H (by omega) r, by rw [← hl]; exact w.stops H r, fun i x H' y Z e1 => ?_⟩
  have hi : i < vs.length := by rw [hl]; exact (List.getElem?_eq_some_iff.mp e1).1
  obtain ⟨e2, e3⟩ := w.yields i H x H' hi r y
  exact .inl ⟨e2, owns_at o e1 e3⟩
theorem scr_sq {a : Addr} {ns : List Int} (h : ScrAt K H a ns) : SqL K H a (ns.map V.int) := by
  rcases h with ⟨o, e⟩ | ⟨o, its, n, h1, h2, h3, h4, h5, h6⟩
  · exact .inl (.inr ⟨o, e⟩)
  · exact .inr ⟨o, its, n, h1, h2, h3, h4, h5, h6⟩
theorem wm_scr {a : Addr} {ns : List Int} {pk : Bool} : WM K pk (Itl K a) (ns.map .int) [.ref a] [.scr ns] := fun L H s => by
  obtain ⟨v, ev, h⟩ := src_one s
  cases ev
  obtain ⟨_, a', e, r⟩ := h
  cases e
  have w := walk_list (K := K) (a := a) (xs := ns.map V.int)
  refine ⟨fun i hi => w.goes i H (by simpa using hi) (scr_sq r), by rw [List.length_map, ← List.length_map (f := V.int)]; exact w.stops H (scr_sq r), fun i x H' y Z e1 => ?_⟩
  have hi : i < (ns.map V.int).length := by
    rw [List.length_map]
    have := (List.getElem?_eq_some_iff.mp e1).1
    simpa using this
  obtain ⟨e2, e3⟩ := w.yields i H x H' hi (scr_sq r) y
  exact .inl ⟨e2, owns_at (owns_ints ns) e1 e3⟩
theorem wm_range {lo : Int} {n : Nat} {vs : List V} {xs : List PV} {pk : Bool} : WM K pk (Itr lo n) (upto lo n) vs xs := fun L H s => by
  have hl : (upto lo n).length = n := by rw [upto_eq]; simp
  refine ⟨fun i hi => by rw [hl] at hi; exact hi, by rw [hl]; exact Nat.le_refl _, fun i x H' y Z e1 => .inl ⟨y.1, ?_⟩⟩
  rw [upto_eq, List.getElem?_map] at e1
  obtain ⟨j, e2, rfl⟩ := Option.map_eq_some_iff.mp e1
  have e3 := List.getElem?_eq_some_iff.mp e2
  obtain ⟨h1, h2⟩ := e3
  rw [List.getElem_range] at h2
  subst h2
  exact ⟨rfl, y.2⟩
theorem enum_at : ∀ (As : List PV) (k i : Nat), (enumFrom' k As)[i]? = (As[i]?).map fun x => PV.tup [.int ((k + i : Nat) : Int), x]
  | [], k, i => by simp [enumFrom']
  | x :: r, k, 0 => by simp [enumFrom']
  | x :: r, k, i + 1 => by
    unfold enumFrom'
    rw [List.getElem?_cons_succ, List.getElem?_cons_succ, enum_at r (k + 1) i]
    have : k + 1 + i = k + (i + 1) := by omega
    rw [this]
theorem enum_len : ∀ (As : List PV) (k : Nat), (enumFrom' k As).length = As.length
  | [], k => rfl
  | x :: r, k => by unfold enumFrom'; rw [List.length_cons, List.length_cons, enum_len r]
theorem owns_pair2 {a b : PV} {x y : V} (h1 : Own K L H 0 a x []) (h2 : Own K L H 0 b y []) : Owns K L H 0 [a, b] [x, y] [] := ⟨x, [y], [], [], rfl, rfl, h1, y, [], [], [], rfl, rfl, h2, rfl, rfl⟩
theorem wm_enumL {a : Addr} {As : List PV} : WM K true (Ite K a) (enumFrom' 0 As) [.ref a] [.lst As] := fun L H s => by
  obtain ⟨v, ev, h⟩ := src_one s
  cases ev
  obtain ⟨a', vs, e, r, o⟩ := own0_lst h
  cases e
  have w := walk_enum (K := K) (a := a) (xs := vs)
  have hl := owns_len o
  rw [enum_len]
  refine ⟨fun i hi => w.goes i H (by omega) (SqL.of r), by rw [← hl]; exact w.stops H (SqL.of r), fun i x H' y Z e1 => ?_⟩
  rw [enum_at] at e1
  obtain ⟨B, e2, rfl⟩ := Option.map_eq_some_iff.mp e1
  have hi : i < vs.length := by rw [hl]; exact (List.getElem?_eq_some_iff.mp e2).1
  obtain ⟨p, x1, x2, e3, e4, e5, e6, e7⟩ := w.yields i H x H' hi (SqL.of r) y
  cases e6
  rw [Nat.zero_add]
  exact .inr ⟨rfl, p, _, _, e3, rfl, e4, e5, owns_pair2 ⟨rfl, rfl⟩ (owns_at o e2 e7)⟩
theorem wm_enumT {a : Addr} {As : List PV} : WM K true (IteT K a) (enumFrom' 0 As) [.ref a] [.tup As] := fun L H s => by
  obtain ⟨v, ev, h⟩ := src_one s
  cases ev
  obtain ⟨a', vs, e, r, o⟩ := own0_tup h
  cases e
  have hl := owns_len o
  rw [enum_len]
  refine ⟨fun i hi => ⟨vs, vs[i]'(by omega), r, by simp [show i < vs.length by omega]⟩, ⟨vs, r, hl⟩, fun i x H' y Z e1 => ?_⟩
  rw [enum_at] at e1
  obtain ⟨B, e2, rfl⟩ := Option.map_eq_some_iff.mp e1
  obtain ⟨p, x2, e3, e4, e5, e7⟩ := y
  rw [Nat.zero_add]
  exact .inr ⟨rfl, p, _, _, e3, rfl, e4, e5, owns_pair2 ⟨rfl, rfl⟩ (owns_at o e2 (e7 vs r))⟩
theorem zip_at : ∀ (As Bs : List PV) (i : Nat) (Z : PV), (zipP As Bs)[i]? = some Z → ∃ A B, As[i]? = some A ∧ Bs[i]? = some B ∧ Z = .tup [A, B]
  | [], Bs, i, Z, e => by simp [zipP] at e
  | A :: As, [], i, Z, e => by simp [zipP] at e
  | A :: As, B :: Bs, 0, Z, e => by
    simp [zipP] at e
    exact ⟨A, B, rfl, rfl, e.symm⟩
  | A :: As, B :: Bs, i + 1, Z, e => by
    have e' : (zipP As Bs)[i]? = some Z := by simpa [zipP] using e
    obtain ⟨a, b, h1, h2, h3⟩ := zip_at As Bs i Z e'
    exact ⟨a, b, by simpa using h1, by simpa using h2, h3⟩
theorem zip_len : ∀ (As Bs : List PV), (zipP As Bs).length = min As.length Bs.length
  | [], Bs => by simp [zipP]
  | A :: As, [] => by simp [zipP]
  | A :: As, B :: Bs => by simp only [zipP, List.length_cons, zip_len As Bs]; omega
theorem wm_zipL {a b : Addr} {As Bs : List PV} : WM K true (Itz K a b) (zipP As Bs) [.ref a, .ref b] [.lst As, .lst Bs] := fun L H s => by
  obtain ⟨v, w', ev, h, h'⟩ := src_two s
  cases ev
  obtain ⟨a', vs, e, r, o⟩ := own0_lst h
  cases e
  obtain ⟨b', ws, e, r', o'⟩ := own0_lst h'
  cases e
  have hl := owns_len o
  have hl' := owns_len o'
  have w := walk_zip (K := K) (a := a) (b := b) (xs := vs) (ys := ws) (n := min vs.length ws.length) rfl
  rw [zip_len, ← hl, ← hl']
  refine ⟨fun i hi => w.goes i H hi ⟨SqL.of r, SqL.of r'⟩, w.stops H ⟨SqL.of r, SqL.of r'⟩, fun i x H' y Z e1 => ?_⟩
  obtain ⟨A, B, e2, e3, rfl⟩ := zip_at _ _ _ _ e1
  have hi : i < min vs.length ws.length := by
    have := (List.getElem?_eq_some_iff.mp e2).1
    have := (List.getElem?_eq_some_iff.mp e3).1
    omega
  obtain ⟨p, x1, x2, e4, e5, e6, e7, e8⟩ := w.yields i H x H' hi ⟨SqL.of r, SqL.of r'⟩ y
  exact .inr ⟨rfl, p, _, _, e4, rfl, e5, e6, owns_pair2 (owns_at o e2 e7) (owns_at o' e3 e8)⟩
theorem wm_zipT {a b : Addr} {As Bs : List PV} : WM K true (RZ.ItzT K a b) (zipP As Bs) [.ref a, .ref b] [.tup As, .tup Bs] := fun L H s => by
  obtain ⟨v, w', ev, h, h'⟩ := src_two s
  cases ev
  obtain ⟨a', vs, e, r, o⟩ := own0_tup h
  cases e
  obtain ⟨b', ws, e, r', o'⟩ := own0_tup h'
  cases e
  have hl := owns_len o
  have hl' := owns_len o'
  rw [zip_len, ← hl, ← hl']
  refine ⟨fun i hi => ⟨vs, ws, vs[i]'(by omega), ws[i]'(by omega), r, r', by simp [show i < vs.length by omega], by simp [show i < ws.length by omega]⟩, ⟨vs, ws, r, r', by omega⟩, fun i x H' y Z e1 => ?_⟩
  obtain ⟨A, B, e2, e3, rfl⟩ := zip_at _ _ _ _ e1
  obtain ⟨p, x1, x2, e4, e5, e6, e7, e8⟩ := y
  exact .inr ⟨rfl, p, _, _, e4, rfl, e5, e6, owns_pair2 (owns_at o e2 (e7 vs r)) (owns_at o' e3 (e8 ws r'))⟩
end
section
variable {X : Cx} {tg e : Expr} {es : List Expr} {t : TA} {N : List Str} {sc : Scope}
/-- a list, a tuple, the script -/
theorem pi_seq {te : TE} (he : PE X e te) : PI X tg e (fun σ H R => te σ H fun v H1 => rI X.K .seq [v] H1 R) := by
  constructor
  intro pins s0 σ H R J q0
  refine thn (he.run pins s0 σ H _ J q0) ?_
  rintro u s1 ⟨v, H1, J1, rv, L, xs, items, src, ei, go⟩
  have ei1 : ∃ A, xs = [A] ∧ Mi.items A = some items := by
    match xs, src, ei with
    | [A], _, ei => exact ⟨A, rfl, ei⟩
  obtain ⟨A, rfl, ei1⟩ := ei1
  obtain ⟨v', ev, ho⟩ := src_one src
  cases ev
  have fresh : ∀ b ∈ [s1.heap.objs.size], FpOk X pins H1 b := fun b hb => by
    rw [List.mem_singleton.mp hb]
    exact J1.fpOk (Nat.le_refl _) (J1.hok.fresh (Nat.le_refl _))
  have overL : ∀ {a : Addr} {vs : List V}, v = .ref a → SqL X.K H1 a vs → R (Itl X.K a) H1 → wpAny (model X.prog X.w) X.A (pyIter u) (PIE X pins σ tg R) X.xe s1 := fun {a vs} ea hs r => by
    subst ea
    cases rv
    obtain ⟨its, _, isL, _⟩ := J1.list hs
    apply wpAny_pyIter_list isL.isList
    exact ⟨_, [s1.heap.objs.size], _, _, H1, rfl, J1.kept (t' := s1.toks) fun b o q => Heap.get?_push_of_some _ q, turn_list a _, ⟨_, Heap.get?_push_size _ rfl, rfl, rfl⟩, fresh, r⟩
  unfold Mi.items at ei1
  split at ei1
  · cases ei1
    obtain ⟨a, vs, ea, r, o⟩ := own0_lst ho
    exact overL ea (SqL.of r) (go _ (by rw [ea]; exact wm_list))
  · cases ei1
    obtain ⟨a, vs, ea, r, o⟩ := own0_tup ho
    subst ea
    cases rv
    obtain ⟨its, _, isT, _⟩ := J1.tuple r
    apply wpAny_pyIter_tuple (show s1.heap.IsTuple a its.toArray from isT)
    exact ⟨_, [s1.heap.objs.size], _, _, H1, rfl, J1.kept (t' := s1.toks) fun b o q => Heap.get?_push_of_some _ q, turn_tuple a _, ⟨_, Heap.get?_push_size _ rfl, rfl, rfl⟩, fresh, go _ wm_tup⟩
  · cases ei1
    obtain ⟨_, a, ea, r⟩ := ho
    exact overL ea (scr_sq r) (go _ (by rw [ea]; exact wm_scr))
  · cases ei1
theorem piImp {w w' : TI} (h : PI X tg e w) (g : ∀ σ H R, w' σ H R → w σ H R) : PI X tg e w' := ⟨fun pins s σ H R I q => h.run pins s σ H R I (g σ H R q)⟩
theorem iter_one {k : Ik} {xs items : List PV} (h2 : ∀ a b, iter2 k a b = none) (h3 : ∀ a b c, iter3 k a b c = none) (e : iter k xs = some items) : ∃ A, xs = [A] ∧ iter1 k A = some items := by
  match xs, e with
  | [A], e => exact ⟨A, rfl, e⟩
  | [A, B], e =>
    have e' : iter2 k A B = some items := e
    rw [h2] at e'; cases e'
  | [A, B, C], e =>
    have e' : iter3 k A B C = some items := e
    rw [h3] at e'; cases e'
theorem iter_two {k : Ik} {xs items : List PV} (h1 : ∀ a, iter1 k a = none) (h3 : ∀ a b c, iter3 k a b c = none) (e : iter k xs = some items) : ∃ A B, xs = [A, B] ∧ iter2 k A B = some items := by
  match xs, e with
  | [A], e =>
    have e' : iter1 k A = some items := e
    rw [h1] at e'; cases e'
  | [A, B], e => exact ⟨A, B, rfl, e⟩
  | [A, B, C], e =>
    have e' : iter3 k A B C = some items := e
    rw [h3] at e'; cases e'
variable {fx : List (Nat × V)} {XR : XRel} {W : WX} {G : Cfg} {ms : List ME}
theorem tos_mono {σ : L2.St} {H : Hp} {Q Q' : List V → Hp → Prop} (h : TOs X.K fx XR W G ms σ H Q) (g : ∀ vs H1, Q vs H1 → Q' vs H1) : TOs X.K fx XR W G ms σ H Q' := by
  obtain ⟨ρ, O, F, r, t⟩ := h
  exact ⟨ρ, O, F, r, Tm.mono t g⟩
/-- the operands, then the walk -/
abbrev TIM (X : Cx) (fx : List (Nat × V)) (XR : XRel) (W : WX) (G : Cfg) (k : Ik) (ms : List ME) : TI := fun σ H R => TOs X.K fx XR W G ms σ H fun vs H1 => rI X.K k vs H1 R
/-- what is walked, as it is written; the target is a tuple or not -/
def isTupE : Expr → Bool
  | .Tuple _ _ _ => true
  | _ => false
def ckIt (sc : Scope) (k : Ik) (tg : Expr) (g : List Expr → Bool) (e : Expr) : Bool := match k with
  | .seq => noStar e && g [e] && noSetE e
  | .range1 => (match e with
    | .Call (.Name x _) [a] [] _ => glB sc x && decide (x = Str.ofString "range") && noStar a && g [a]
    | _ => false)
  | .range2 => (match e with
    | .Call (.Name x _) [a, b] [] _ => glB sc x && decide (x = Str.ofString "range") && noStar a && noStar b && g [a, b]
    | _ => false)
  | .enum => isTupE tg && (match e with
    | .Call (.Name x _) [a] [] _ => glB sc x && decide (x = Str.ofString "enumerate") && noStar a && g [a]
    | _ => false)
  | .zip2 => isTupE tg && (match e with
    | .Call (.Name x _) [a, b] [] _ => glB sc x && decide (x = Str.ofString "zip") && noStar a && noStar b && g [a, b]
    | _ => false)
  | _ => false
where
  noSetE : Expr → Bool
    | .Set _ _ _ => false
    | _ => true
theorem pi_enumA {a : Expr} {p pos tpos : Pos} {elts : List Expr} {kk : Nat} (hg : Gl X "enumerate") (hm : X.mg "enumerate" = none) (ha : PA X [a] (TOs X.K fx XR W G ms)) (hs : noStar a = true) :
    PI X (.Tuple elts kk tpos) (.Call (.Name "enumerate" p) [a] [] pos) (TIM X fx XR W G .enum ms) := by
  constructor
  intro pins s0 σ H R J q0
  have hst : starEach [a] X.env = [(false, eval a X.env)] := star_cons hs
  refine Call_ (ld_blt J hg hm boot_enumerate (PyProof.Rows.callWith_type1 (thn (ha.run pos pins s0 σ H _ J q0) ?_) hst rfl))
  rintro us s1 ⟨vs, H1, J1, rv, L, xs, items, src, ei, go⟩
  obtain ⟨A, rfl, e1⟩ := iter_one (k := .enum) (fun _ _ => rfl) (fun _ _ _ => rfl) ei
  obtain ⟨v, rfl, ho⟩ := src_one src
  obtain ⟨As, e2, rfl⟩ := Option.map_eq_some_iff.mp (show (elems A).map (enumFrom' 0) = some items from e1)
  obtain ⟨u, rfl, ru⟩ := vals1 rv
  have fresh : ∀ b ∈ [s1.heap.objs.size + 1, s1.heap.objs.size], FpOk X pins H1 b := fun b hb => by
    have hle : s1.heap.objs.size ≤ b := by
      rcases List.mem_cons.mp hb with z | z
      · rw [z]; exact Nat.le_succ _
      · rw [List.mem_singleton.mp z]; exact Nat.le_refl _
    exact J1.fpOk hle (J1.hok.fresh hle)
  cases A <;> first | (cases e2; done) | skip
  · cases e2
    obtain ⟨b, ws, rfl, r, o⟩ := own0_tup ho
    cases ru
    obtain ⟨its, _, isT, _⟩ := J1.tuple r
    refine enum_callT (show s1.heap.IsTuple b its.toArray from isT) fun h' he hit hk => wpAny_pyIter_enum he ?_
    exact ⟨s1.heap.objs.size + 1, _, _, _, H1, rfl, J1.kept (t' := s1.toks) hk, turn_enumT b (s1.heap.objs.size + 1) s1.heap.objs.size, ⟨⟨.none, he⟩, hit, Nat.succ_ne_self _⟩, fresh, go _ wm_enumT⟩
  · cases e2
    obtain ⟨b, ws, rfl, r, o⟩ := own0_lst ho
    cases ru
    obtain ⟨its, _, isL, _⟩ := J1.list (SqL.of r)
    refine call_enumerate_list isL.isList fun h' he hit _ hk => wpAny_pyIter_enum he ?_
    exact ⟨s1.heap.objs.size + 1, _, _, _, H1, rfl, J1.kept (t' := s1.toks) hk, turn_enum b (s1.heap.objs.size + 1) s1.heap.objs.size, ⟨⟨.none, he⟩, hit, Nat.succ_ne_self _⟩, fresh, go _ wm_enumL⟩
theorem pm_it (hX : XOk X N sc) {k : Ik} {g : List Expr → Bool} (hg : ∀ es, g es = true → PMs X fx XR W G ms es) (h : ckIt sc k tg g e = true) : PI X tg e (TIM X fx XR W G k ms) ∧ ∀ x, foldedSetIterable e X.env x = pure x := by
  have nm : ∀ {x}, x ∈ bltNames → X.mg x = none := fun h => hX.blt _ h
  unfold ckIt at h
  split at h
  · obtain ⟨h1, h2⟩ := band h
    obtain ⟨h1, h3⟩ := band h1
    obtain ⟨m, rfl, pm⟩ := pms_one (hg _ h3)
    refine ⟨piImp (pi_seq pm.o) fun σ H R q => ?_, fun x => ?_⟩
    · obtain ⟨ρ, O, F, r, t⟩ := tos_cons q
      exact ⟨ρ, O, F, r, Tm.mono t fun x H1 q1 => tos_nil q1⟩
    · cases e <;> first | rfl | (cases h2; done)
  · split at h
    · obtain ⟨h1, h2⟩ := band h
      obtain ⟨h1, h3⟩ := band h1
      obtain ⟨h1, h4⟩ := band h1
      obtain rfl := of_decide_eq_true h4
      obtain ⟨g1, g2⟩ := glB_of hX h1
      refine ⟨piImp (pi_range1 g1 (nm (by decide +kernel)) (pm_pa_o (hg _ h2) (by rw [List.all_cons, h3]; rfl)) (star_cons h3)) fun σ H R q => ?_, fun x => rfl⟩
      refine tos_mono q fun vs H1 ⟨L, xs, items, src, ei, go⟩ => ?_
      obtain ⟨A, rfl, e1⟩ := iter_one (k := .range1) (fun _ _ => rfl) (fun _ _ _ => rfl) ei
      obtain ⟨v, rfl, ho⟩ := src_one src
      have e1 : itR1 A = some items := e1
      unfold itR1 at e1
      split at e1
      · split at e1
        · rename_i n _ hw
          cases e1
          have hw' := wide_of hw
          refine ⟨n, by rw [ho.2], hw'.1, hw'.2, go _ ?_⟩
          have := wm_range (pk := false) (K := X.K) (lo := 0) (n := n.toNat) (vs := [v]) (xs := [.int n])
          exact this
        · cases e1
      · cases e1
    · cases h
  · split at h
    · obtain ⟨h1, h2⟩ := band h
      obtain ⟨h1, h3⟩ := band h1
      obtain ⟨h1, h5⟩ := band h1
      obtain ⟨h1, h4⟩ := band h1
      obtain rfl := of_decide_eq_true h4
      obtain ⟨g1, g2⟩ := glB_of hX h1
      refine ⟨piImp (pi_range2 g1 (nm (by decide +kernel)) (pm_pa_o (hg _ h2) (by rw [List.all_cons, List.all_cons, h3, h5]; rfl)) (by rw [star_cons h5, star_cons h3]; rfl) (star_cons h3)) fun σ H R q => ?_, fun x => rfl⟩
      refine tos_mono q fun vs H1 ⟨L, xs, items, src, ei, go⟩ => ?_
      obtain ⟨A, B, rfl, e1⟩ := iter_two (k := .range2) (fun _ => rfl) (fun _ _ _ => rfl) ei
      obtain ⟨v, w, rfl, ho, ho2⟩ := src_two src
      have e1 : itR2 A B = some items := e1
      unfold itR2 at e1
      split at e1
      · split at e1
        · rename_i i j _ hw
          cases e1
          obtain ⟨w1, w2⟩ := band hw
          have hw1 := wide_of w1
          have hw2 := wide_of w2
          exact ⟨i, j, by rw [ho.2, ho2.2], ⟨hw1.1, hw1.2, hw2.1, hw2.2⟩, go _ wm_range⟩
        · cases e1
      · cases e1
    · cases h
  · obtain ⟨ht, h'⟩ := band h
    clear h
    cases tg <;> first | (cases ht; done) | skip
    split at h'
    · obtain ⟨h1, h2⟩ := band h'
      obtain ⟨h1, h3⟩ := band h1
      obtain ⟨h1, h4⟩ := band h1
      obtain rfl := of_decide_eq_true h4
      obtain ⟨g1, g2⟩ := glB_of hX h1
      exact ⟨pi_enumA g1 (nm (by decide +kernel)) (pm_pa_o (hg _ h2) (by rw [List.all_cons, h3]; rfl)) h3, fun x => rfl⟩
    · cases h'
  · obtain ⟨ht, h'⟩ := band h
    clear h
    cases tg <;> first | (cases ht; done) | skip
    split at h'
    · obtain ⟨h1, h2⟩ := band h'
      obtain ⟨h1, h3⟩ := band h1
      obtain ⟨h1, h5⟩ := band h1
      obtain ⟨h1, h4⟩ := band h1
      obtain rfl := of_decide_eq_true h4
      obtain ⟨g1, g2⟩ := glB_of hX h1
      refine ⟨piImp (RZ.pi_zipA g1 (nm (by decide +kernel)) (pm_pa_o (hg _ h2) (by rw [List.all_cons, List.all_cons, h3, h5]; rfl)) (star_cons h5) (by rw [star_cons h3]; rfl)) fun σ H R q => ?_, fun x => rfl⟩
      refine tos_mono q fun vs H1 ⟨L, xs, items, src, ei, go⟩ => ?_
      obtain ⟨A, B, rfl, e1⟩ := iter_two (k := .zip2) (fun _ => rfl) (fun _ _ _ => rfl) ei
      obtain ⟨v, w, rfl, ho, ho2⟩ := src_two src
      cases A <;> cases B <;> first | (cases e1; done) | skip
      · cases e1
        obtain ⟨a, ws, rfl, r, o⟩ := own0_tup ho
        obtain ⟨b, ws2, rfl, r2, o2⟩ := own0_tup ho2
        exact ⟨a, b, ws, ws2, rfl, .inr ⟨r, r2, go _ wm_zipT⟩⟩
      · cases e1
        obtain ⟨a, ws, rfl, r, o⟩ := own0_lst ho
        obtain ⟨b, ws2, rfl, r2, o2⟩ := own0_lst ho2
        exact ⟨a, b, ws, ws2, rfl, .inl ⟨SqL.of r, SqL.of r2, go _ wm_zipL⟩⟩
    · cases h'
  · cases h
end
end Mi
end
section
set_option Elab.async false
set_option linter.all false
set_option maxRecDepth 100000
set_option maxHeartbeats 2000000
/-! S16: changes in place. -/
namespace Mi
open PySem PySem.Spec PyProof.Rows L2
section
variable {K : PySem.W.Frag} {H H' : Hp} {L L' : Addr → Prop}
/-- an owned list or dict is written -/
theorem stay_upd {c : Addr} {o o' : HO} {A : List Addr} (hc : H c = some o) (ho : IsLD (some o)) (lc : L c) (nc : c ∉ A) (n : ∀ b, H b ≠ none → ¬ L b → ¬ L' b) : Stay L L' H (upd H c o') A where
  ht := fun b u e => by
    have z : b ≠ c := fun z => by
      rw [z, hc] at e
      cases e
      rcases ho with ⟨_, q⟩ | ⟨_, q⟩ <;> cases q
    rw [upd_ne z]; exact e
  hf := fun b o1 u e => by
    have z : b ≠ c := fun z => by
      rw [z, hc] at e
      cases e
      rcases ho with ⟨_, q⟩ | ⟨_, q⟩ <;> cases q
    rw [upd_ne z]; exact e
  k := fun b o1 e hb => by
    have z : b ≠ c := fun z => by
      rcases hb with hb | hb
      · exact nc (z ▸ hb)
      · exact hb (z ▸ lc)
    rw [upd_ne z]; exact e
  n := n
/-- the items of a list: one apart from the others, to be replaced -/
theorem owns_split : ∀ {xs : List PV} {d : Nat} {vs : List V} {O : List Addr} {j : Nat} {y : PV}, Owns K L H d xs vs O → xs[j]? = some y →
    ∃ w E1 Ry E2, vs[j]? = some w ∧ O = E1 ++ (Ry ++ E2) ∧ Own K L H d y w Ry ∧
      (∀ (L' : Addr → Prop) (H' : Hp) (y' : PV) (w' : V) (Ry' : List Addr), Stay L L' H H' (E1 ++ E2) → Own K L' H' d y' w' Ry' → Owns K L' H' d (xs.set j y') (vs.set j w') (E1 ++ (Ry' ++ E2))) ∧
      ∀ (L' : Addr → Prop) (H' : Hp), Stay L L' H H' (E1 ++ E2) → Owns K L' H' d (xs.eraseIdx j) (vs.eraseIdx j) (E1 ++ E2)
  | [], _, _, _, j, y, h, e => by simp at e
  | x :: xs, d, _, _, 0, y, h, e => by
    obtain ⟨v, vr, O1, O2, rfl, rfl, h1, h2⟩ := h
    simp at e
    subst e
    exact ⟨v, [], O1, O2, rfl, rfl, h1, fun L' H' y' w' Ry' s hy => ⟨w', vr, Ry', O2, rfl, rfl, hy, Owns.stay h2 s⟩, fun L' H' s => Owns.stay h2 s⟩
  | x :: xs, d, _, _, j + 1, y, h, e => by
    obtain ⟨v, vr, O1, O2, rfl, rfl, h1, h2⟩ := h
    obtain ⟨w, E1, Ry, E2, e1, rfl, h3, g, g2⟩ := owns_split (j := j) h2 (by simpa using e)
    refine ⟨w, O1 ++ E1, Ry, E2, by simpa using e1, by simp, h3, fun L' H' y' w' Ry' s hy => ?_, fun L' H' s => ?_⟩
    · exact ⟨v, vr.set j w', O1, E1 ++ (Ry' ++ E2), rfl, by simp, Own.stay h1 (s.mono fun b hb => by simp [hb]), g L' H' y' w' Ry' (s.mono fun b hb => by
        simp only [List.mem_append] at hb ⊢
        exact hb.imp .inr id) hy⟩
    · exact ⟨v, vr.eraseIdx j, O1, E1 ++ E2, rfl, by simp, Own.stay h1 (s.mono fun b hb => by simp [hb]), g2 L' H' (s.mono fun b hb => by
        simp only [List.mem_append] at hb ⊢
        exact hb.imp .inr id)⟩
/-- two parts of a list -/
theorem owns_cut : ∀ {xs : List PV} {d : Nat} {vs : List V} {O : List Addr} (n : Nat), Owns K L H d xs vs O → ∃ E1 E2, O = E1 ++ E2 ∧ Owns K L H d (xs.take n) (vs.take n) E1 ∧ Owns K L H d (xs.drop n) (vs.drop n) E2
  | xs, d, vs, O, 0, h => ⟨[], O, rfl, ⟨by simp, rfl⟩, by simpa using h⟩
  | [], d, vs, O, n + 1, h => by
    obtain ⟨rfl, rfl⟩ := h
    exact ⟨[], [], rfl, ⟨rfl, rfl⟩, ⟨rfl, rfl⟩⟩
  | x :: xs, d, vs, O, n + 1, h => by
    obtain ⟨v, vr, O1, O2, rfl, rfl, h1, h2⟩ := h
    obtain ⟨E1, E2, rfl, k1, k2⟩ := owns_cut n h2
    exact ⟨O1 ++ E1, E2, by simp, ⟨v, vr.take n, O1, E1, rfl, rfl, h1, k1⟩, k2⟩
theorem owns_join : ∀ {xs ys : List PV} {d : Nat} {vs ws : List V} {O P : List Addr}, Owns K L H d xs vs O → Owns K L H d ys ws P → Owns K L H d (xs ++ ys) (vs ++ ws) (O ++ P)
  | [], ys, d, _, ws, _, P, h, k => by obtain ⟨rfl, rfl⟩ := h; exact k
  | x :: xs, ys, d, _, ws, _, P, h, k => by
    obtain ⟨v, vr, O1, O2, rfl, rfl, h1, h2⟩ := h
    exact ⟨v, vr ++ ws, O1, O2 ++ P, rfl, by simp, h1, owns_join h2 k⟩
/-- a dict's entries: one apart, to be replaced -/
theorem ownd_split : ∀ {xs : List (Key × PV)} {d : Nat} {vs : List (Key × V)} {O : List Addr} {k : Key} {y : PV}, Ownd K L H d xs vs O → (xs.map (·.1)).Nodup → dget k xs = some y →
    ∃ w E1 Ry E2, valV vs k = some w ∧ O = E1 ++ (Ry ++ E2) ∧ Own K L H d y w Ry ∧
      (∀ (L' : Addr → Prop) (H' : Hp) (y' : PV) (w' : V) (Ry' : List Addr), Stay L L' H H' (E1 ++ E2) → Own K L' H' d y' w' Ry' → Ownd K L' H' d (dput k y' xs) (putK vs k w') (E1 ++ (Ry' ++ E2))) ∧ putK vs k w = vs
  | [], d, vs, O, k, y, h, nd, e => by simp [dget] at e
  | (q, x) :: xs, d, vs, O, k, y, h, nd, e => by
    obtain ⟨v, vr, O1, O2, rfl, rfl, h1, h2⟩ := h
    obtain ⟨nq, nd'⟩ := List.nodup_cons.mp nd
    have keys : ∀ {xs : List (Key × PV)} {vs : List (Key × V)} {O : List Addr}, Ownd K L H d xs vs O → vs.map (·.1) = xs.map (·.1) := fun {xs} => by
      induction xs with
      | nil => intro vs O h; rw [h.1]; rfl
      | cons a r ih =>
        intro vs O h
        obtain ⟨k1, x1⟩ := a
        obtain ⟨v, vr, O1, O2, rfl, rfl, h1, h2⟩ := h
        rw [List.map_cons, List.map_cons, ih h2]
    unfold dget at e
    by_cases hk : q = k
    · subst hk
      rw [if_pos rfl] at e
      cases e
      have none : ∀ w', vr.map (fun kv => if kv.1 = q then (kv.1, w') else kv) = vr := fun w' => by
        refine (List.map_congr_left fun kv hkv => ?_).trans (List.map_id _)
        have : kv.1 ≠ q := fun z => nq (by rw [← keys h2, ← z]; exact List.mem_map_of_mem hkv)
        rw [if_neg this]; rfl
      have put : ∀ w', putK ((q, v) :: vr) q w' = (q, w') :: vr := fun w' => by
        unfold putK
        rw [List.any_cons, decide_eq_true rfl, Bool.true_or, if_pos rfl, List.map_cons, if_pos rfl, none]
      refine ⟨v, [], O1, O2, valV_pos rfl, rfl, h1, fun L' H' y' w' Ry' s hy => ?_, put v⟩
      rw [put]
      show Ownd K L' H' d (dput q y' ((q, x) :: xs)) _ _
      unfold dput
      rw [if_pos rfl]
      exact ⟨w', vr, Ry', O2, rfl, rfl, hy, Ownd.stay h2 s⟩
    · rw [if_neg hk] at e
      obtain ⟨w, E1, Ry, E2, e1, rfl, h3, g, pw⟩ := ownd_split h2 nd' e
      have put : ∀ w', putK ((q, v) :: vr) k w' = (q, v) :: putK vr k w' := fun w' => by
        unfold putK
        rw [List.any_cons, decide_eq_false hk, Bool.false_or]
        split
        · rw [List.map_cons, if_neg hk]
        · rfl
      refine ⟨w, O1 ++ E1, Ry, E2, by rw [valV_neg hk]; exact e1, by simp, h3, fun L' H' y' w' Ry' s hy => ?_, by rw [put, pw]⟩
      rw [put]
      show Ownd K L' H' d (dput k y' ((q, x) :: xs)) _ _
      unfold dput
      rw [if_neg hk]
      exact ⟨v, putK vr k w', O1, E1 ++ (Ry' ++ E2), rfl, by simp, Own.stay h1 (s.mono fun b hb => by simp [hb]), g L' H' y' w' Ry' (s.mono fun b hb => by
        simp only [List.mem_append] at hb ⊢
        exact hb.imp .inr id) hy⟩
/-- a new key -/
theorem ownd_new : ∀ {xs : List (Key × PV)} {d : Nat} {vs : List (Key × V)} {O : List Addr} {k : Key}, Ownd K L H d xs vs O → dget k xs = none →
    ∀ (L' : Addr → Prop) (H' : Hp) (y' : PV) (w' : V) (Ry' : List Addr), Stay L L' H H' O → Own K L' H' d y' w' Ry' → Ownd K L' H' d (dput k y' xs) (putK vs k w') (O ++ Ry')
  | [], d, vs, O, k, h, e, L', H', y', w', Ry', s, hy => by
    obtain ⟨rfl, rfl⟩ := h
    exact ⟨w', [], Ry', [], rfl, by simp, hy, rfl, rfl⟩
  | (q, x) :: xs, d, vs, O, k, h, e, L', H', y', w', Ry', s, hy => by
    obtain ⟨v, vr, O1, O2, rfl, rfl, h1, h2⟩ := h
    unfold dget at e
    by_cases hk : q = k
    · rw [if_pos hk] at e; cases e
    · rw [if_neg hk] at e
      have put : putK ((q, v) :: vr) k w' = (q, v) :: putK vr k w' := by
        unfold putK
        rw [List.any_cons, decide_eq_false hk, Bool.false_or]
        split
        · rw [List.map_cons, if_neg hk]
        · rfl
      rw [put]
      show Ownd K L' H' d (dput k y' ((q, x) :: xs)) _ _
      unfold dput
      rw [if_neg hk]
      exact ⟨v, putK vr k w', O1, O2 ++ Ry', rfl, by simp, Own.stay h1 (s.mono fun b hb => by simp [hb]), ownd_new h2 e L' H' y' w' Ry' (s.mono fun b hb => by simp [hb]) hy⟩

theorem ownd_len {d : Nat} : ∀ {xs : List (Key × PV)} {vs : List (Key × V)} {O : List Addr}, Ownd K L H d xs vs O → vs.length = xs.length
  | [], _, _, h => by rw [h.1]; rfl
  | (k, x) :: xs, _, _, h => by
    obtain ⟨v, vr, O1, O2, rfl, rfl, h1, h2⟩ := h
    simp [ownd_len h2]
/-! ### one operation at an owned address -/
/-- the machine's rules -/
def rM (K : PySem.W.Frag) (o : Mo) : V → List V → Hp → VK → Prop := match o with
  | .append => rAppend
  | .pop0 => rPop
  | .pop1 => rPopAt
  | .insert => fun x vs H Q => ∃ (l : Addr) (xs : List V) (i : Int) (y : V), x = .ref l ∧ vs = [.int i, y] ∧ H l = some (.lst xs) ∧ xs.length < sizeLine ∧ 0 ≤ i ∧ i < 2 ^ 63 ∧ Q .non (upd H l (.lst (xs.take i.toNat ++ [y] ++ xs.drop i.toNat)))
  | .set => fun x vs H Q => ∃ k v, vs = [k, v] ∧ (rSetL x k v H (Q .non) ∨ rSetD x k v H (Q .non))
  | _ => fun _ _ _ _ => False
/-- what the operation leaves -/
def After (K : PySem.W.Frag) (L : Addr → Prop) (H : Hp) (c : Addr) (R0 : List Addr) (dd : Nat) (y' : PV) (res : Arg) (v : V) (H' : Hp) : Prop :=
  ∃ o' R1 T1 X1, H' = upd H c o' ∧ IsLD (some o') ∧ R0.Perm ((c :: R1) ++ (T1 ++ X1)) ∧ ∀ L' : Addr → Prop, (∀ b, H b ≠ none → ¬ L b → ¬ L' b) → (∀ b ∈ X1, ¬ L' b) → Own K L' H' dd y' (.ref c) (c :: R1) ∧ Own K L' H' res.2 res.1 v T1
/-- .. with the argument's part weakened -/
theorem arg_weak {n : Nat} {a : Arg} {v : V} {T : List Addr} (h : Own K L H a.2 a.1 v T) (nd : T.Nodup) (hd : isL a.1 = true → n ≤ a.2) :
    ∃ T' X, T.Perm (T' ++ X) ∧ ∀ L' : Addr → Prop, (∀ b, H b ≠ none → ¬ L b → ¬ L' b) → (∀ b ∈ X, ¬ L' b) → Own K L' H n a.1 v T' := by
  by_cases hl : isL a.1 = true
  · obtain ⟨T', s, w⟩ := Own.weaken a.1 a.2 v T n (hd hl) nd h
    obtain ⟨X, p⟩ := s.exists_perm_append
    refine ⟨T', X, p, fun L' h1 h2 => w L' h1 fun b hb nb => h2 b ?_⟩
    rcases List.mem_append.mp (p.mem_iff.mp hb) with z | z
    · exact absurd z nb
    · exact z
  · obtain ⟨rfl, f⟩ := Own.scalar (by simpa using hl) h
    exact ⟨[], [], .refl _, fun L' h1 _ => Own.stay (f n) (Stay.refl h1)⟩
theorem own_ref {d : Nat} {xs : List PV} {c : Addr} {R0 : List Addr} (h : Own K L H (d + 1) (.lst xs) (.ref c) R0) : ∃ vs O', R0 = c :: O' ∧ H c = some (.lst vs) ∧ Owns K L H d xs vs O' := by
  obtain ⟨a, vs, O', e, rfl, ha, ho⟩ := h
  cases e
  exact ⟨vs, O', rfl, ha, ho⟩
theorem own_refd {d : Nat} {xs : List (Key × PV)} {c : Addr} {R0 : List Addr} (h : Own K L H (d + 1) (.dct xs) (.ref c) R0) : ∃ vs O', R0 = c :: O' ∧ H c = some (.dK vs) ∧ Ownd K L H d xs vs O' := by
  obtain ⟨a, vs, O', e, rfl, ha, ho⟩ := h
  cases e
  exact ⟨vs, O', rfl, ha, ho⟩
/-- what is written goes to the end -/
theorem op_append {as : List Arg} {vs : List V} {T R0 : List Addr} {c : Addr} {y y' : PV} {d n : Nat} {res : Arg} {df : Nat} {Q : VK} (h : Own K L H (n + 1) y (.ref c) R0) (lc : L c) (hv : relL (relA K) L H as vs T) (nd : (R0 ++ T).Nodup)
    (e : cAppend as y d = some (res, y', df)) (hn : n + 1 = df) (q : ∀ v H', After K L H c (R0 ++ T) (n + 1) y' res v H' → Q v H') : rM K .append (.ref c) vs H Q := by
  unfold cAppend at e
  split at e
  · rename_i xs a
    split at e
    · rename_i hz
      cases e
      obtain ⟨ws, O', rfl, hc, ho⟩ := own_ref h
      obtain ⟨v, vr, T1, T2, rfl, rfl, h1, h2, h3⟩ := hv
      subst h2 h3
      rw [List.append_nil] at nd q
      have nd1 := List.nodup_append.mp nd
      obtain ⟨T', X, p, w⟩ := arg_weak (n := n) (show Own K L H a.2 a.1 v T1 from h1) nd1.2.1 (fun hl => by
        unfold joinD at hn
        rw [if_pos hl] at hn; omega)
      refine ⟨c, ws, v, rfl, rfl, hc, by rw [owns_len ho]; exact hz, q _ _ ⟨_, O' ++ T', [], X, rfl, .inl ⟨_, rfl⟩, ?_, fun L' h4 h5 => ⟨⟨c, _, O' ++ T', rfl, rfl, upd_same, ?_⟩, rfl, rfl⟩⟩⟩
      · rw [List.cons_append, List.cons_append]
        refine .cons c ?_
        rw [List.append_assoc, List.nil_append]
        exact (List.Perm.refl O').append p
      · have nO : c ∉ O' := (List.nodup_cons.mp nd1.1).1
        have nT : c ∉ T' := fun z => nd1.2.2 c List.mem_cons_self c (p.mem_iff.mpr (List.mem_append_left _ z)) rfl
        have o1 : Owns K L' (upd H c (.lst (ws ++ [v]))) n xs ws O' := Owns.stay ho (stay_upd hc (.inl ⟨_, rfl⟩) lc nO h4)
        -- the argument, first let go, then the heap written
        have o2 : Own K (fun b => L b ∧ b ∉ X) H n a.1 v T' := w _ (fun b _ nl z => nl z.1) fun b hb z => z.2 hb
        have nX : c ∉ X := fun z => nd1.2.2 c List.mem_cons_self c (p.mem_iff.mpr (List.mem_append_right _ z)) rfl
        have o3 : Own K L' (upd H c (.lst (ws ++ [v]))) n a.1 v T' := Own.stay o2 (stay_upd hc (.inl ⟨_, rfl⟩) ⟨lc, nX⟩ nT fun b hb nl z => by
          by_cases hx : b ∈ X
          · exact h5 b hx z
          · by_cases hL : L b
            · exact nl ⟨hL, hx⟩
            · exact h4 b hb hL z)
        exact owns_join o1 ⟨v, [], T', [], rfl, by simp, o3, rfl, rfl⟩
    · cases e
  · cases e
/-- an item goes out -/
theorem op_take {xs : List PV} {vs0 : List V} {T R0 : List Addr} {c : Addr} {y' : PV} {d n j : Nat} {res : Arg} {df : Nat} (h : Own K L H (n + 1) (.lst xs) (.ref c) R0) (lc : L c) (nd : R0.Nodup) (hc : H c = some (.lst vs0)) (hT : T = [])
    (e : cTake j xs d = some (res, y', df)) (hn : n + 1 = df) : ∃ w, vs0[j]? = some w ∧ After K L H c (R0 ++ T) (n + 1) y' res w (upd H c (.lst (vs0.eraseIdx j))) := by
  unfold cTake at e
  split at e
  · rename_i z hz
    cases e
    subst hT hn
    obtain ⟨ws, O', rfl, hc', ho⟩ := own_ref h
    rw [hc] at hc'; cases hc'
    obtain ⟨w, E1, Ry, E2, e1, rfl, o1, _, g⟩ := owns_split ho hz
    have nO := (List.nodup_cons.mp nd).1
    refine ⟨w, e1, _, E1 ++ E2, Ry, [], rfl, .inl ⟨_, rfl⟩, ?_, fun L' h4 _ => ⟨⟨c, _, E1 ++ E2, rfl, rfl, upd_same, g L' _ (stay_upd hc (.inl ⟨_, rfl⟩) lc (fun z => nO (by
      simp only [List.mem_append] at z ⊢
      exact z.imp id .inr)) h4)⟩, ?_⟩⟩
    · rw [List.append_nil, List.append_nil, List.cons_append, List.append_assoc]
      exact .cons c ((List.Perm.refl E1).append List.perm_append_comm)
    · have o2 : Own K L' (upd H c (.lst (vs0.eraseIdx j))) n z w Ry := Own.stay o1 (stay_upd hc (.inl ⟨_, rfl⟩) lc (fun q => nO (by simp [q])) h4)
      by_cases hl : isL z = true
      · have : (if isL z = true then n + 1 - 1 else 0) = n := by rw [if_pos hl]; rfl
        show Own K L' _ (if isL z = true then n + 1 - 1 else 0) z w Ry
        rw [this]; exact o2
      · obtain ⟨rfl, f⟩ := Own.scalar (by simpa using hl) o2
        exact f _
  · cases e
theorem op_pop0 {as : List Arg} {vs : List V} {T R0 : List Addr} {c : Addr} {y y' : PV} {d n : Nat} {res : Arg} {df : Nat} {Q : VK} (h : Own K L H (n + 1) y (.ref c) R0) (lc : L c) (hv : relL (relA K) L H as vs T) (nd : (R0 ++ T).Nodup)
    (e : cPop0 as y d = some (res, y', df)) (hn : n + 1 = df) (q : ∀ v H', After K L H c (R0 ++ T) (n + 1) y' res v H' → Q v H') : rM K .pop0 (.ref c) vs H Q := by
  unfold cPop0 at e
  split at e
  · obtain ⟨rfl, rfl⟩ := hv
    obtain ⟨ws, O', rfl, hc, ho⟩ := own_ref h
    obtain ⟨w, e1, a⟩ := op_take (T := []) h lc (List.nodup_append.mp nd).1 hc rfl e hn
    have hl := owns_len ho
    rw [← hl] at e1 a
    refine ⟨c, ws, w, rfl, rfl, hc, e1, ?_⟩
    have e2 : ws.eraseIdx (ws.length - 1) = ws.dropLast := by
      rw [PyProof.Rows.Copied.eraseIdx_last]
    rw [e2] at a
    exact q _ _ a
  · cases e
theorem op_pop1 {as : List Arg} {vs : List V} {T R0 : List Addr} {c : Addr} {y y' : PV} {d n : Nat} {res : Arg} {df : Nat} {Q : VK} (h : Own K L H (n + 1) y (.ref c) R0) (lc : L c) (hv : relL (relA K) L H as vs T) (nd : (R0 ++ T).Nodup)
    (e : cPop1 as y d = some (res, y', df)) (hn : n + 1 = df) (q : ∀ v H', After K L H c (R0 ++ T) (n + 1) y' res v H' → Q v H') : rM K .pop1 (.ref c) vs H Q := by
  unfold cPop1 at e
  split at e
  · rename_i xs i di
    split at e
    · rename_i hw
      obtain ⟨j, hj, e⟩ := Option.bind_eq_some_iff.mp e
      obtain ⟨v, vr, T1, T2, rfl, rfl, h1, rfl, rfl⟩ := hv
      have ev := Bor.int (K := K) ⟨_, _, h1⟩
      subst ev
      obtain ⟨rfl, _⟩ := Own.scalar rfl (show Own K L H di (.int i) _ T1 from h1)
      obtain ⟨ws, O', rfl, hc, ho⟩ := own_ref h
      obtain ⟨w, e1, a⟩ := op_take (T := []) h lc (by simpa using nd) hc rfl e hn
      have hl := owns_len ho
      rw [← hl, ixN_eq] at hj
      obtain ⟨s1, s2, s3, s4⟩ := ixN_seq hj
      have hw' := wide_of hw
      exact ⟨c, ws, i, j, w, rfl, rfl, hc, by omega, by omega, s1, e1, q _ _ (by simpa using a)⟩
    · cases e
  · cases e
theorem op_insert {as : List Arg} {vs : List V} {T R0 : List Addr} {c : Addr} {y y' : PV} {d n : Nat} {res : Arg} {df : Nat} {Q : VK} (h : Own K L H (n + 1) y (.ref c) R0) (lc : L c) (hv : relL (relA K) L H as vs T) (nd : (R0 ++ T).Nodup)
    (e : cInsert as y d = some (res, y', df)) (hn : n + 1 = df) (q : ∀ v H', After K L H c (R0 ++ T) (n + 1) y' res v H' → Q v H') : rM K .insert (.ref c) vs H Q := by
  unfold cInsert at e
  split at e
  · rename_i xs i di a
    split at e
    · rename_i hz
      cases e
      obtain ⟨ws, O', rfl, hc, ho⟩ := own_ref h
      obtain ⟨v0, vr0, T0, T3, rfl, rfl, h0, v, vr, T1, T2, rfl, rfl, h1, rfl, rfl⟩ := hv
      have ev := Bor.int (K := K) ⟨_, _, h0⟩
      subst ev
      obtain ⟨rfl, _⟩ := Own.scalar rfl (show Own K L H di (.int i) _ T0 from h0)
      rw [List.nil_append, List.append_nil] at nd q
      have nd1 := List.nodup_append.mp nd
      obtain ⟨T', X, p, w⟩ := arg_weak (n := n) (show Own K L H a.2 a.1 v T1 from h1) nd1.2.1 (fun hl => by
        unfold joinD at hn
        rw [if_pos hl] at hn; omega)
      obtain ⟨E1, E2, rfl, k1, k2⟩ := owns_cut i.toNat ho
      refine ⟨c, ws, i, v, rfl, rfl, hc, by rw [owns_len ho]; exact hz.2.2, hz.1, by omega, q _ _ ⟨_, E1 ++ T' ++ E2, [], X, rfl, .inl ⟨_, rfl⟩, ?_, fun L' h4 h5 => ⟨⟨c, _, E1 ++ T' ++ E2, rfl, rfl, upd_same, ?_⟩, rfl, rfl⟩⟩⟩
      · rw [List.cons_append, List.cons_append, List.nil_append]
        refine .cons c ?_
        have p1 : (E1 ++ E2 ++ T1).Perm (E1 ++ (E2 ++ (T' ++ X))) := by
          rw [List.append_assoc]
          exact (List.Perm.refl E1).append ((List.Perm.refl E2).append p)
        refine p1.trans ?_
        rw [List.append_assoc, List.append_assoc]
        exact (List.Perm.refl E1).append (perm3 E2 T' X)
      · have nO := (List.nodup_cons.mp nd1.1).1
        have nT : c ∉ T' := fun z => nd1.2.2 c List.mem_cons_self c (p.mem_iff.mpr (List.mem_append_left _ z)) rfl
        have nX : c ∉ X := fun z => nd1.2.2 c List.mem_cons_self c (p.mem_iff.mpr (List.mem_append_right _ z)) rfl
        have o1 := Owns.stay k1 (stay_upd (o' := .lst (ws.take i.toNat ++ [v] ++ ws.drop i.toNat)) hc (.inl ⟨_, rfl⟩) lc (fun z => nO (List.mem_append_left _ z)) h4)
        have o4 := Owns.stay k2 (stay_upd (o' := .lst (ws.take i.toNat ++ [v] ++ ws.drop i.toNat)) hc (.inl ⟨_, rfl⟩) lc (fun z => nO (List.mem_append_right _ z)) h4)
        have o2 : Own K (fun b => L b ∧ b ∉ X) H n a.1 v T' := w _ (fun b _ nl z => nl z.1) fun b hb z => z.2 hb
        have o3 : Own K L' (upd H c (.lst (ws.take i.toNat ++ [v] ++ ws.drop i.toNat))) n a.1 v T' := Own.stay o2 (stay_upd hc (.inl ⟨_, rfl⟩) ⟨lc, nX⟩ nT fun b hb nl z => by
          by_cases hx : b ∈ X
          · exact h5 b hx z
          · by_cases hL : L b
            · exact nl ⟨hL, hx⟩
            · exact h4 b hb hL z)
        have o5 := owns_join (owns_join o1 (show Owns K L' _ n [a.1] [v] T' from ⟨v, [], T', [], rfl, by simp, o3, rfl, rfl⟩)) o4
        have e6 : xs.take i.toNat ++ a.1 :: xs.drop i.toNat = xs.take i.toNat ++ [a.1] ++ xs.drop i.toNat := by simp
        rw [e6]; exact o5
    · cases e
  · cases e
theorem op_set {as : List Arg} {vs : List V} {T R0 : List Addr} {c : Addr} {y y' : PV} {d n : Nat} {res : Arg} {df : Nat} {Q : VK} (h : Own K L H (n + 1) y (.ref c) R0) (lc : L c) (hv : relL (relA K) L H as vs T) (nd : (R0 ++ T).Nodup)
    (e : cSet as y d = some (res, y', df)) (hn : n + 1 = df) (q : ∀ v H', After K L H c (R0 ++ T) (n + 1) y' res v H' → Q v H') : rM K .set (.ref c) vs H Q := by
  unfold cSet at e
  split at e
  · rename_i xs i di a
    obtain ⟨j, hj, e⟩ := Option.map_eq_some_iff.mp e
    cases e
    obtain ⟨ws, O', rfl, hc, ho⟩ := own_ref h
    obtain ⟨v0, vr0, T0, T3, rfl, rfl, h0, v, vr, T1, T2, rfl, rfl, h1, rfl, rfl⟩ := hv
    have ev := Bor.int (K := K) ⟨_, _, h0⟩
    subst ev
    obtain ⟨rfl, _⟩ := Own.scalar rfl (show Own K L H di (.int i) _ T0 from h0)
    rw [List.nil_append, List.append_nil] at nd q
    have nd1 := List.nodup_append.mp nd
    obtain ⟨T', X, p, w⟩ := arg_weak (n := n) (show Own K L H a.2 a.1 v T1 from h1) nd1.2.1 (fun hl => by
      unfold joinD at hn
      rw [if_pos hl] at hn; omega)
    have hl := owns_len ho
    have hj' := hj
    rw [← hl, ixN_eq] at hj'
    obtain ⟨s1, s2, s3, s4⟩ := ixN_seq hj'
    obtain ⟨w0, E1, Ry, E2, e1, rfl, o1, g, _⟩ := owns_split (j := j) (y := xs[j]'(by omega)) ho (by simp [show j < xs.length by omega])
    refine ⟨_, v, rfl, .inl ⟨c, ws, i, j, rfl, rfl, hc, hj', q _ _ ⟨_, E1 ++ (T' ++ E2), [], Ry ++ X, rfl, .inl ⟨_, rfl⟩, ?_, fun L' h4 h5 => ⟨⟨c, _, E1 ++ (T' ++ E2), rfl, rfl, upd_same, ?_⟩, rfl, rfl⟩⟩⟩⟩
    · rw [List.cons_append, List.cons_append, List.nil_append]
      refine .cons c ?_
      have p1 : (E1 ++ (Ry ++ E2) ++ T1).Perm (E1 ++ ((Ry ++ E2) ++ (T' ++ X))) := by
        rw [List.append_assoc]
        exact (List.Perm.refl E1).append ((List.Perm.refl _).append p)
      refine p1.trans ?_
      rw [List.append_assoc E1]
      refine (List.Perm.refl E1).append ?_
      rw [List.append_assoc, List.append_assoc]
      refine ((List.Perm.refl Ry).append (perm3 E2 T' X)).trans ?_
      refine (perm3 Ry T' (E2 ++ X)).trans ((List.Perm.refl T').append (perm3 Ry E2 X))
    · have nO := (List.nodup_cons.mp nd1.1).1
      have nT : c ∉ T' := fun z => nd1.2.2 c List.mem_cons_self c (p.mem_iff.mpr (List.mem_append_left _ z)) rfl
      have nX : c ∉ X := fun z => nd1.2.2 c List.mem_cons_self c (p.mem_iff.mpr (List.mem_append_right _ z)) rfl
      have o2 : Own K (fun b => L b ∧ b ∉ X) H n a.1 v T' := w _ (fun b _ nl z => nl z.1) fun b hb z => z.2 hb
      have o3 : Own K L' (upd H c (.lst (ws.set j v))) n a.1 v T' := Own.stay o2 (stay_upd hc (.inl ⟨_, rfl⟩) ⟨lc, nX⟩ nT fun b hb nl z => by
        by_cases hx : b ∈ X
        · exact h5 b (List.mem_append_right _ hx) z
        · by_cases hL : L b
          · exact nl ⟨hL, hx⟩
          · exact h4 b hb hL z)
      exact g L' _ a.1 v T' (stay_upd hc (.inl ⟨_, rfl⟩) lc (fun z => nO (by
        simp only [List.mem_append] at z ⊢
        exact z.imp id .inr)) h4) o3
  · rename_i kvs k dk a
    obtain ⟨kk, hk, e⟩ := Option.bind_eq_some_iff.mp e
    split at e
    · rename_i hz
      cases e
      obtain ⟨ws, O', rfl, hc, ho⟩ := own_refd h
      obtain ⟨v0, vr0, T0, T3, rfl, rfl, h0, v, vr, T1, T2, rfl, rfl, h1, rfl, rfl⟩ := hv
      have h0' : Own K L H dk k v0 T0 := h0
      have ev := keyOf_kV ⟨_, _, h0'⟩ hk
      subst ev
      have hT0 : T0 = [] := by
        cases k <;> first | (cases hk; done) | exact (Own.scalar rfl h0').1
      subst hT0
      rw [List.nil_append, List.append_nil] at nd q
      have nd1 := List.nodup_append.mp nd
      obtain ⟨T', X, p, w⟩ := arg_weak (n := n) (show Own K L H a.2 a.1 v T1 from h1) nd1.2.1 (fun hl => by
        unfold joinD at hn
        rw [if_pos hl] at hn; omega)
      have nO := (List.nodup_cons.mp nd1.1).1
      have nT : c ∉ T' := fun z => nd1.2.2 c List.mem_cons_self c (p.mem_iff.mpr (List.mem_append_left _ z)) rfl
      have nX : c ∉ X := fun z => nd1.2.2 c List.mem_cons_self c (p.mem_iff.mpr (List.mem_append_right _ z)) rfl
      have o2 : Own K (fun b => L b ∧ b ∉ X) H n a.1 v T' := w _ (fun b _ nl z => nl z.1) fun b hb z => z.2 hb
      have o3 : ∀ {L' : Addr → Prop}, (∀ b, H b ≠ none → ¬ L b → ¬ L' b) → (∀ b ∈ X, ¬ L' b) → Own K L' (upd H c (.dK (putK ws kk v))) n a.1 v T' := fun {L'} h4 h5 => Own.stay o2 (stay_upd hc (.inr ⟨_, rfl⟩) ⟨lc, nX⟩ nT fun b hb nl z => by
        by_cases hx : b ∈ X
        · exact h5 b hx z
        · by_cases hL : L b
          · exact nl ⟨hL, hx⟩
          · exact h4 b hb hL z)
      have hlen : ws.length < sizeLine := by
        have : ws.length = kvs.length := ownd_len ho
        rw [this]; exact hz.1
      refine ⟨_, v, rfl, .inr ⟨c, _, rfl, DPut.k hc hlen, ?_⟩⟩
      cases hg : dget kk kvs with
      | none =>
        refine q _ _ ⟨_, O' ++ T', [], X, rfl, .inr ⟨_, rfl⟩, ?_, fun L' h4 h5 => ⟨⟨c, _, O' ++ T', rfl, rfl, upd_same, ownd_new ho hg L' _ a.1 v T' (stay_upd hc (.inr ⟨_, rfl⟩) lc nO h4) (o3 h4 h5)⟩, rfl, rfl⟩⟩
        rw [List.cons_append, List.cons_append, List.nil_append, List.append_assoc]
        exact .cons c ((List.Perm.refl O').append p)
      | some old =>
        obtain ⟨w0, E1, Ry, E2, e1, rfl, o1, g, _⟩ := ownd_split ho hz.2 hg
        refine q _ _ ⟨_, E1 ++ (T' ++ E2), [], Ry ++ X, rfl, .inr ⟨_, rfl⟩, ?_, fun L' h4 h5 => ⟨⟨c, _, E1 ++ (T' ++ E2), rfl, rfl, upd_same, ?_⟩, rfl, rfl⟩⟩
        · rw [List.cons_append, List.cons_append, List.nil_append]
          refine .cons c ?_
          have p1 : (E1 ++ (Ry ++ E2) ++ T1).Perm (E1 ++ ((Ry ++ E2) ++ (T' ++ X))) := by
            rw [List.append_assoc]
            exact (List.Perm.refl E1).append ((List.Perm.refl _).append p)
          refine p1.trans ?_
          rw [List.append_assoc E1]
          refine (List.Perm.refl E1).append ?_
          rw [List.append_assoc, List.append_assoc]
          refine ((List.Perm.refl Ry).append (perm3 E2 T' X)).trans ?_
          refine (perm3 Ry T' (E2 ++ X)).trans ((List.Perm.refl T').append (perm3 Ry E2 X))
        · exact g L' _ a.1 v T' (stay_upd hc (.inr ⟨_, rfl⟩) lc (fun z => nO (by
            simp only [List.mem_append] at z ⊢
            exact z.imp id .inr)) h4) (o3 h4 fun b hb => h5 b (List.mem_append_right _ hb))
    · cases e
  · cases e
end
end Mi
end
section
set_option Elab.async false
set_option linter.all false
set_option maxRecDepth 100000
set_option maxHeartbeats 2000000
/-! S17: a change at the end of a path. -/
namespace Mi
open PySem PySem.Spec PyProof.Rows L2
/-- the whole, its part at the path's end put anew -/
def PutIs : List PV → PV → PV → PV → Prop
  | [], _, y', x' => x' = y'
  | k :: _, x, y', x' => put1 x k y' = some x'
theorem change_le {o : Mo} {as : List Arg} {y y' : PV} {d d' : Nat} {res : Arg} (e : change o as y d = some (res, y', d')) (h1 : 1 ≤ d) : d' ≤ d ∧ 1 ≤ d' := by
  have j : ∀ {d a}, 1 ≤ d → joinD d a ≤ d ∧ 1 ≤ joinD d a := fun {d a} h => by
    unfold joinD
    split <;> omega
  have tk : ∀ {i xs}, cTake i xs d = some (res, y', d') → d' ≤ d ∧ 1 ≤ d' := fun {i xs} e => by
    unfold cTake at e
    split at e
    · cases e; omega
    · cases e
  cases o <;> first | (cases e; done) | skip
  · have e' : cAppend as y d = some (res, y', d') := e
    unfold cAppend at e'
    split at e'
    · split at e'
      · cases e'; exact j h1
      · cases e'
    · cases e'
  · have e' : cPop0 as y d = some (res, y', d') := e
    unfold cPop0 at e'
    split at e'
    · exact tk e'
    · cases e'
  · have e' : cPop1 as y d = some (res, y', d') := e
    unfold cPop1 at e'
    split at e'
    · split at e'
      · obtain ⟨i, _, e''⟩ := Option.bind_eq_some_iff.mp e'
        exact tk e''
      · cases e'
    · cases e'
  · have e' : cInsert as y d = some (res, y', d') := e
    unfold cInsert at e'
    split at e'
    · split at e'
      · cases e'; exact j h1
      · cases e'
    · cases e'
  · have e' : cUpdate as y d = some (res, y', d') := e
    unfold cUpdate at e'
    split at e'
    · split at e'
      · cases e'; omega
      · cases e'
    · cases e'
  · have e' : cSet as y d = some (res, y', d') := e
    unfold cSet at e'
    split at e'
    · obtain ⟨i, _, e''⟩ := Option.map_eq_some_iff.mp e'
      cases e''; exact j h1
    · obtain ⟨i, _, e''⟩ := Option.bind_eq_some_iff.mp e'
      split at e''
      · cases e''; exact j h1
      · cases e''
    · cases e'
section
variable {K : PySem.W.Frag} {H H' : Hp} {L L' : Addr → Prop}
/-- one operation -/
theorem op_any {o : Mo} (ho : o ≠ .update) {as : List Arg} {vs : List V} {T R0 : List Addr} {c : Addr} {y y' : PV} {d n : Nat} {res : Arg} {df : Nat} {Q : VK} (h : Own K L H (n + 1) y (.ref c) R0) (lc : L c) (hv : relL (relA K) L H as vs T) (nd : (R0 ++ T).Nodup)
    (e : change o as y d = some (res, y', df)) (hn : n + 1 = df) (q : ∀ v H', After K L H c (R0 ++ T) (n + 1) y' res v H' → Q v H') : rM K o (.ref c) vs H Q := by
  cases o <;> first | (cases e; done) | exact absurd rfl ho | skip
  · exact op_append h lc hv nd e hn q
  · exact op_pop0 h lc hv nd e hn q
  · exact op_pop1 h lc hv nd e hn q
  · exact op_insert h lc hv nd e hn q
  · exact op_set h lc hv nd e hn q
/-- the address at the end of a path -/
def At (H : Hp) (w : V) : List PV → Addr → Prop
  | [], c => w = .ref c
  | [k], c => ∃ a, w = .ref a ∧ ((∃ vs i, k = .int i ∧ H a = some (.lst vs) ∧ L2.atI vs i = some (.ref c)) ∨ ∃ ms kk, keyOf k = some kk ∧ H a = some (.dK ms) ∧ valV ms kk = some (.ref c))
  | _, _ => False
theorem own_isL {d : Nat} {y : PV} {v : V} {O : List Addr} (h : Own K L H (d + 1) y v O) (hl : isL y = true) : ∃ c O', v = .ref c ∧ O = c :: O' ∧ IsLD (H c) := by
  cases y <;> first | (cases hl; done) | skip
  · obtain ⟨a, vs, O', rfl, rfl, ha, ho⟩ := h
    exact ⟨a, O', rfl, rfl, .inl ⟨_, ha⟩⟩
  · obtain ⟨a, vs, O', rfl, rfl, ha, ho⟩ := h
    exact ⟨a, O', rfl, rfl, .inr ⟨_, ha⟩⟩
theorem set_at {vs : List V} {j : Nat} {w : V} (h : vs[j]? = some w) : vs.set j w = vs := set_same h
/-- what stands at the end of a path, apart from the rest -/
theorem focus {ks : List PV} (hk : ks.length ≤ 1) {x y : PV} {n : Nat} {w : V} {O : List Addr} (h : Own K L H (n + 1 + ks.length) x w O) (hg : getP ks x = some y) (hl : isL y = true) (hx : isL x = true) (hn : ks ≠ [] → ∀ kvs, x = .dct kvs → (kvs.map (·.1)).Nodup) :
    ∃ c E1 Ry E2, At H w ks c ∧ O = E1 ++ (Ry ++ E2) ∧ Own K L H (n + 1) y (.ref c) Ry ∧
      ∀ (L' : Addr → Prop) (H' : Hp) (x' y' : PV) (Ry' : List Addr), PutIs ks x y' x' → Stay L L' H H' (E1 ++ E2) → Own K L' H' (n + 1) y' (.ref c) Ry' → Own K L' H' (n + 1 + ks.length) x' w (E1 ++ (Ry' ++ E2)) := by
  match ks, hk with
  | [], _ =>
    cases hg
    obtain ⟨c, O', rfl, rfl, _⟩ := own_isL h hl
    exact ⟨c, [], c :: O', [], rfl, by simp, h, fun L' H' x' y' Ry' e s hy => by
      have e' : x' = y' := e
      subst e'
      simpa using hy⟩
  | [k], _ =>
    have hg' : get1 x k = some y := by
      obtain ⟨z, e1, e2⟩ := Option.bind_eq_some_iff.mp (show (get1 x k).bind (getP []) = some y from hg)
      cases e2; exact e1
    cases x <;> first | (cases hx; done) | skip
    · rename_i xs
      cases k <;> first | (cases hg'; done) | skip
      rename_i i _
      obtain ⟨a, vs, O', rfl, rfl, ha, ho⟩ := (show Own K L H (n + 1 + 1) (.lst xs) w O from h)
      have hat : (Mi.ixN xs.length i).bind (fun j => xs[j]?) = some y := hg'
      obtain ⟨j, hj, hy⟩ := Option.bind_eq_some_iff.mp hat
      obtain ⟨w1, E1, Ry, E2, e1, rfl, o1, g, _⟩ := owns_split ho hy
      obtain ⟨c, O2, rfl, rfl, _⟩ := own_isL o1 hl
      have hlen := owns_len ho
      refine ⟨c, a :: E1, _, E2, ⟨a, rfl, .inl ⟨vs, i, rfl, ha, ?_⟩⟩, rfl, o1, fun L' H' x' y' Ry' e s hy' => ?_⟩
      · unfold L2.atI
        rw [hlen, ← ixN_eq, hj]
        exact e1
      · have e' : (Mi.ixN xs.length i).map (fun j => PV.lst (xs.set j y')) = some x' := e
        rw [hj] at e'
        cases e'
        have o2 := g L' H' y' (.ref c) Ry' (s.mono fun b hb => List.mem_cons_of_mem _ hb) hy'
        rw [set_at e1] at o2
        exact ⟨a, vs, E1 ++ (Ry' ++ E2), rfl, rfl, s.k a _ ha (.inl List.mem_cons_self), o2⟩
    · rename_i kvs
      obtain ⟨kk, e1, e2⟩ := Option.bind_eq_some_iff.mp (show (keyOf k).bind (fun k => dget k kvs) = some y by
        unfold get1 at hg'
        exact hg')
      obtain ⟨a, ms, O', rfl, rfl, ha, ho⟩ := (show Own K L H (n + 1 + 1) (.dct kvs) w O from h)
      obtain ⟨w1, E1, Ry, E2, e3, rfl, o1, g, pw⟩ := ownd_split ho (hn (by simp) kvs rfl) e2
      obtain ⟨c, O2, rfl, rfl, _⟩ := own_isL o1 hl
      refine ⟨c, a :: E1, _, E2, ⟨a, rfl, .inr ⟨ms, kk, e1, ha, e3⟩⟩, rfl, o1, fun L' H' x' y' Ry' e s hy' => ?_⟩
      have e' : (keyOf k).map (fun k => PV.dct (dput k y' kvs)) = some x' := by
        have e'' : (if (kvs.map (·.1)).Nodup then (keyOf k).map (fun k => PV.dct (dput k y' kvs)) else none) = some x' := e
        rw [if_pos (hn (by simp) kvs rfl)] at e''
        exact e''
      rw [e1] at e'
      cases e'
      have o2 := g L' H' y' (.ref c) Ry' (s.mono fun b hb => List.mem_cons_of_mem _ hb) hy'
      rw [pw] at o2
      exact ⟨a, ms, E1 ++ (Ry' ++ E2), rfl, rfl, s.k a _ ha (.inl List.mem_cons_self), o2⟩
theorem put1_L {x k y x' : PV} (e : put1 x k y = some x') : isL x = true ∧ ∀ kvs, x = .dct kvs → (kvs.map (·.1)).Nodup := by
  unfold put1 at e
  split at e
  · exact ⟨rfl, fun kvs z => nomatch z⟩
  · split at e
    · rename_i h
      exact ⟨rfl, fun kvs z => by cases z; exact h⟩
    · cases e
  · cases e
/-- a change at the end of a path, in whole -/
theorem mod_parts {o : Mo} {as : List Arg} {ks : List PV} (hk : ks.length ≤ 1) {x x' : PV} {d df : Nat} {res : Arg} (e : modAt (change o as) ks x d = some (res, x', df)) :
    ∃ n y y' dy, getP ks x = some y ∧ isL y = true ∧ isL x = true ∧ change o as y dy = some (res, y', n + 1) ∧ df = n + 1 + ks.length ∧ df ≤ d ∧ (ks ≠ [] → ∀ kvs, x = .dct kvs → (kvs.map (·.1)).Nodup) ∧ PutIs ks x y' x' := by
  match ks, hk with
  | [], _ =>
    unfold modAt at e
    split at e
    · rename_i h
      rw [Bool.and_eq_true, decide_eq_true_eq] at h
      obtain ⟨h1, h2⟩ := change_le e h.2
      exact ⟨df - 1, x, x', d, rfl, h.1, h.1, by rw [show df - 1 + 1 = df by omega]; exact e, by simp; omega, h1, fun z => absurd rfl z, rfl⟩
    · cases e
  | [k], _ =>
    unfold modAt at e
    split at e
    · rename_i y hy
      split at e
      · rename_i h
        rw [Bool.and_eq_true, decide_eq_true_eq] at h
        split at e
        · rename_i r0 y0 d0 h0
          unfold modAt at h0
          split at h0
          · rename_i h3
            rw [Bool.and_eq_true, decide_eq_true_eq] at h3
            obtain ⟨h1, h2⟩ := change_le h0 h3.2
            obtain ⟨x0, e1, e2⟩ := Option.map_eq_some_iff.mp e
            cases e2
            obtain ⟨p1, p2⟩ := put1_L e1
            refine ⟨d0 - 1, y, y0, d - 1, ?_, h.1, p1, by rw [show d0 - 1 + 1 = d0 by omega]; exact h0, ?_, Nat.min_le_left _ _, fun _ => p2, e1⟩
            · show (get1 x k).bind (getP []) = some y
              rw [hy]; rfl
            · show min d (1 + d0) = d0 - 1 + 1 + 1
              omega
          · cases h0
        · cases e
      · cases e
    · cases e
end
section
variable {K : PySem.W.Frag} {fx : List (Nat × V)} {σ : L2.St} {H : Hp} {ρ : Rho} {O F T : List Addr}
theorem R.change {i : Nat} {ks : List PV} (hk : ks.length ≤ 1) {o : Mo} (ho : o ≠ .update) {as : List Arg} {x x' : PV} {d df : Nat} {res : Arg} (r : R K fx σ H ρ O (T ++ F)) (hs : slot ρ i = some (x, d))
    (e : modAt (Mi.change o as) ks x d = some (res, x', df)) :
    ∃ w c, σ[i]? = some (some w) ∧ At H w ks c ∧ (∀ ls, getP ks x = some (.lst ls) → ∃ vs0, H c = some (.lst vs0)) ∧ ∀ vs : List V, relL (relA K) (fun b => b ∈ O ++ (T ++ F)) H as vs T → ∀ Q : VK, (∀ v H' O' T', R K fx σ H' (ρ.set i (some (x', df))) O' (T' ++ F) → Own K (fun b => b ∈ O' ++ (T' ++ F)) H' res.2 res.1 v T' → Ext (O ++ T) H H' (O' ++ T') → Q v H') → rM K o (.ref c) vs H Q := by
  obtain ⟨n, y, y', dy, hg, hly, hlx, hc, rfl, hle, hnd, hput⟩ := mod_parts hk e
  obtain ⟨O1, s1, r1⟩ := r.lower i (n + 1 + ks.length)
  have hslot : slot (Mi.lower i (n + 1 + ks.length) ρ) i = some (x, n + 1 + ks.length) := by
    unfold Mi.lower
    rw [hs]
    dsimp only
    rw [if_pos hlx, slot_set (slot_lt hs), if_pos rfl, Nat.min_eq_right hle]
  obtain ⟨A, Oi, B, rfl, f, _, g⟩ := r1.chg (slot_lt hslot)
  obtain ⟨w, hw, ho1⟩ := f _ (slot_at hslot)
  obtain ⟨c, E1, Ry, E2, hat, rfl, hoy, back⟩ := focus hk ho1 hg hly hlx hnd
  refine ⟨w, c, hw, hat, fun ls el => ?_, fun vs hv Q q => ?_⟩
  · rw [hg] at el; cases el
    obtain ⟨vs0, _, _, h0, _⟩ := own_ref hoy
    exact ⟨vs0, h0⟩
  have lens : (Mi.lower i (n + 1 + ks.length) ρ).set i (some (x', n + 1 + ks.length)) = ρ.set i (some (x', n + 1 + ks.length)) := by
    unfold Mi.lower
    rw [hs]
    dsimp only
    rw [if_pos hlx, List.set_set]
  have nd := r1.nd
  have ndv : relL (relA K) (fun b => b ∈ A ++ (E1 ++ (Ry ++ E2) ++ B) ++ (T ++ F)) H as vs T := rel_mem (relL_ok relA_ok) hv fun b hb => by
    rcases List.mem_append.mp hb with z | z
    · exact List.mem_append_left _ (s1.subset z)
    · exact List.mem_append_right _ z
  have p0 : (A ++ (E1 ++ (Ry ++ E2) ++ B) ++ (T ++ F)).Perm ((Ry ++ T) ++ (A ++ (E1 ++ E2) ++ B ++ F)) := by
    rw [List.perm_iff_count]; intro q; simp only [List.count_append]; omega
  have ndRT : (Ry ++ T).Nodup := (List.nodup_append.mp (p0.nodup_iff.mp nd)).1
  obtain ⟨c', O2, ec, eR, _⟩ := own_isL hoy hly
  cases ec
  have lc : c ∈ A ++ (E1 ++ (Ry ++ E2) ++ B) ++ (T ++ F) := by rw [eR]; simp
  refine op_any ho hoy lc ndv ndRT hc rfl fun v H' ⟨o', R1, T1, X1, eH, ild, pR, own⟩ => ?_
  subst eH
  -- the new state
  have nd1 := (p0.trans (pR.append (List.Perm.refl _))).nodup_iff.mp nd
  have hcH : ∃ oo, H c = some oo ∧ IsLD (some oo) := by
    have z := r1.ld c lc
    rcases z with ⟨xs, z⟩ | ⟨ms, z⟩
    · exact ⟨_, z, .inl ⟨_, rfl⟩⟩
    · exact ⟨_, z, .inr ⟨_, rfl⟩⟩
  obtain ⟨oo, hcc, ildc⟩ := hcH
  have ntup : ∀ b u, H b = some (.tup u) → b ≠ c := fun b u q z => by
    rw [z, hcc] at q; cases q
    rcases ildc with ⟨_, q⟩ | ⟨_, q⟩ <;> cases q
  have nfrz : ∀ b o u, H b = some (.frz o u) → b ≠ c := fun b o u q z => by
    rw [z, hcc] at q; cases q
    rcases ildc with ⟨_, q⟩ | ⟨_, q⟩ <;> cases q
  have p2 : (((c :: R1) ++ (T1 ++ X1)) ++ (A ++ (E1 ++ E2) ++ B ++ F)).Perm (X1 ++ (A ++ (E1 ++ ((c :: R1) ++ E2) ++ B) ++ (T1 ++ F))) := by
    rw [List.perm_iff_count]; intro q; simp only [List.count_append, List.count_cons]; omega
  have nd2 := List.nodup_append.mp (p2.nodup_iff.mp nd1)
  -- where the new parts come from
  have from0 : ∀ b, b ∈ (c :: R1) ++ (T1 ++ X1) ↔ b ∈ Ry ++ T := fun b => pR.symm.mem_iff
  have toOld : ∀ b, b ∈ A ++ (E1 ++ ((c :: R1) ++ E2) ++ B) ++ (T1 ++ F) → b ∈ A ++ (E1 ++ (Ry ++ E2) ++ B) ++ (T ++ F) := fun b hb =>
    p0.mem_iff.mpr ((pR.append (List.Perm.refl _)).mem_iff.mpr (p2.mem_iff.mpr (List.mem_append_right _ hb)))
  have gone : ∀ b ∈ X1, ¬ (b ∈ A ++ (E1 ++ ((c :: R1) ++ E2) ++ B) ++ (T1 ++ F)) := fun b hb z => nd2.2.2 b hb b z rfl
  obtain ⟨oy, ores⟩ := own (fun b => b ∈ A ++ (E1 ++ ((c :: R1) ++ E2) ++ B) ++ (T1 ++ F)) (fun b _ nl z => nl (toOld b z)) gone
  have nE : c ∉ E1 ++ E2 := fun z => by
    have := (List.nodup_append.mp (p0.nodup_iff.mp nd)).2.2 c (by rw [eR]; simp) c (by
      simp only [List.mem_append] at z ⊢
      exact .inl (.inl (.inr z)))
    exact this rfl
  have newO := back (fun b => b ∈ A ++ (E1 ++ ((c :: R1) ++ E2) ++ B) ++ (T1 ++ F)) (upd H c o') x' y' (c :: R1) hput (stay_upd hcc ildc lc nE fun b _ nl z => nl (toOld b z)) oy
  have r' := g (upd H c o') (some w) (some (x', n + 1 + ks.length)) (E1 ++ ((c :: R1) ++ E2)) (T1 ++ F) (fun b u q => by rw [upd_ne (ntup b u q)]; exact q) (fun b o u q => by rw [upd_ne (nfrz b o u q)]; exact q)
    (fun b o q nb => by
      have z : b ≠ c := fun z => nb (by rw [z, eR]; simp)
      rw [upd_ne z]; exact q) nd2.2.1 (fun b hb => ?_) (fun b hb => ?_) (fun p hp q => by
        have := r1.fx p hp
        rw [q, hw] at this
        exact Option.some.inj this) (fun a' z => by cases z; exact ⟨w, rfl, newO⟩) (fun z => nomatch z)
  rotate_left
  · -- new members
    have hb' : b ∈ E1 ∨ b ∈ (c :: R1) ++ (T1 ++ X1) ∨ b ∈ E2 ∨ b ∈ F := by
      rcases List.mem_append.mp hb with z | z
      · rcases List.mem_append.mp z with z | z
        · exact .inl z
        · rcases List.mem_append.mp z with z | z
          · exact .inr (.inl (List.mem_append_left _ z))
          · exact .inr (.inr (.inl z))
      · rcases List.mem_append.mp z with z | z
        · exact .inr (.inl (List.mem_append_right _ (List.mem_append_left _ z)))
        · exact .inr (.inr (.inr z))
    rcases hb' with z | z | z | z
    · exact .inl (by simp [z])
    · rcases List.mem_append.mp ((from0 b).mp z) with z | z
      · exact .inl (by simp [z])
      · exact .inr (.inl (by simp [z]))
    · exact .inl (by simp [z])
    · exact .inr (.inl (by simp [z]))
  · by_cases z : b = c
    · rw [z, upd_same]; exact ild
    · rw [upd_ne z]
      have : b ∈ A ++ (E1 ++ ((c :: R1) ++ E2) ++ B) ++ (T1 ++ F) := List.mem_append_right _ hb
      exact r1.ld b (toOld b this)
  rw [set_same hw, lens] at r'
  refine q v _ _ T1 r' ores ⟨fun b oo' eb nb => ?_, fun b hb => ?_, fun b hb => ?_, fun b u q => by rw [upd_ne (ntup b u q)]; exact q, fun b o u q => by rw [upd_ne (nfrz b o u q)]; exact q⟩
  · have z : b ≠ c := fun z => nb (by
      rw [z]
      exact List.mem_append_left _ (s1.subset (by rw [eR]; simp)))
    rw [upd_ne z]; exact eb
  · left
    have hb' : b ∈ A ++ (E1 ++ ((c :: R1) ++ E2) ++ B) ++ T1 := hb
    rcases List.mem_append.mp hb' with z | z
    · have z2 : b ∈ A ∨ b ∈ E1 ∨ b ∈ (c :: R1) ++ (T1 ++ X1) ∨ b ∈ E2 ∨ b ∈ B := by
        rcases List.mem_append.mp z with z | z
        · exact .inl z
        · rcases List.mem_append.mp z with z | z
          · rcases List.mem_append.mp z with z | z
            · exact .inr (.inl z)
            · rcases List.mem_append.mp z with z | z
              · exact .inr (.inr (.inl (List.mem_append_left _ z)))
              · exact .inr (.inr (.inr (.inl z)))
          · exact .inr (.inr (.inr (.inr z)))
      rcases z2 with z | z | z | z | z
      · exact List.mem_append_left _ (s1.subset (by simp [z]))
      · exact List.mem_append_left _ (s1.subset (by simp [z]))
      · rcases List.mem_append.mp ((from0 b).mp z) with z | z
        · exact List.mem_append_left _ (s1.subset (by simp [z]))
        · exact List.mem_append_right _ z
      · exact List.mem_append_left _ (s1.subset (by simp [z]))
      · exact List.mem_append_left _ (s1.subset (by simp [z]))
    · rcases List.mem_append.mp ((from0 b).mp (List.mem_append_right _ (List.mem_append_left _ z))) with z | z
      · exact List.mem_append_left _ (s1.subset (by simp [z]))
      · exact List.mem_append_right _ z
  · by_cases z : b = c
    · rw [z, upd_same]; simp
    · rw [upd_ne z]; exact hb
end
end Mi
end
section
set_option Elab.async false
set_option linter.all false
set_option maxRecDepth 100000
set_option maxHeartbeats 2000000
/-! S18: methods that change a list, cells that are set, targets. -/
namespace Mi
open PySem PySem.Spec PyProof.Rows L2
def simples : List ME → Option (List SE)
  | [] => some []
  | .s e :: r => (simples r).map (e :: ·)
  | _ => none
theorem evs_simple {G : Cfg} {ρ : Rho} : ∀ {es : List ME} {ss : List SE}, simples es = some ss → (∃ xs, evSs ss ρ = some xs ∧ (∀ x ∈ xs, isL x = false) ∧ evs G es ρ = .ok (xs.map fun x => (x, 0)) ρ) ∨ evs G es ρ = .stuck
  | [], ss, h => by
    cases h
    exact .inl ⟨[], rfl, (fun x hx => nomatch hx), rfl⟩
  | m :: r, ss, h => by
    cases m <;> first | (cases h; done) | skip
    rename_i e
    obtain ⟨sr, h1, rfl⟩ := Option.map_eq_some_iff.mp (show (simples r).map (e :: ·) = some ss from h)
    have he : evs G (.s e :: r) ρ = (Mi.orStuck (evS e ρ) fun x => if isL x then .stuck else .ok (x, 0) ρ).bind fun a ρ => (evs G r ρ).bind fun as ρ => .ok (a :: as) ρ := rfl
    rw [he]
    cases h2 : evS e ρ with
    | none => exact .inr rfl
    | some x =>
      by_cases hl : isL x = true
      · right
        show ((if isL x = true then Out.stuck else .ok (x, 0) ρ : Out Arg).bind fun a ρ => (evs G r ρ).bind fun as ρ => .ok (a :: as) ρ) = .stuck
        rw [if_pos hl]; rfl
      · have e2 : ((Mi.orStuck (some x) fun x => if isL x then Out.stuck else .ok (x, 0) ρ).bind fun a ρ => (evs G r ρ).bind fun as ρ => .ok (a :: as) ρ) = (evs G r ρ).bind fun as ρ => .ok ((x, 0) :: as) ρ := by
          show ((if isL x = true then Out.stuck else .ok (x, 0) ρ : Out Arg).bind fun a ρ => (evs G r ρ).bind fun as ρ => .ok (a :: as) ρ) = _
          rw [if_neg hl]; rfl
        rw [e2]
        rcases evs_simple (G := G) (ρ := ρ) h1 with ⟨xs, h3, h4, h5⟩ | h5
        · refine .inl ⟨x :: xs, ?_, ?_, by rw [h5]; rfl⟩
          · show (evS e ρ).bind _ = _
            rw [h2]
            show (evSs sr ρ).map _ = _
            rw [h3]; rfl
          · intro z hz
            rcases List.mem_cons.mp hz with rfl | hz
            · simpa using hl
            · exact h4 z hz
        · exact .inr (by rw [h5]; rfl)
/-- several simple expressions -/
def TSs (K : PySem.W.Frag) (fx : List (Nat × V)) (ss : List SE) : TA := fun σ H Q => ∃ ρ O F xs, R K fx σ H ρ O F ∧ evSs ss ρ = some xs ∧ ∀ vs, Paired (Bor K (fun b => b ∈ O ++ F) H) vs xs → Q vs H
def okSs (N : List Str) (sc : Scope) : List SE → List Expr → Bool
  | [], [] => true
  | s :: ss, e :: es => okS N sc s e && noStar e && okSs N sc ss es
  | _, _ => false
section
variable {X : Cx} {fx : List (Nat × V)} {XR : XRel} {W : WX} {G : Cfg} {N : List Str} {sc : Scope}
theorem okSs_star : ∀ {ss : List SE} {es : List Expr}, okSs N sc ss es = true → es.all noStar = true
  | [], [], _ => rfl
  | s :: ss, e :: es, h => by
    obtain ⟨h1, h2⟩ := band h
    obtain ⟨h1, h3⟩ := band h1
    rw [List.all_cons, h3, okSs_star h2]; rfl
  | [], _ :: _, h => by cases h
  | _ :: _, [], h => by cases h
theorem pa_ss (hX : XOk X N sc) : ∀ {ss : List SE} {es : List Expr}, okSs N sc ss es = true → PA X es (TSs X.K fx ss)
  | [], [], _ => paImp pa_nil fun σ H Q ⟨ρ, O, F, xs, r, e, q⟩ => by
    cases e; exact q [] .nil
  | s :: ss, e :: es, h => by
    obtain ⟨h1, h2⟩ := band h
    obtain ⟨h1, h3⟩ := band h1
    refine paImp (pa_cons (okS_both (fx := fx) hX s e h1).1 (pa_ss hX h2) (star_cons h3)) fun σ H Q ⟨ρ, O, F, xs, r, ev, q⟩ => ?_
    obtain ⟨x, e1, e2⟩ := Option.bind_eq_some_iff.mp (show (evS s ρ).bind _ = some xs from ev)
    obtain ⟨xr, e3, rfl⟩ := Option.map_eq_some_iff.mp e2
    exact ⟨ρ, O, F, x, r, e1, fun v hv => ⟨ρ, O, F, xr, r, e3, fun vs hvs => q _ (.cons hv hvs)⟩⟩
  | [], _ :: _, h => by cases h
  | _ :: _, [], h => by cases h
/-- the thing at a path's end, as it is written -/
def ckPath (N : List Str) (sc : Scope) (i : Nat) : List SE → Expr → Bool
  | [], e => ckVar N sc i e
  | [k], .Subscript l r _ => ckVar N sc i l && okS N sc k r && noSl r
  | _, _ => false
theorem ix_at (hu : X.A.units + 1 < cLine) : IxR X (fun x y H Q => ∃ k c L, At H x [k] c ∧ Bor X.K L H y k ∧ Q (.ref c) H) := IxR.imp (IxR.or ix_list (ix_dictP hu)) fun x y H Q ⟨k, c, L, ⟨a, hx, hat⟩, hy, q⟩ => by
  subst hx
  rcases hat with ⟨vs, i, rfl, hr, e⟩ | ⟨ms, kk, e1, hr, e2⟩
  · exact .inl ⟨a, vs, i, .ref c, rfl, hy.int, SqL.of hr, e, q⟩
  · exact .inr ⟨a, ms, kk, .ref c, rfl, .inl hr, keyOf_kV hy e1, e2, q⟩
/-- its reading: nothing changes -/
def TPa (K : PySem.W.Frag) (fx : List (Nat × V)) (i : Nat) (path : List SE) : TE := fun σ H Q => ∃ ρ O F ks w c, R K fx σ H ρ O F ∧ evSs path ρ = some ks ∧ σ[i]? = some (some w) ∧ At H w ks c ∧ Q (.ref c) H
theorem pe_path (hX : XOk X N sc) {i : Nat} {path : List SE} {e : Expr} (h : ckPath N sc i path e = true) : PE X e (TPa X.K fx i path) := by
  match path, h with
  | [], h =>
    have h : ckVar N sc i e = true := h
    cases e <;> first | (cases h; done) | skip
    obtain ⟨h1, h2, h3, h4⟩ := okVar_of hX h
    refine peImp (pe_var h1 h2 h3 h4) fun σ H Q ⟨ρ, O, F, ks, w, c, r, ek, hw, hat, q⟩ => ?_
    cases ek
    have hat : w = .ref c := hat
    subst hat
    exact ⟨_, hw, q⟩
  | [k], h =>
    cases e <;> first | (cases h; done) | skip
    rename_i l r _ _
    obtain ⟨h1, h3⟩ := band h
    obtain ⟨h1, h2⟩ := band h1
    cases l <;> first | (cases h1; done) | skip
    obtain ⟨g1, g2, g3, g4⟩ := okVar_of hX h1
    refine peImp (pe_ix (ix_at (by have := hX.units; omega)) (pe_var g1 g2 g3 g4) (okS_both (fx := fx) hX k r h2).1 (plain_ix h3)) fun σ H Q ⟨ρ, O, F, ks, w, c, r, ek, hw, hat, q⟩ => ?_
    obtain ⟨x, e1, e2⟩ := Option.bind_eq_some_iff.mp (show (evS k ρ).bind _ = some ks from ek)
    obtain ⟨xr, e3, rfl⟩ := Option.map_eq_some_iff.mp e2
    cases e3
    exact ⟨w, hw, ρ, O, F, x, r, e1, fun v hv => ⟨x, c, _, hat, hv, q⟩⟩

/-! ### methods -/
def moName : Mo → Option (String × Nat)
  | .append => some ("append", 1)
  | .pop0 => some ("pop", 0)
  | .pop1 => some ("pop", 1)
  | .insert => some ("insert", 2)
  | _ => none
theorem mt_of {o : Mo} {n : String} {k : Nat} (h : moName o = some (n, k)) : ∃ id, Slot "list" (Str.ofString n) id ∧ typeOf (.builtin id) = pure (.type "method_descriptor") ∧ MtR X id (rM X.K o) ∧ o ≠ .update := by
  cases o <;> first | (cases h; done) | skip
  all_goals (cases h)
  · exact ⟨_, PySem.F.slot_list_append, PySem.F.type_list_append, mt_append, nofun⟩
  · exact ⟨_, PySem.F.slot_list_pop, PySem.F.type_list_pop, mt_pop, nofun⟩
  · exact ⟨_, PySem.F.slot_list_pop, PySem.F.type_list_pop, mt_popAt, nofun⟩
  · exact ⟨_, PySem.F.slot_list_insert, PySem.F.type_list_insert, mt_insert, nofun⟩
theorem no_star_all {env : Env} {pos : Pos} : ∀ {es : List Expr}, es.all noStar = true → (PySem.backTo pos (starEach es env)).all (fun x => !x.1) = true
  | [], _ => rfl
  | a :: as, h => by
    rw [List.all_cons, Bool.and_eq_true] at h
    rw [star_cons h.1]
    exact no_star_all (es := as) h.2
theorem pe_meth0' {o : Mo} {n : String} {k : Nat} (hm : moName o = some (n, k)) {recv : Expr} {apos cpos : Pos} {tr : TE} (hr : PE X recv tr) (hb : plainBase recv = true) (hl : (apos.endLine == cpos.line) = true)
    : PE X (.Call (.Attribute recv (Str.ofString n) apos) [] [] cpos) (fun σ H Q => tr σ H fun x H1 => tyV X.K "list" x H1 ∧ rM X.K o x [] H1 Q) := by
  obtain ⟨id, s1, s2, s3, _⟩ := mt_of (X := X) hm
  exact pe_bm0 PySem.F.plainAttrs_list s1 s2 s3 hr (base_plain hb) hl
theorem pe_meth' {o : Mo} {n : String} {k : Nat} (hm : moName o = some (n, k)) {recv e : Expr} {es : List Expr} {apos cpos : Pos} {tr : TE} {t : TA} (hr : PE X recv tr) (ha : PA X (e :: es) t) (hb : plainBase recv = true) (hl : (apos.endLine == cpos.line) = true) (hs : (e :: es).all noStar = true) (hk : (e :: es).length = k)
    : PE X (.Call (.Attribute recv (Str.ofString n) apos) (e :: es) [] cpos) (fun σ H Q => tr σ H fun x H1 => tyV X.K "list" x H1 ∧ t σ H1 fun xs H2 => rM X.K o x xs H2 Q) := by
  obtain ⟨id, s1, s2, s3, _⟩ := mt_of (X := X) hm
  have hk2 : k ≤ 2 := by
    cases o <;> first | (cases hm; done) | (cases hm; decide)
  have hs' := hs
  rw [List.all_cons, Bool.and_eq_true] at hs'
  refine pe_bm PySem.F.plainAttrs_list s1 s2 s3 hr ha (base_plain hb) ?_ hl (star_cons hs'.1) (no_star_any hs'.2)
  rw [no_star_all hs, Bool.true_and]
  have h30 : (e :: es).length + ([] : List Keyword).length + (if ([] : List Keyword).isEmpty then 0 else 1) < 30 := by
    rw [hk]
    show k + 0 + 0 < 30
    omega
  rw [decide_eq_true h30]
  rfl
/-- a name whose slot holds a list -/
theorem recv_ty {K : PySem.W.Frag} {σ : L2.St} {H : Hp} {ρ : Rho} {O F : List Addr} {i : Nat} {o : Mo} {x0 : Arg} (ho : o ≠ .update) (r : R K fx σ H ρ O F) (h0 : slot ρ i = some x0) (hr : recvOk o [] x0.1 = true) : ∃ w, σ[i]? = some (some w) ∧ tyV K "list" w H := by
  obtain ⟨w, hw, hb⟩ := r.var h0
  refine ⟨w, hw, ?_⟩
  obtain ⟨x, d⟩ := x0
  cases x <;> first | (cases hr; done) | skip
  · exact tyV_lst hb
  · cases o <;> first | (cases hr; done) | exact absurd rfl ho
theorem recv_lst {o : Mo} {ks : List PV} {x : PV} (ho : o ≠ .update) (hr : recvOk o ks x = true) : ∃ ls, getP ks x = some (.lst ls) := by
  unfold recvOk at hr
  split at hr
  · rename_i ls h; exact ⟨ls, h⟩
  · cases o <;> first | (cases hr; done) | exact absurd rfl ho
  · cases hr
/-- a method call on a list, as it is written; g: the arguments -/
def ckMut (N : List Str) (sc : Scope) (o : Mo) (i : Nat) (path : List SE) (ss : Option (List SE)) (g : List Expr → Bool) : Expr → Bool
  | .Call (.Attribute recv m apos) es [] cpos => match moName o with
    | some (n, k) => decide (m = Str.ofString n) && plainBase recv && (apos.endLine == cpos.line) && es.all noStar && decide (es.length = k) && ckPath N sc i path recv &&
        (match path with
          | [] => g es
          | _ => (match ss with | some ss => okSs N sc ss es | none => false))
    | none => false
  | _ => false
/-- the end of a change -/
theorem fin_mut {K : PySem.W.Frag} {σ : L2.St} {H H0 : Hp} {ρ1 : Rho} {O O1 F T : List Addr} {i : Nat} {o : Mo} (ho : o ≠ .update) {ks : List PV} (hk : ks.length ≤ 1) {as : List Arg} {Q : VK} (r : R K fx σ H ρ1 O1 (T ++ F)) (x1 : Ext O H0 H (O1 ++ T))
    (t : Tm K fx XR W (relA K) (Mi.orStuck (slot ρ1 i) fun x => Mi.orStuck (modAt (change o as) ks x.1 x.2) fun u => .ok u.1 (ρ1.set i (some u.2))) σ H0 O F Q) :
    ∃ w c x, σ[i]? = some (some w) ∧ At H w ks c ∧ slot ρ1 i = some x ∧ (∀ ls, getP ks x.1 = some (.lst ls) → ∃ vs0, H c = some (.lst vs0)) ∧ ∀ vs : List V, relL (relA K) (fun b => b ∈ O1 ++ (T ++ F)) H as vs T → rM K o (.ref c) vs H Q := by
  obtain ⟨⟨x, d⟩, e1, t⟩ := Tm.orStuck t
  obtain ⟨⟨res, x', df⟩, e2, t⟩ := Tm.orStuck t
  obtain ⟨w, c, hw, hat, hl, go⟩ := R.change hk ho r e1 e2
  refine ⟨w, c, _, hw, hat, e1, hl, fun vs hv => go vs hv Q fun v H' O' T' r' ores x2 => t v H' O' T' r' ores ?_⟩
  have x1' : Ext O H0 H ((O1 ++ T) ++ []) := x1.sub fun b hb => by simpa using hb
  exact x1'.trans x2
theorem rel_simple {K : PySem.W.Frag} {L : Addr → Prop} {H : Hp} : ∀ {xs : List PV} {vs : List V}, (∀ x ∈ xs, isL x = false) → Paired (Bor K L H) vs xs → relL (relA K) L H (xs.map fun x => (x, 0)) vs []
  | [], _, _, .nil => ⟨rfl, rfl⟩
  | x :: xs, _, hl, .cons (a := v) (l₁ := vr) ⟨d, O, h⟩ p => by
    refine ⟨v, vr, [], [], rfl, rfl, (Own.scalar (hl x List.mem_cons_self) h).2 0, rel_simple (fun z hz => hl z (List.mem_cons_of_mem _ hz)) p⟩
theorem pm_mut (hX : XOk X N sc) {o : Mo} {i : Nat} {path : List SE} {ms : List ME} {e : Expr} {g : List Expr → Bool} (hg : ∀ es, g es = true → PMs X fx XR W G ms es) (h : ckMut N sc o i path (simples ms) g e = true) : PM X fx XR W G (.mut o i path ms) e := by
  unfold ckMut at h
  split at h
  · rename_i recv m apos es cpos
    split at h
    · rename_i n k hm
      obtain ⟨h, hlast⟩ := band h
      obtain ⟨h, hp⟩ := band h
      obtain ⟨h, hlen⟩ := band h
      obtain ⟨h, hs⟩ := band h
      obtain ⟨h, hl⟩ := band h
      obtain ⟨h, hb⟩ := band h
      obtain rfl := of_decide_eq_true h
      have hlen := of_decide_eq_true hlen
      have ho : o ≠ .update := by rintro rfl; cases hm
      have pth := pe_path (fx := fx) hX hp
      have main : ∀ {recv : Expr} {es : List Expr} {apos cpos : Pos}, PE X (.Call (.Attribute recv (Str.ofString n) apos) es [] cpos) (TM X.K fx XR W G (.mut o i path ms)) → PM X fx XR W G (.mut o i path ms) (.Call (.Attribute recv (Str.ofString n) apos) es [] cpos) :=
        fun hv => pm_of hv (fun _ => rfl) (pt_val' hv (fun _ => rfl) fun _ => rfl)
      refine main ?_
      match path, hp, pth, hlast with
      | [], hp, pth, hlast =>
        have pms := hg _ hlast
        have red : ∀ σ H Q, TM X.K fx XR W G (.mut o i [] ms) σ H Q → ∃ w, σ[i]? = some (some w) ∧ tyV X.K "list" w H ∧ TMs X.K fx XR W G ms σ H fun vs H1 => rM X.K o w vs H1 Q := fun σ H Q ⟨ρ, O, F, r, t⟩ => by
          have t' : Tm X.K fx XR W (relA X.K) (Mi.orStuck (slot ρ i) fun x0 => if recvOk o [] x0.1 then (evs G ms ρ).bind fun as ρ => Mi.orStuck (slot ρ i) fun x => Mi.orStuck (modAt (change o as) [] x.1 x.2) fun u => .ok u.1 (ρ.set i (some u.2)) else .stuck) σ H O F Q := t
          obtain ⟨x0, e1, t'⟩ := Tm.orStuck t'
          split at t'
          · rename_i hr
            obtain ⟨w, hw, ty⟩ := recv_ty ho r e1 hr
            refine ⟨w, hw, ty, ρ, O, F, r, Tm.mono (Tm.seq0 (rel := relL (relA X.K)) t') fun vs H1 ⟨as, ρ1, O1, T, e2, r1, q1, x1, t1⟩ => ?_⟩
            obtain ⟨w', c, _, hw', hat, _, _, rm⟩ := fin_mut (ks := []) ho (by simp) r1 x1 t1
            rw [hw] at hw'; cases hw'
            have hat : w = .ref c := hat
            rw [hat]; exact rm vs q1
          · exact t'.elim
        have ckv : ∀ {recv : Expr}, ckPath N sc i [] recv = true → PE X recv (tVar i) := fun {recv} h => by
          have h : ckVar N sc i recv = true := h
          cases recv <;> first | (cases h; done) | skip
          obtain ⟨h1, h2, h3, h4⟩ := okVar_of hX h
          exact pe_var h1 h2 h3 h4
        cases pms with
        | nil =>
          refine peImp (pe_meth0' hm (ckv hp) hb hl) fun σ H Q q => ?_
          obtain ⟨w, hw, ty, t⟩ := red σ H Q q
          exact ⟨w, hw, ty, tms_nil t⟩
        | cons p1 p2 =>
          refine peImp (pe_meth' hm (ckv hp) (pm_pa_v (.cons p1 p2) hs) hb hl hs hlen) fun σ H Q q => ?_
          obtain ⟨w, hw, ty, t⟩ := red σ H Q q
          exact ⟨w, hw, ty, t⟩
      | k0 :: kr, hp, pth, hlast =>
        have hl2 : (match simples ms with | some ss => okSs N sc ss es | none => false) = true := hlast
        clear hlast
        split at hl2
        · rename_i ss hss
          have hkr : kr = [] := by
            cases kr with
            | nil => rfl
            | cons a b => cases hp
          subst hkr
          have red : ∀ σ H Q, TM X.K fx XR W G (.mut o i [k0] ms) σ H Q → ∃ ρ O F ks w c xs, R X.K fx σ H ρ O F ∧ evSs [k0] ρ = some ks ∧ σ[i]? = some (some w) ∧ At H w ks c ∧ tyV X.K "list" (.ref c) H ∧ evSs ss ρ = some xs ∧ ∀ vs, Paired (Bor X.K (fun b => b ∈ O ++ F) H) vs xs → rM X.K o (.ref c) vs H Q := fun σ H Q ⟨ρ, O, F, r, t⟩ => by
            have t' : Tm X.K fx XR W (relA X.K) (Mi.orStuck (evSs [k0] ρ) fun ks => Mi.orStuck (slot ρ i) fun x0 => if recvOk o ks x0.1 then (evs G ms ρ).bind fun as ρ => Mi.orStuck (slot ρ i) fun x => Mi.orStuck (modAt (change o as) ks x.1 x.2) fun u => .ok u.1 (ρ.set i (some u.2)) else .stuck) σ H O F Q := t
            obtain ⟨ks, e0, t'⟩ := Tm.orStuck t'
            obtain ⟨x0, e1, t'⟩ := Tm.orStuck t'
            have hks : ks.length ≤ 1 := by
              obtain ⟨x, g1, g2⟩ := Option.bind_eq_some_iff.mp (show (evS k0 ρ).bind _ = some ks from e0)
              obtain ⟨xr, g3, rfl⟩ := Option.map_eq_some_iff.mp g2
              cases g3; exact Nat.le_refl _
            split at t'
            · rcases evs_simple (G := G) (ρ := ρ) hss with ⟨xs, h3, h4, h5⟩ | h5
              · rw [h5] at t'
                rename_i hrecv
                obtain ⟨w, c, x, hw, hat, hx, hl', go⟩ := fin_mut (T := []) (F := F) ho hks (by simpa using r) (Ext.refl (O := O) fun b hb => by simpa using hb) t'
                rw [e1] at hx
                cases hx
                obtain ⟨ls, hls⟩ := recv_lst ho hrecv
                obtain ⟨vs0, h0⟩ := hl' ls hls
                refine ⟨ρ, O, F, ks, w, c, xs, r, e0, hw, hat, .inl ⟨rfl, vs0, SqL.of h0⟩, h3, fun vs hvs => go vs ?_⟩
                have := rel_simple h4 hvs
                simpa using this
              · rw [h5] at t'; exact t'.elim
            · exact t'.elim
          cases es with
          | nil =>
            refine peImp (pe_meth0' hm pth hb hl) fun σ H Q q => ?_
            obtain ⟨ρ, O, F, ks, w, c, xs, r, e0, hw, hat, ty, ex, go⟩ := red σ H Q q
            refine ⟨ρ, O, F, ks, w, c, r, e0, hw, hat, ty, go [] ?_⟩
            cases ss with
            | nil => cases ex; exact .nil
            | cons a b => cases hl2
          | cons e es =>
            refine peImp (pe_meth' hm pth (pa_ss (fx := fx) hX hl2) hb hl hs hlen) fun σ H Q q => ?_
            obtain ⟨ρ, O, F, ks, w, c, xs, r, e0, hw, hat, ty, ex, go⟩ := red σ H Q q
            exact ⟨ρ, O, F, ks, w, c, r, e0, hw, hat, ty, ρ, O, F, xs, r, ex, go⟩
        · cases hl2
    · cases h
  · cases h
end
end Mi
end
section
set_option Elab.async false
set_option linter.all false
set_option maxRecDepth 100000
set_option maxHeartbeats 2000000
/-! S19: targets. -/
namespace Mi
open PySem PySem.Spec PyProof.Rows L2
mutual
def pnames : Pat → List Nat
  | .name i => [i]
  | .tup ps => pnamess ps
  | .st _ _ => []
def pnamess : List Pat → List Nat
  | [] => []
  | p :: ps => pnames p ++ pnamess ps
end
/-- but for these slots -/
def SameO (ns : List Nat) (σ σ' : L2.St) : Prop := σ'.length = σ.length ∧ ∀ j, j ∉ ns → σ'[j]? = σ[j]?
theorem SameO.refl {ns : List Nat} {σ : L2.St} : SameO ns σ σ := ⟨rfl, fun _ _ => rfl⟩
theorem SameO.trans {ns ms : List Nat} {σ σ1 σ2 : L2.St} (a : SameO ns σ σ1) (b : SameO ms σ1 σ2) : SameO (ns ++ ms) σ σ2 :=
  ⟨b.1.trans a.1, fun j h => (b.2 j fun z => h (List.mem_append_right _ z)).trans (a.2 j fun z => h (List.mem_append_left _ z))⟩
def isTupP : Pat → Bool
  | .tup _ => true
  | _ => false
/-- a value for a pattern: a pair that was just made may be taken apart -/
def OwnP (K : PySem.W.Frag) (L : Addr → Prop) (H : Hp) (p : Pat) (d : Nat) (x : PV) (v : V) (T : List Addr) : Prop := Own K L H d x v T ∨
  (isTupP p = true ∧ T = [] ∧ ∃ a vs xs, v = .ref a ∧ x = .tup xs ∧ SqT K H a vs ∧ Owns K L H 0 xs vs [])
def TGP (K : PySem.W.Frag) (p : Pat) : TG := fun v σ H Q => ∃ fx ρ O F x d T ρ', R K fx σ H ρ O (T ++ F) ∧ OwnP K (fun b => b ∈ O ++ (T ++ F)) H p d x v T ∧ (∀ q ∈ fx, q.1 ∉ pnames p) ∧ bindP p (x, d) ρ = some ρ' ∧
  ∀ σ' H' O', R K fx σ' H' ρ' O' F → Ext (O ++ T) H H' O' → SameO (pnames p) σ σ' → Q σ' H'
def TGPs (K : PySem.W.Frag) (ps : List Pat) : TGs := fun vs σ H Q => ∃ fx ρ O F xs ρ', R K fx σ H ρ O F ∧ Owns K (fun b => b ∈ O ++ F) H 0 xs vs [] ∧ (∀ q ∈ fx, q.1 ∉ pnamess ps) ∧ bindPs ps xs ρ = some ρ' ∧
  ∀ σ' H' O', R K fx σ' H' ρ' O' F → Ext O H H' O' → SameO (pnamess ps) σ σ' → Q σ' H'
/-- a name that may be stored -/
def okLoc (N : List Str) (sc : Scope) (fc : Str → Bool) (i : Nat) (x : Str) : Bool :=
  (match N[i]? with | some y => decide (y = x) | none => false) && (match sc.names.lookup x with | some .local => true | some .cell => fc x | _ => false)
mutual
def okP (N : List Str) (sc : Scope) (fc : Str → Bool) : Pat → Expr → Bool
  | .name i, .Name x _ => okLoc N sc fc i x
  | .tup ps, .Tuple es _ _ => okPs N sc fc ps es
  | .st r path, .Subscript o i _ => (match path with
    | [l] => ckPath N sc r [] o && okS N sc l i
    | [k, l] => ckPath N sc r [k] o && okS N sc l i
    | _ => false)
  | _, _ => false
def okPs (N : List Str) (sc : Scope) (fc : Str → Bool) : List Pat → List Expr → Bool
  | [], [] => true
  | p :: ps, e :: es => okP N sc fc p e && okPs N sc fc ps es
  | _, _ => false
end
section
variable {K : PySem.W.Frag} {fx : List (Nat × V)} {σ : L2.St} {H : Hp} {ρ : Rho} {O F T : List Addr}
/-- a value is put into a slot -/
theorem R.put (r : R K fx σ H ρ O (T ++ F)) {i : Nat} (hi : i < ρ.length) {x : PV} {d : Nat} {v : V} (h : Own K (fun b => b ∈ O ++ (T ++ F)) H d x v T) (hf : ∀ q ∈ fx, q.1 ≠ i) :
    ∃ O', R K fx (σ.set i (some v)) H (ρ.set i (some (x, d))) O' F ∧ ∀ b ∈ O', b ∈ O ++ T := by
  obtain ⟨A, Oi, B, rfl, f, _, g⟩ := r.chg hi
  have nd := r.nd
  have p : (A ++ (Oi ++ B) ++ (T ++ F)).Perm (Oi ++ (A ++ (T ++ B) ++ F)) := by
    rw [List.perm_iff_count]; intro q; simp only [List.count_append]; omega
  refine ⟨_, g H (some v) (some (x, d)) T F (fun _ _ e => e) (fun _ _ _ e => e) (fun _ _ e _ => e) (List.nodup_append.mp (p.nodup_iff.mp nd)).2.1 (fun b hb => ?_) (fun b hb => r.tr b (List.mem_append_right _ hb)) (fun q hq e => absurd e (hf q hq)) (fun a' e => ?_) (fun e => nomatch e), fun b hb => ?_⟩
  · exact .inr (.inl hb)
  · cases e
    refine ⟨v, rfl, Own.stay h (Stay.refl fun b _ nl z => nl ?_)⟩
    simp only [List.mem_append] at z ⊢
    rcases z with (z | z | z) | z
    · exact .inl (.inl z)
    · exact .inr (.inl z)
    · exact .inl (.inr (.inr z))
    · exact .inr (.inr z)
  · simp only [List.mem_append] at hb ⊢
    rcases hb with z | z | z
    · exact .inl (.inl z)
    · exact .inr z
    · exact .inl (.inr (.inr z))
end
section
variable {X : Cx} {N : List Str} {sc : Scope} {fc : Str → Bool}
theorem pgImp {e : Expr} {t t' : TG} (h : PG X e t) (g : ∀ v σ H Q, t' v σ H Q → t v σ H Q) : PG X e t' := ⟨fun pins s σ H v u Q I r q => h.run pins s σ H v u Q I r (g v σ H Q q)⟩
theorem pgsImp {e : List Expr} {t t' : TGs} (h : PGs X e t) (g : ∀ v σ H Q, t' v σ H Q → t v σ H Q) : PGs X e t' := ⟨fun pins s σ H v u Q I r q => h.run pins s σ H v u Q I r (g v σ H Q q)⟩
theorem pgOr {e : Expr} {t t' : TG} (h : PG X e t) (h' : PG X e t') : PG X e (fun v σ H Q => t v σ H Q ∨ t' v σ H Q) := ⟨fun pins s σ H v u Q I r q => q.elim (h.run pins s σ H v u Q I r) (h'.run pins s σ H v u Q I r)⟩
theorem psetOr {t t' : TSet} (h : PSet X t) (h' : PSet X t') : PSet X (fun o i v H Q => t o i v H Q ∨ t' o i v H Q) := fun pins s σ H o i v ov iv u Q I ro ri rv q => q.elim (h pins s σ H o i v ov iv u Q I ro ri rv) (h' pins s σ H o i v ov iv u Q I ro ri rv)
theorem okP_star {p : Pat} {e : Expr} (h : okP N sc fc p e = true) : noStar e = true := by
  cases p <;> cases e <;> first | rfl | (cases h; done)
theorem each_cons {e : Expr} {es : List Expr} {env : Env} (h : noStar e = true) : assignEach (e :: es) env = (false, assign e env) :: assignEach es env := by
  cases e <;> first | rfl | (cases h; done)
theorem okPs_each {env : Env} : ∀ {ps : List Pat} {es : List Expr}, okPs N sc fc ps es = true → (assignEach es env).length = ps.length ∧ (assignEach es env).findIdx? (·.1) = none
  | [], [], _ => ⟨rfl, rfl⟩
  | p :: ps, e :: es, h => by
    obtain ⟨h1, h2⟩ := band (show (okP N sc fc p e && okPs N sc fc ps es) = true from h)
    obtain ⟨k1, k2⟩ := okPs_each (env := env) h2
    rw [each_cons (okP_star h1)]
    refine ⟨by rw [List.length_cons, k1, List.length_cons], ?_⟩
    rw [List.findIdx?_cons]
    simp [k2]
  | [], _ :: _, h => by cases h
  | _ :: _, [], h => by cases h
theorem binds_len : ∀ {ps : List Pat} {xs : List PV} {ρ ρ' : Rho}, bindPs ps xs ρ = some ρ' → xs.length = ps.length
  | [], [], _, _, _ => rfl
  | p :: ps, x :: xs, ρ, ρ', h => by
    obtain ⟨ρ1, h1, h2⟩ := Option.bind_eq_some_iff.mp (show (bindP p (x, 0) ρ).bind (fun ρ => bindPs ps xs ρ) = some ρ' from h)
    rw [List.length_cons, List.length_cons, binds_len h2]
  | [], _ :: _, _, _, h => by cases h
  | _ :: _, [], _, _, h => by cases h
theorem set_key {k : PV} {a : Arg} {y : PV} {d : Nat} {t : Arg × PV × Nat} (e : change .set [(k, 0), a] y d = some t) : isL k = false := by
  have e' : cSet [(k, 0), a] y d = some t := e
  unfold cSet at e'
  split at e'
  · rename_i h
    cases h; rfl
  · rename_i h
    cases h
    obtain ⟨kk, h1, _⟩ := Option.bind_eq_some_iff.mp e'
    cases k <;> first | rfl | (cases h1; done)
  · cases e'
theorem mod_set_key {k : PV} {a : Arg} : ∀ {ks : List PV} {x : PV} {d : Nat} {t : Arg × PV × Nat}, modAt (change .set [(k, 0), a]) ks x d = some t → isL k = false
  | [], x, d, t, e => by
    unfold modAt at e
    split at e
    · exact set_key e
    · cases e
  | q :: ks, x, d, t, e => by
    unfold modAt at e
    split at e
    · split at e
      · split at e
        · rename_i h; exact mod_set_key h
        · cases e
      · cases e
    · cases e
theorem okS_noSl {l : SE} {i : Expr} (h : okS N sc l i = true) : noSl i = true := by
  cases i <;> first | rfl | (cases l <;> cases h)
theorem assign_sub {o i : Expr} {pos : Pos} {env : Env} (h : noSl i = true) : ∀ v, assign (.Subscript o i pos) env v = (do
      let ov ← holding [v] (eval o env)
      let iv ← holding [v, ov] (eval i env)
      standAt pos
      holding [v, ov, iv] (setItem ov iv v)
      release [v, ov, iv] []) := by
  intro v
  cases i <;> first | rfl | (cases h; done)
/-- x[..] = .. -/
theorem pg_st (hX : XOk X N sc) {r0 : Nat} {ps : List SE} {l : SE} {o i : Expr} {pos : Pos} (hps : ps.length ≤ 1) (h1 : ckPath N sc r0 ps o = true) (h2 : okS N sc l i = true) (he : ∀ (a : Arg) (ρ : Rho), bindP (.st r0 (ps ++ [l])) a ρ = (evSs ps ρ).bind fun ks => (evS l ρ).bind fun k => (slot ρ r0).bind fun x => (modAt (fun x d => change .set [(k, 0), a] x d) ks x.1 x.2).map fun t => ρ.set r0 (some t.2)) :
    ∀ (fx0 : List (Nat × V)), PG X (.Subscript o i pos) (fun v σ H Q => ∃ ρ O F x d T ρ', R X.K fx0 σ H ρ O (T ++ F) ∧ Own X.K (fun b => b ∈ O ++ (T ++ F)) H d x v T ∧ bindP (.st r0 (ps ++ [l])) (x, d) ρ = some ρ' ∧
      ∀ σ' H' O', R X.K fx0 σ' H' ρ' O' F → Ext (O ++ T) H H' O' → SameO [] σ σ' → Q σ' H') := by
  intro fx0
  refine pgImp (pg_sub (pe_path (fx := fx0) hX h1) (okS_both (fx := fx0) hX l i h2).1 (psetOr set_list (set_dict (by have := hX.units; omega))) (assign_sub (okS_noSl h2))) fun v σ H Q ⟨ρ, O, F, x, d, T, ρ', r, hv, hb, q⟩ => ?_
  rw [he] at hb
  obtain ⟨ks, e1, hb⟩ := Option.bind_eq_some_iff.mp hb
  obtain ⟨k, e2, hb⟩ := Option.bind_eq_some_iff.mp hb
  obtain ⟨x0, e3, hb⟩ := Option.bind_eq_some_iff.mp hb
  obtain ⟨⟨res, x', df⟩, e4, hb⟩ := Option.map_eq_some_iff.mp hb
  subst hb
  have hks : ks.length ≤ 1 := by
    match ps, hps with
    | [], _ => cases e1; exact Nat.zero_le _
    | [a], _ =>
      obtain ⟨z, g1, g2⟩ := Option.bind_eq_some_iff.mp (show (evS a ρ).bind _ = some ks from e1)
      obtain ⟨zr, g3, rfl⟩ := Option.map_eq_some_iff.mp g2
      cases g3; exact Nat.le_refl _
  obtain ⟨w, c, hw, hat, _, go⟩ := R.change (o := .set) (as := [(k, 0), (x, d)]) hks (by decide) r e3 e4
  refine ⟨ρ, O, T ++ F, ks, w, c, r, e1, hw, hat, ρ, O, T ++ F, k, r, e2, fun vk ⟨dk, Ok, hk⟩ => ?_⟩
  have hk0 := (Own.scalar (mod_set_key e4) hk).2 0
  obtain ⟨kk, vv, ev, hset⟩ := go [vk, v] ⟨vk, [v], [], T, rfl, rfl, hk0, v, [], T, [], rfl, by simp, hv, rfl, rfl⟩ (fun _ H' => Q σ H') fun z H' O' T' r' ores x2 => by
    have hT : T' = [] := by
      have hres : isL res.1 = false := by
        have e5 : res = (.non, 0) := mod_res e4
        rw [e5]; rfl
      exact (Own.scalar hres ores).1
    subst hT
    exact q σ H' O' r' (by simpa using x2) SameO.refl
  cases ev
  exact hset
where
  mod_res {k : PV} {a : Arg} : ∀ {ks : List PV} {x : PV} {d : Nat} {t : Arg × PV × Nat}, modAt (change .set [(k, 0), a]) ks x d = some t → t.1 = (.non, 0)
    | [], x, d, t, e => by
      unfold modAt at e
      split at e
      · have e' : cSet [(k, 0), a] x d = some t := e
        unfold cSet at e'
        split at e'
        · obtain ⟨j, _, rfl⟩ := Option.map_eq_some_iff.mp e'; rfl
        · obtain ⟨j, _, e''⟩ := Option.bind_eq_some_iff.mp e'
          split at e''
          · cases e''; rfl
          · cases e''
        · cases e'
      · cases e
    | q :: ks, x, d, t, e => by
      unfold modAt at e
      split at e
      · split at e
        · split at e
          · rename_i h
            obtain ⟨x0, _, rfl⟩ := Option.map_eq_some_iff.mp e
            have z := mod_res h
            exact z
          · cases e
        · cases e
      · cases e

/-- what a target needs of its place -/
structure FcOk (X : Cx) (fc : Str → Bool) : Prop where
  fn : ∀ x, fc x = true → X.fn x = true
theorem okLoc_of (hX : XOk X N sc) (hF : FcOk X fc) {i : Nat} {x : Str} (h : okLoc N sc fc i x = true) : X.N[i]? = some x ∧ Loc X.env.scope x ∧ (X.fn x = true ∨ X.env.scope.names.lookup x = some .local) := by
  obtain ⟨h1, h2⟩ := band h
  rw [hX.nn, hX.sc]
  refine ⟨?_, ?_, ?_⟩
  · split at h1
    · rename_i y hy; rw [hy]; simpa using h1
    · cases h1
  · split at h2 <;> first | exact .inl (by assumption) | exact .inr (by assumption) | cases h2
  · split at h2 <;> first | exact .inr (by assumption) | exact .inl (hF.fn _ h2) | cases h2
mutual
theorem pg_pat (hX : XOk X N sc) (hF : FcOk X fc) : ∀ (p : Pat) (e : Expr), okP N sc fc p e = true → PG X e (TGP X.K p)
  | .name i, e, h => by
    cases e <;> first | (cases h; done) | skip
    obtain ⟨h1, h2, h3⟩ := okLoc_of hX hF h
    refine pgImp (pg_name (by rw [hX.nn]; exact hX.nd) h1 h2 h3) fun v σ H Q ⟨fx, ρ, O, F, x, d, T, ρ', r, hv, hf, hb, q⟩ => ?_
    have hv := hv.resolve_right fun z => nomatch z.1
    have hb : (if i < ρ.length then some (ρ.set i (some (x, d))) else none) = some ρ' := hb
    split at hb
    · rename_i hi
      cases hb
      obtain ⟨O', r', sub⟩ := r.put hi hv fun q hq z => hf q hq (by rw [z]; exact List.mem_singleton.mpr rfl)
      exact q _ H O' r' (Ext.refl sub) ⟨by simp, fun j hj => by rw [List.getElem?_set_ne (fun z => hj (by rw [← z]; exact List.mem_singleton.mpr rfl))]⟩
    · cases hb
  | .tup ps, e, h => by
    cases e <;> first | (cases h; done) | skip
    rename_i es k pos
    have h : okPs N sc fc ps es = true := h
    obtain ⟨k1, k2⟩ := okPs_each (env := X.env) h
    have hp := pgs_pat hX hF ps es h
    refine pgImp (pgOr (pg_tup (n := ps.length) hX.calm hp k1 k2) (pg_lst (n := ps.length) hX.calm hp k1 k2)) fun v σ H Q ⟨fx, ρ, O, F, x, d, T, ρ', r, hv, hf, hb, q⟩ => ?_
    obtain ⟨xs, e1, e2⟩ := Option.bind_eq_some_iff.mp (show (elems x).bind (fun xs => bindPs ps xs ρ) = some ρ' from hb)
    have hlen := binds_len e2
    have nd := r.nd
    have go : ∀ {vs : List V}, Owns X.K (fun b => b ∈ O ++ F) H 0 xs vs [] → TGPs X.K ps vs σ H Q := fun {vs} o =>
      ⟨fx, ρ, O, F, xs, ρ', r.drop, o, hf, e2, fun σ' H' O' r' x' s' => q σ' H' O' r' ⟨fun b o' eb nb => x'.keep b o' eb fun z => nb (List.mem_append_left _ z), fun b hb => (x'.new b hb).imp (List.mem_append_left _) id, x'.dom, x'.tups, x'.frzs⟩ s'⟩
    rcases hv with hv | ⟨_, rfl, a, vs, zs, rfl, rfl, hs, o⟩
    rotate_left
    · cases e1
      have o' : Owns X.K (fun b => b ∈ O ++ F) H 0 xs vs [] := Owns.stay o (Stay.refl fun b _ nl z => nl (by simpa using z))
      exact .inl ⟨a, vs, rfl, hs, (owns_len o').trans hlen, go o'⟩
    have fz := Own.frozen (L' := fun b => b ∈ O ++ F) hv (List.nodup_append.mp (List.nodup_append.mp nd).2.1).1 (fun b _ nl z => nl (by
      simp only [List.mem_append] at z ⊢
      exact z.imp id .inr)) fun b hb z => by
        have n1 := List.nodup_append.mp nd
        have n2 := List.nodup_append.mp n1.2.1
        rcases List.mem_append.mp z with z | z
        · exact n1.2.2 b z b (List.mem_append_left _ hb) rfl
        · exact n2.2.2 b hb b z rfl
    cases x <;> first | (cases e1; done) | skip
    · cases e1
      obtain ⟨a, vs, rfl, hs, o⟩ := own0_tup fz
      exact .inl ⟨a, vs, rfl, hs, (owns_len o).trans hlen, go o⟩
    · cases e1
      obtain ⟨a, vs, rfl, hs, o⟩ := own0_lst fz
      exact .inr ⟨a, vs, rfl, SqL.of hs, (owns_len o).trans hlen, go o⟩
  | .st r0 path, e, h => by
    cases e <;> first | (cases h; done) | skip
    rename_i o i pos
    match path, h with
    | [l], h =>
      obtain ⟨h1, h2⟩ := band (show (ckPath N sc r0 [] o && okS N sc l i) = true from h)
      refine ⟨fun pins s σ H v u Q I rv ⟨fx, ρ, O, F, x, d, T, ρ', r, hv, hf, hb, q⟩ => ?_⟩
      have hv := hv.resolve_right fun z => nomatch z.1
      exact (pg_st hX (ps := []) (Nat.zero_le _) h1 h2 (fun _ _ => rfl) fx).run pins s σ H v u Q I rv ⟨ρ, O, F, x, d, T, ρ', r, hv, hb, q⟩
    | [k, l], h =>
      obtain ⟨h1, h2⟩ := band (show (ckPath N sc r0 [k] o && okS N sc l i) = true from h)
      refine ⟨fun pins s σ H v u Q I rv ⟨fx, ρ, O, F, x, d, T, ρ', r, hv, hf, hb, q⟩ => ?_⟩
      have hv := hv.resolve_right fun z => nomatch z.1
      exact (pg_st hX (ps := [k]) (Nat.le_refl _) h1 h2 (fun _ _ => rfl) fx).run pins s σ H v u Q I rv ⟨ρ, O, F, x, d, T, ρ', r, hv, hb, q⟩
theorem pgs_pat (hX : XOk X N sc) (hF : FcOk X fc) : ∀ (ps : List Pat) (es : List Expr), okPs N sc fc ps es = true → PGs X es (TGPs X.K ps)
  | [], [], _ => pgsImp pgs_nil fun vs σ H Q ⟨fx, ρ, O, F, xs, ρ', r, o, hf, hb, q⟩ => by
    cases xs with
    | nil =>
      cases hb
      exact ⟨o.1, q σ H O r (Ext.refl fun _ hb => hb) SameO.refl⟩
    | cons a b => cases hb
  | p :: ps, e :: es, h => by
    obtain ⟨h1, h2⟩ := band (show (okP N sc fc p e && okPs N sc fc ps es) = true from h)
    refine pgsImp (pgs_cons (pg_pat hX hF p e h1) (pgs_pat hX hF ps es h2) (by rw [each_cons (okP_star h1)]; rfl)) fun vs σ H Q ⟨fx, ρ, O, F, xs, ρ', r, o, hf, hb, q⟩ => ?_
    cases xs with
    | nil => cases hb
    | cons x xs =>
      obtain ⟨ρ1, e1, e2⟩ := Option.bind_eq_some_iff.mp (show (bindP p (x, 0) ρ).bind (fun ρ => bindPs ps xs ρ) = some ρ' from hb)
      obtain ⟨v, vr, O1, O2, rfl, eo, o1, o2⟩ := o
      obtain ⟨rfl, rfl⟩ := List.append_eq_nil_iff.mp eo.symm
      refine ⟨v, vr, rfl, fx, ρ, O, F, x, 0, [], ρ1, r, .inl o1, fun q hq z => hf q hq (List.mem_append_left _ z), e1, fun σ1 H1 O1 r1 x1 s1 => ?_⟩
      have x1 : Ext O H H1 O1 := by simpa using x1
      have st := Stay.ext (ρ := ρ) (T1 := []) (T2 := []) (O2 := O1) r.nd (by simpa using x1) (fun b hb => nomatch hb)
      refine ⟨fx, ρ1, O1, F, xs, ρ', r1, Owns.stay o2 ⟨st.ht, st.hf, st.k, fun b hb nl z => st.n b hb nl (by simpa using z)⟩, fun q hq z => hf q hq (List.mem_append_right _ z), e2, fun σ2 H2 O2 r2 x2 s2 => ?_⟩
      have x1' : Ext O H H1 (O1 ++ []) := by simpa using x1
      exact q σ2 H2 O2 r2 (x1'.trans x2) (s1.trans s2)
  | [], _ :: _, h => by cases h
  | _ :: _, [], h => by cases h
end
end
end Mi
end
section
set_option Elab.async false
set_option linter.all false
set_option maxRecDepth 100000
set_option maxHeartbeats 2000000
/-! S20: list comprehensions. -/
namespace Mi
open PySem PySem.Spec PyProof.Rows L2
theorem noEx_bind {α β : Type} (o : Out α) (f : α → Rho → Out β) : noEx (o.bind f) = (noEx o).bind fun a ρ => noEx (f a ρ) := by cases o <;> rfl
theorem noEx_stuck {α β : Type} (o : Option α) (f : α → Out β) : noEx (Mi.orStuck o f) = Mi.orStuck o fun a => noEx (f a) := by cases o <;> rfl
theorem wipe_get {α : Type} (σ : List (Option α)) : ∀ (vs : List Nat) (j : Nat), (vs.foldr (fun v s => s.set v none) σ)[j]? = if j ∈ vs then (if j < σ.length then some none else none) else σ[j]?
  | [], j => by simp
  | v :: vs, j => by
    have ih := wipe_get σ vs j
    have hl : ∀ vs : List Nat, (vs.foldr (fun v s => s.set v none) σ).length = σ.length := fun vs => by
      induction vs with
      | nil => rfl
      | cons a b ih => rw [List.foldr_cons, List.length_set, ih]
    rw [List.foldr_cons]
    by_cases e : v = j
    · subst e
      rw [if_pos List.mem_cons_self]
      split
      · rename_i h; rw [List.getElem?_set_self (by rw [hl]; exact h)]
      · rename_i h
        rw [List.getElem?_eq_none (by rw [List.length_set, hl]; omega)]
    · rw [List.getElem?_set_ne e, ih]
      have : (j ∈ v :: vs) ↔ j ∈ vs := by
        simp only [List.mem_cons]
        exact ⟨fun h => h.elim (fun z => absurd z.symm e) id, .inr⟩
      simp only [this]
theorem wipeM_eq (ρ : Rho) : ∀ vs : List Nat, Mi.wipe ρ vs = vs.foldr (fun v s => s.set v none) ρ
  | [] => rfl
  | v :: vs => by rw [List.foldr_cons, ← wipeM_eq ρ vs]; rfl
theorem wipeL_eq (σ : L2.St) : ∀ vs : List Nat, L2.wipe σ vs = vs.foldr (fun v s => s.set v none) σ
  | [] => rfl
  | v :: vs => by rw [List.foldr_cons, ← wipeL_eq σ vs]; rfl
theorem wipe_same {σ σ2 : L2.St} {own ns : List Nat} (h : SameO ns (L2.wipe σ own) σ2) (hs : ∀ j ∈ ns, j ∈ own) : L2.wipe σ2 own = L2.wipe σ own := by
  obtain ⟨h1, h2⟩ := h
  refine List.ext_getElem? fun j => ?_
  have hl : (L2.wipe σ own).length = σ.length := L2.wipe_length σ own
  rw [wipeL_eq σ2, wipeL_eq σ, wipe_get, wipe_get]
  by_cases hj : j ∈ own
  · rw [if_pos hj, if_pos hj, h1, hl]
  · rw [if_neg hj, if_neg hj, h2 j fun z => hj (hs j z), wipeL_eq, wipe_get, if_neg hj]
section
variable {K : PySem.W.Frag} {fx : List (Nat × V)} {σ : L2.St} {H H1 H2 : Hp} {ρ : Rho} {O F T : List Addr}
theorem R.nofx (r : R K fx σ H ρ O F) : R K [] σ H ρ O F := ⟨fun p hp => (nomatch hp), r.nd, r.rs, r.tr⟩
/-- slots forgotten -/
theorem R.wipe (r : R K [] σ H ρ O F) : ∀ own : List Nat, ∃ O', O'.Sublist O ∧ R K [] (L2.wipe σ own) H (Mi.wipe ρ own) O' F
  | [] => ⟨O, List.Sublist.refl _, r⟩
  | v :: vs => by
    obtain ⟨O1, s1, r1⟩ := R.wipe r vs
    show ∃ O', O'.Sublist O ∧ R K [] ((L2.wipe σ vs).set v none) H ((Mi.wipe ρ vs).set v none) O' F
    by_cases hv : v < (Mi.wipe ρ vs).length
    · obtain ⟨A, Oi, B, rfl, f, _, g⟩ := r1.chg hv
      have nd := r1.nd
      have s2 : (A ++ ([] ++ B)).Sublist (A ++ (Oi ++ B)) := (List.Sublist.refl A).append ((List.nil_sublist Oi).append (List.Sublist.refl B))
      exact ⟨_, s2.trans s1, g H none none [] F (fun _ _ e => e) (fun _ _ _ e => e) (fun _ _ e _ => e) ((s2.append (List.Sublist.refl F)).nodup nd) (fun b hb => .inr (.inl (by simpa using hb))) (fun b hb => r1.tr b hb) (fun p hp => (nomatch hp)) (fun a' e => (nomatch e)) (fun _ => rfl)⟩
    · have e1 : (Mi.wipe ρ vs).set v none = Mi.wipe ρ vs := List.set_eq_of_length_le (by omega)
      have e2 : (L2.wipe σ vs).set v none = L2.wipe σ vs := List.set_eq_of_length_le (by rw [RS.len r1.rs]; omega)
      rw [e1, e2]
      exact ⟨O1, s1, r1⟩
/-- a list that waits is written -/
theorem R.updF {D : Addr} {ls ls' : List V} (r : R K fx σ H ρ O F) (hD : D ∈ F) (h : H D = some (.lst ls)) : R K fx σ (upd H D (.lst ls')) ρ O F := by
  have nO : D ∉ O := fun z => not_mem_of_nodup r.nd z hD
  refine ⟨r.fx, r.nd, RS.stay r.rs (stay_upd h (.inl ⟨_, rfl⟩) (List.mem_append_right _ hD) nO fun _ _ nl => nl), fun b hb => ?_⟩
  by_cases e : b = D
  · rw [e, upd_same]; exact .inl ⟨_, rfl⟩
  · rw [upd_ne e]; exact r.tr b hb
theorem relL_app {α β : Type} {rel : Rel α β} {L : Addr → Prop} : ∀ {as : List α} {bs : List β} {T : List Addr} {a : α} {b : β} {T2 : List Addr}, relL rel L H as bs T → rel L H a b T2 → relL rel L H (as ++ [a]) (bs ++ [b]) (T ++ T2)
  | [], _, _, a, b, T2, h, k => by
    obtain ⟨rfl, rfl⟩ := h
    exact ⟨b, [], T2, [], rfl, by simp, k, rfl, rfl⟩
  | x :: as, _, _, a, b, T2, h, k => by
    obtain ⟨y, br, T1, T3, rfl, rfl, h1, h2⟩ := h
    exact ⟨y, br ++ [b], T1, T3 ++ T2, rfl, by simp, h1, relL_app h2 k⟩
theorem Src.stay {L L' : Addr → Prop} {vs : List V} {xs : List PV} (h : Src K L H vs xs) (s : Stay L L' H H1 []) : Src K L' H1 vs xs := by
  induction h with
  | nil => exact .nil
  | cons h1 _ ih => exact .cons (Own.stay h1 s) ih
/-- the slots of a block's own names, as they were -/
def OldOk (K : PySem.W.Frag) (own : List Nat) (σ : L2.St) (ρ0 : Rho) (L : Addr → Prop) (H : Hp) : Prop := ∀ v ∈ own, ∀ a, slot ρ0 v = some a → ∃ w, σ[v]? = some (some w) ∧ Own K L H a.2 a.1 w []
theorem OldOk.stay {own : List Nat} {ρ0 : Rho} {L L' : Addr → Prop} (h : OldOk K own σ ρ0 L H) (s : Stay L L' H H1 []) : OldOk K own σ ρ0 L' H1 := fun v hv a e => by
  obtain ⟨w, h1, h2⟩ := h v hv a e
  exact ⟨w, h1, Own.stay h2 s⟩
theorem foldl_get {α : Type} (f : Nat → α) : ∀ (vs : List Nat) (s : List α) (j : Nat), (vs.foldl (fun s v => s.set v (f v)) s)[j]? = if j ∈ vs ∧ j < s.length then some (f j) else s[j]?
  | [], s, j => by simp
  | v :: vs, s, j => by
    rw [List.foldl_cons, foldl_get f vs, List.length_set]
    by_cases h : j ∈ vs
    · simp only [h, List.mem_cons, or_true, true_and]
      split
      · rfl
      · rename_i hl
        rw [List.getElem?_eq_none (by rw [List.length_set]; omega), List.getElem?_eq_none (by omega)]
    · by_cases e : v = j
      · subst e
        simp only [h, false_and, if_false, List.mem_cons, true_or, true_and]
        split
        · rename_i hl; rw [List.getElem?_set_self hl]
        · rename_i hl
          rw [List.getElem?_eq_none (by rw [List.length_set]; omega), List.getElem?_eq_none (by omega)]
      · have : ¬ (j ∈ v :: vs) := by
          simp only [List.mem_cons, not_or]
          exact ⟨fun z => e z.symm, h⟩
        simp only [h, this, false_and, if_false]
        rw [List.getElem?_set_ne e]
theorem back_sigma (σ : L2.St) (own : List Nat) : own.foldl (fun s v => s.set v ((σ[v]?).getD none)) (L2.wipe σ own) = σ := by
  refine List.ext_getElem? fun j => ?_
  rw [foldl_get (fun v => (σ[v]?).getD none), wipeL_eq, wipe_get]
  have hl : (own.foldr (fun v s => s.set v none) σ).length = σ.length := by rw [← wipeL_eq]; exact L2.wipe_length σ own
  rw [hl]
  by_cases h : j ∈ own
  · by_cases hj : j < σ.length
    · rw [if_pos ⟨h, hj⟩]
      simp [hj]
    · rw [if_neg fun z => hj z.2, if_pos h, if_neg hj, List.getElem?_eq_none (by omega)]
  · rw [if_neg fun z => h z.1, if_neg h]
/-- the block's own names as they were -/
theorem R.unwipe {L' : Addr → Prop} (old : Rho) (f : Nat → Option V) : ∀ (vs : List Nat) {s : L2.St} {ρ : Rho} {O : List Addr}, (∀ v ∈ vs, ∀ a, (old[v]?).getD none = some a → ∃ w, f v = some w ∧ Own K L' H a.2 a.1 w []) → R K [] s H ρ O F → (∀ b ∈ O ++ F, L' b) →
    ∃ O', O'.Sublist O ∧ R K [] (vs.foldl (fun s v => s.set v (f v)) s) H (vs.foldl (fun s v => s.set v ((old[v]?).getD none)) ρ) O' F
  | [], s, ρ, O, _, r, _ => ⟨O, List.Sublist.refl _, r⟩
  | v :: vs, s, ρ, O, hf, r, hL => by
    rw [List.foldl_cons, List.foldl_cons]
    have step : ∃ O', O'.Sublist O ∧ R K [] (s.set v (f v)) H (ρ.set v ((old[v]?).getD none)) O' F := by
      by_cases hv : v < ρ.length
      · obtain ⟨A, Oi, B, rfl, _, _, g⟩ := r.chg hv
        have s2 : (A ++ ([] ++ B)).Sublist (A ++ (Oi ++ B)) := (List.Sublist.refl A).append ((List.nil_sublist Oi).append (List.Sublist.refl B))
        refine ⟨_, s2, g H (f v) ((old[v]?).getD none) [] F (fun _ _ e => e) (fun _ _ _ e => e) (fun _ _ e _ => e) ((s2.append (List.Sublist.refl F)).nodup r.nd) (fun b hb => .inr (.inl (by simpa using hb))) (fun b hb => r.tr b hb) (fun p hp => (nomatch hp)) (fun a' e => ?_) (fun _ => rfl)⟩
        obtain ⟨w, h1, h2⟩ := hf v List.mem_cons_self a' e
        exact ⟨w, h1, Own.stay h2 (Stay.refl fun b _ nl z => nl (hL b ((s2.append (List.Sublist.refl F)).subset z)))⟩
      · have e1 : ρ.set v ((old[v]?).getD none) = ρ := List.set_eq_of_length_le (by omega)
        have e2 : s.set v (f v) = s := List.set_eq_of_length_le (by rw [RS.len r.rs]; omega)
        rw [e1, e2]
        exact ⟨O, List.Sublist.refl _, r⟩
    obtain ⟨O1, s1, r1⟩ := step
    obtain ⟨O2, s2, r2⟩ := R.unwipe old f vs (fun v hv => hf v (List.mem_cons_of_mem _ hv)) r1 fun b hb => hL b ((s1.append (List.Sublist.refl F)).subset hb)
    exact ⟨O2, s2.trans s1, r2⟩
end
section
variable {K : PySem.W.Frag} {fx : List (Nat × V)} {XR : XRel} {W : WX} {G : Cfg}
def TIf (K : PySem.W.Frag) (fx : List (Nat × V)) (XR : XRel) (W : WX) (G : Cfg) (ifs : List ME) : TT := fun σ H Q => ∃ ρ O F, R K fx σ H ρ O F ∧ Tm K fx XR W relB (evIfs G ifs ρ) σ H O F Q
abbrev W0 : WX := fun _ _ _ _ => False
theorem Tm.unEx {α β : Type} {rel : Rel α β} {o : Out α} {σ : L2.St} {H : Hp} {O F : List Addr} {Q : β → Hp → Prop} (h : Tm K fx XR W rel (noEx o) σ H O F Q) : Tm K fx XR W rel o σ H O F Q := by
  cases o with
  | ok a ρ => exact h
  | ex c xs ρ => exact h.elim
  | stuck => exact h
end
theorem lower_none {ρ : Rho} {i j m : Nat} (h : slot ρ j = none) : slot (Mi.lower i m ρ) j = none := by
  unfold Mi.lower
  split
  · rename_i x d e
    split
    · rw [slot_set (slot_lt e)]
      by_cases q : i = j
      · rw [q, h] at e; cases e
      · rw [if_neg q]; exact h
    · exact h
  · exact h
theorem lowerO_none {m j : Nat} : ∀ {os : List Opd} {ρ : Rho}, slot ρ j = none → slot (lowerO m os ρ) j = none
  | [], _, h => h
  | .var i :: os, ρ, h => lowerO_none (os := os) (lower_none h)
  | .val a :: os, ρ, h => lowerO_none (os := os) h
section
variable {X : Cx} {fx : List (Nat × V)} {XR : XRel} {W : WX} {G : Cfg}
/-- the state within a block, at a turn: D the new list, acc what is in it -/
structure LcInv (K : PySem.W.Frag) (fx : List (Nat × V)) (XR : XRel) (W : WX) (own : List Nat) (σ : L2.St) (ρ0 : Rho) (H0 : Hp) (O0 F : List Addr) (D : Addr) (vs : List V) (xs : List PV) (Q : VK)
    (loop : List Arg → Rho → Out (List Arg)) (H : Hp) (ρ : Rho) (O : List Addr) (accA : List Arg) (accV : List V) (Ta : List Addr) : Prop where
  r : R K [] (L2.wipe σ own) H ρ O ((D :: Ta) ++ F)
  d : H D = some (.lst accV)
  acc : relL (relA K) (fun b => b ∈ O ++ ((D :: Ta) ++ F)) H accA accV Ta
  e : Ext O0 H0 H (O ++ (D :: Ta))
  src : Src K (fun b => b ∈ O ++ ((D :: Ta) ++ F)) H vs xs
  old : OldOk K own σ ρ0 (fun b => b ∈ O ++ ((D :: Ta) ++ F)) H
  t : Tm K fx XR W (relA K) ((noEx (loop accA ρ)).bind fun as ρ' => .ok (.lst (as.map (·.1)), freshD as) (unwipe own ρ0 ρ')) σ H0 O0 F Q
/-- the heap goes on while the block's values wait -/
theorem stay_go {K : PySem.W.Frag} {fx : List (Nat × V)} {σ : L2.St} {H H' : Hp} {ρ : Rho} {O O' Fr T : List Addr} (r : R K fx σ H ρ O Fr) (e : Ext O H H' (O' ++ T)) {A : List Addr} (hA : ∀ b ∈ A, b ∈ Fr) : Stay (fun b => b ∈ O ++ Fr) (fun b => b ∈ O' ++ (T ++ Fr)) H H' A := Stay.ext (ρ := ρ) r.nd e hA
theorem LcInv.nextF {K : PySem.W.Frag} {own : List Nat} {σ σ2 : L2.St} {ρ0 ρ ρ3 : Rho} {H0 H H4 : Hp} {O0 O O4 F : List Addr} {D : Addr} {vs : List V} {xs : List PV} {Q : VK} {loop loop' : List Arg → Rho → Out (List Arg)} {accA : List Arg} {accV : List V} {Ta : List Addr}
    (inv : LcInv K fx XR W own σ ρ0 H0 O0 F D vs xs Q loop H ρ O accA accV Ta) (hw : L2.wipe σ2 own = L2.wipe σ own) (r4 : R K [] σ2 H4 ρ3 O4 ([] ++ ((D :: Ta) ++ F))) (e4 : Ext O H H4 (O4 ++ []))
    (t : Tm K fx XR W (relA K) ((noEx (loop' accA (Mi.wipe ρ3 own))).bind fun as ρ' => .ok (.lst (as.map (·.1)), freshD as) (unwipe own ρ0 ρ')) σ H0 O0 F Q) : ∃ O5, LcInv K fx XR W own σ ρ0 H0 O0 F D vs xs Q loop' H4 (Mi.wipe ρ3 own) O5 accA accV Ta := by
  obtain ⟨O5, s5, r5⟩ := r4.wipe own
  rw [hw] at r5
  have nD : D ∉ O := fun z => not_mem_of_nodup inv.r.nd z (by simp)
  have sh : ∀ {A : List Addr}, (∀ b ∈ A, b ∈ (D :: Ta) ++ F) → Stay (fun b => b ∈ O ++ ((D :: Ta) ++ F)) (fun b => b ∈ O5 ++ ((D :: Ta) ++ F)) H H4 A := fun {A} hA => by
    have st := stay_go inv.r e4 hA
    exact ⟨st.ht, st.hf, st.k, fun b hb nl z => st.n b hb nl (by
      simp only [List.nil_append]
      exact (s5.append (List.Sublist.refl _)).subset z)⟩
  refine ⟨O5, r5, e4.keep D _ inv.d nD, (relL_ok relA_ok).stay _ _ _ _ _ _ _ inv.acc (sh fun b hb => by simp [hb]), (inv.e.trans2 e4).sub fun b hb => ?_, inv.src.stay (sh fun b hb => nomatch hb), inv.old.stay (sh fun b hb => nomatch hb), t⟩
  simp only [List.mem_append, List.append_nil] at hb ⊢
  exact hb.imp (fun z => s5.subset z) id
theorem LcInv.nextT {K : PySem.W.Frag} {own : List Nat} {σ σ2 : L2.St} {ρ0 ρ ρ3 : Rho} {H0 H H4 : Hp} {O0 O O4 T4 F : List Addr} {D : Addr} {vs : List V} {xs : List PV} {Q : VK} {loop loop' : List Arg → Rho → Out (List Arg)} {accA : List Arg} {accV : List V} {Ta : List Addr} {a : Arg} {y : V}
    (inv : LcInv K fx XR W own σ ρ0 H0 O0 F D vs xs Q loop H ρ O accA accV Ta) (hw : L2.wipe σ2 own = L2.wipe σ own) (r4 : R K [] σ2 H4 ρ3 O4 (T4 ++ ((D :: Ta) ++ F))) (e4 : Ext O H H4 (O4 ++ T4)) (hy : Own K (fun b => b ∈ O4 ++ (T4 ++ ((D :: Ta) ++ F))) H4 a.2 a.1 y T4)
    (t : Tm K fx XR W (relA K) ((noEx (loop' (accA ++ [a]) (Mi.wipe ρ3 own))).bind fun as ρ' => .ok (.lst (as.map (·.1)), freshD as) (unwipe own ρ0 ρ')) σ H0 O0 F Q) :
    H4 D = some (.lst accV) ∧ ∃ O5, LcInv K fx XR W own σ ρ0 H0 O0 F D vs xs Q loop' (upd H4 D (.lst (accV ++ [y]))) (Mi.wipe ρ3 own) O5 (accA ++ [a]) (accV ++ [y]) (Ta ++ T4) := by
  obtain ⟨O5, s5, r5⟩ := r4.wipe own
  rw [hw] at r5
  have nD : D ∉ O := fun z => not_mem_of_nodup inv.r.nd z (by simp)
  have hD := e4.keep D _ inv.d nD
  have pm : (T4 ++ ((D :: Ta) ++ F)).Perm ((D :: (Ta ++ T4)) ++ F) := by
    rw [List.perm_iff_count]; intro q; simp only [List.count_append, List.count_cons]; omega
  have r6 := (r5.perm pm).updF (ls' := accV ++ [y]) (by simp) hD
  have mem5 : ∀ b, b ∈ O5 ++ ((D :: (Ta ++ T4)) ++ F) → b ∈ O4 ++ (T4 ++ ((D :: Ta) ++ F)) := fun b hb => by
    rcases List.mem_append.mp hb with z | z
    · exact List.mem_append_left _ (s5.subset z)
    · exact List.mem_append_right _ (pm.mem_iff.mpr z)
  have nd4 := r4.nd
  have nDT : D ∉ T4 := fun z => by
    have := (List.nodup_append.mp (List.nodup_append.mp nd4).2.1).2.2 D z D (by simp)
    exact this rfl
  have ndi := inv.r.nd
  have nDA : D ∉ Ta := by
    have := (List.nodup_append.mp (List.nodup_append.mp ndi).2.1).1
    exact (List.nodup_cons.mp this).1
  -- through the evaluation, then the writing
  have sh : ∀ {A : List Addr}, (∀ b ∈ A, b ∈ (D :: Ta) ++ F) → D ∉ A → Stay (fun b => b ∈ O ++ ((D :: Ta) ++ F)) (fun b => b ∈ O5 ++ ((D :: (Ta ++ T4)) ++ F)) H (upd H4 D (.lst (accV ++ [y]))) A := fun {A} hA nA => by
    have st := stay_go inv.r e4 hA
    have s2 : Stay (fun b => b ∈ O4 ++ (T4 ++ ((D :: Ta) ++ F))) (fun b => b ∈ O5 ++ ((D :: (Ta ++ T4)) ++ F)) H4 (upd H4 D (.lst (accV ++ [y]))) A := stay_upd hD (.inl ⟨_, rfl⟩) (by simp) nA fun b _ nl z => nl (mem5 b z)
    refine ⟨fun b u q => s2.ht b u (st.ht b u q), fun b o u q => s2.hf b o u (st.hf b o u q), fun b o q hb => ?_, fun b hb nl z => st.n b hb nl (mem5 b z)⟩
    have q4 := st.k b o q hb
    have hne : b ≠ D := fun z => by
      rcases hb with hb | hb
      · exact nA (z ▸ hb)
      · exact hb (by rw [z]; simp)
    rw [upd_ne hne]; exact q4
  refine ⟨hD, O5, r6, upd_same, relL_app ((relL_ok relA_ok).stay _ _ _ _ _ _ _ inv.acc (sh (fun b hb => by simp [hb]) nDA)) ?_, ⟨fun b o q nb => ?_, fun b hb => ?_, fun b hb => ?_, fun b u q => ?_, fun b o u q => ?_⟩, inv.src.stay (sh (fun b hb => nomatch hb) (by simp)), inv.old.stay (sh (fun b hb => nomatch hb) (by simp)), t⟩
  · exact Own.stay hy (stay_upd hD (.inl ⟨_, rfl⟩) (by simp) nDT fun b _ nl z => nl (mem5 b z))
  all_goals have e5 := inv.e.trans2 e4
  · have hne : b ≠ D := fun z => by
      rcases inv.e.new D (by simp) with w | w
      · exact nb (z ▸ w)
      · rw [z, w] at q; cases q
    rw [upd_ne hne]; exact e5.keep b o q nb
  · refine e5.new b ?_
    simp only [List.mem_append, List.mem_cons] at hb ⊢
    rcases hb with z | z | z | z
    · exact .inl (s5.subset z)
    · exact .inr (.inl (.inl z))
    · exact .inr (.inl (.inr z))
    · exact .inr (.inr z)
  · by_cases z : b = D
    · rw [z, upd_same]; simp
    · rw [upd_ne z]; exact e5.dom b hb
  · have q5 := e5.tups b u q
    have hne : b ≠ D := fun z => by rw [z, hD] at q5; cases q5
    rw [upd_ne hne]; exact q5
  · have q5 := e5.frzs b o u q
    have hne : b ≠ D := fun z => by rw [z, hD] at q5; cases q5
    rw [upd_ne hne]; exact q5
theorem lc_red {own : List Nat} {p : Pat} {k : Ik} {ms ifs : List ME} {elt : ME} (hsub : ∀ j ∈ pnames p, j ∈ own) (hpk : pairK k = true → isTupP p = true) {σ : L2.St} {H : Hp} {Q : VK} (h : TM X.K fx XR W G (.lc own p k ms ifs elt) σ H Q) :
    tLc (TIM X fx XR W G k ms) (TGP X.K p) (TIf X.K [] XR W0 G ifs) (TM X.K [] XR W0 G elt) own σ H Q := by
  obtain ⟨ρ, O, F, r, t⟩ := h
  have t' : Tm X.K fx XR W (relA X.K) (noEx ((evo G ms ρ).bind fun os ρ => Mi.orStuck (valsO ρ os) fun xs => Mi.orStuck (Mi.iter k xs) fun items =>
      (lcLoop (fun x ρ => bindP p (x, 0) ρ) (evIfs G ifs) (evX G false elt) own items [] (Mi.wipe (lowerO 0 (own.map Opd.var) (lowerO 0 os ρ)) own)).bind fun as ρ' => .ok (.lst (as.map (·.1)), freshD as) (unwipe own (lowerO 0 (own.map Opd.var) (lowerO 0 os ρ)) ρ'))) σ H O F Q := t
  rw [noEx_bind] at t'
  refine ⟨ρ, O, F, r, Tm.unEx (Tm.mono (Tm.seq0 (rel := relL (relO X.K σ)) t') fun vs H1 ⟨os, ρ1, O1, T, e1, r1, q1, x1, t1⟩ => ?_)⟩
  rw [noEx_stuck] at t1
  obtain ⟨xs, e2, t1⟩ := Tm.orStuck t1
  rw [noEx_stuck] at t1
  obtain ⟨items, e3, t1⟩ := Tm.orStuck t1
  rw [noEx_bind] at t1
  obtain ⟨O2, s2, r2, low⟩ := R.settle 0 r1 q1 e2
  obtain ⟨O3, s3, r3⟩ := R.lowerO 0 (own.map Opd.var) r2
  generalize hρ0 : lowerO 0 (own.map Opd.var) (lowerO 0 os ρ1) = ρ0 at t1 r3
  have less : ∀ b, ¬ (b ∈ O2 ++ F) → ¬ (b ∈ O3 ++ F) := fun b nl z => nl ((s3.append (List.Sublist.refl F)).subset z)
  have src : Src X.K (fun b => b ∈ O3 ++ F) H1 vs xs := Src.stay (Paired.mapP low fun v x h => h.zero) (Stay.refl fun b _ nl => less b nl)
  have old0 : OldOk X.K own σ ρ0 (fun b => b ∈ O3 ++ F) H1 := fun v hv a ea => by
    obtain ⟨A, Oi, B, eO, f, _, _⟩ := r3.chg (slot_lt ea)
    obtain ⟨w, hw, hO⟩ := f a (slot_at ea)
    refine ⟨w, hw, ?_⟩
    by_cases hl : isL a.1 = true
    · -- lowered
      have hd : a.2 ≤ 0 := by
        cases hin : slot (lowerO 0 os ρ1) v with
        | none =>
          have z := lowerO_none (m := 0) (os := own.map Opd.var) hin
          rw [hρ0, ea] at z; cases z
        | some b =>
          obtain ⟨x, d⟩ := b
          obtain ⟨d', k1, k2, k3⟩ := slot_lowerO (m := 0) (os := own.map Opd.var) hin
          rw [hρ0, ea] at k1
          cases k1
          exact k3 (List.mem_map_of_mem hv) hl
      have hd0 : a.2 = 0 := Nat.le_zero.mp hd
      rw [hd0] at hO ⊢
      have z := Own.zero hO
      subst z; exact hO
    · have z := (Own.scalar (by simpa using hl) hO)
      exact z.2 _
  refine ⟨_, xs, items, src, e3, fun J wm D hD => ?_⟩
  have wk : Walk J items.length (fun H => ∃ L, Src X.K L H vs xs) (fun i H x H' => ∀ L, Src X.K L H vs xs → ∀ Z, items[i]? = some Z →
      (H' = H ∧ Own X.K L H 0 Z x []) ∨ pairK k = true ∧ ∃ p vs' zs, x = .ref p ∧ Z = .tup zs ∧ H p = none ∧ H' = upd H p (.tup vs') ∧ Owns X.K L H 0 zs vs' []) :=
    ⟨fun i H hi ⟨L, s⟩ => (wm L H s).1 i hi, fun H ⟨L, s⟩ => (wm L H s).2.1, fun i H x H' hi _ y L s Z e => (wm L H s).2.2 i x H' y Z e⟩
  obtain ⟨O4, s4, r4⟩ := r3.nofx.wipe own
  have r5 := r4.newL (o := .lst []) hD (.inl ⟨_, rfl⟩)
  have more : ∀ b, b ∈ O4 ++ ([D] ++ F) → b ∈ O3 ++ F ∨ b = D := fun b hb => by
    simp only [List.mem_append, List.mem_singleton] at hb ⊢
    rcases hb with z | z | z
    · exact .inl (.inl (s4.subset z))
    · exact .inr z
    · exact .inl (.inr z)
  refine lc_it wk (fun i Hc => ∃ ρi Oi accA accV Ta, LcInv X.K fx XR W own σ ρ0 H O F D vs xs Q (lcLoop (fun x ρ => bindP p (x, 0) ρ) (evIfs G ifs) (evX G false elt) own (items.drop i)) Hc ρi Oi accA accV Ta)
    ⟨Mi.wipe ρ0 own, O4, [], [], [], ⟨r5, upd_same, ⟨rfl, rfl⟩, x1.plus hD fun b hb => ?_, src.stay (stay_new hD more), old0.stay (stay_new hD more), ?_⟩⟩ (fun i Hc _ ⟨_, _, _, _, _, inv⟩ => ⟨_, inv.src⟩) (fun i x Hc H' hi ⟨ρi, Oi, accA, accV, Ta, inv⟩ hy => ?_) (fun Hc ⟨ρi, Oi, accA, accV, Ta, inv⟩ => ?_)
  · simp only [List.mem_append, List.mem_singleton] at hb ⊢
    exact hb.imp (fun z => .inl (s2.subset (s3.subset (s4.subset z)))) id
  · rw [List.drop_zero]; exact t1
  · -- a turn
    have hitem : items[i]? = some (items[i]'hi) := by simp [hi]
    have hdrop : items.drop i = items[i]'hi :: items.drop (i + 1) := List.drop_eq_getElem_cons hi
    generalize items[i]'hi = Z at hitem hdrop
    have t2 := inv.t
    rw [hdrop] at t2
    have t3 : Tm X.K fx XR W (relA X.K) ((noEx (Mi.orStuck (bindP p (Z, 0) ρi) fun ρ1 => (evIfs G ifs ρ1).bind fun b ρ2 => if b then (evX G false elt ρ2).bind fun a ρ3 => if accA.length < sizeLine then lcLoop (fun x ρ => bindP p (x, 0) ρ) (evIfs G ifs) (evX G false elt) own (items.drop (i + 1)) (accA ++ [a]) (Mi.wipe ρ3 own) else .stuck
        else lcLoop (fun x ρ => bindP p (x, 0) ρ) (evIfs G ifs) (evX G false elt) own (items.drop (i + 1)) accA (Mi.wipe ρ2 own))).bind fun as ρ' => .ok (.lst (as.map (·.1)), freshD as) (unwipe own ρ0 ρ')) σ H O F Q := t2
    rw [noEx_stuck, stuck_bind] at t3
    obtain ⟨ρ1', hb, t4⟩ := Tm.orStuck t3
    rw [noEx_bind, bind_assoc] at t4
    -- what came
    have came : ∃ eY : Ext Oi Hc H' (Oi ++ []), R X.K [] (L2.wipe σ own) H' ρi Oi ([] ++ ((D :: Ta) ++ F)) ∧ OwnP X.K (fun b => b ∈ Oi ++ ([] ++ ((D :: Ta) ++ F))) H' p 0 Z x [] := by
      rcases hy _ inv.src Z hitem with ⟨rfl, h⟩ | ⟨hp2, q, vs', zs, rfl, rfl, hq, rfl, h⟩
      · exact ⟨Ext.refl fun b hb => by simpa using hb, by simpa using inv.r, .inl (by simpa using h)⟩
      · exact ⟨ext_new hq fun b hb => .inl (by simpa using hb), by simpa using inv.r.newT hq, .inr ⟨hpk hp2, rfl, q, vs', zs, rfl, rfl, SqT.of upd_same, h.stay (stay_new hq fun b hb => .inl (by simpa using hb))⟩⟩
    obtain ⟨eY, rY, oY⟩ := came
    refine ⟨[], ρi, Oi, (D :: Ta) ++ F, Z, 0, [], ρ1', rY, oY, (fun q hq => nomatch hq), hb, fun σ2 H2 O2' r2' x2 s2' => ⟨wipe_same s2' hsub, ρ1', O2', (D :: Ta) ++ F, r2', ?_⟩⟩
    have x2' : Ext Oi H' H2 (O2' ++ []) := by simpa using x2
    cases h1 : evIfs G ifs ρ1' with
    | ex c xs' ρ' => rw [h1] at t4; exact t4.elim
    | stuck => rw [h1] at t4; exact t4.elim
    | ok b ρ2 =>
      rw [h1] at t4
      have t5 : Tm X.K fx XR W (relA X.K) ((noEx (if b then (evX G false elt ρ2).bind fun a ρ3 => if accA.length < sizeLine then lcLoop (fun x ρ => bindP p (x, 0) ρ) (evIfs G ifs) (evX G false elt) own (items.drop (i + 1)) (accA ++ [a]) (Mi.wipe ρ3 own) else .stuck
        else lcLoop (fun x ρ => bindP p (x, 0) ρ) (evIfs G ifs) (evX G false elt) own (items.drop (i + 1)) accA (Mi.wipe ρ2 own))).bind fun as ρ' => .ok (.lst (as.map (·.1)), freshD as) (unwipe own ρ0 ρ')) σ H O F Q := t4
      intro b' H3 O3' T3 r3' hbt x3
      obtain ⟨rfl, rfl⟩ := hbt
      have e3' : Ext Oi Hc H3 (O3' ++ []) := eY.trans (x2'.trans x3)
      cases b' with
      | false =>
        rw [if_neg (by decide)] at t5 ⊢
        obtain ⟨O5, inv'⟩ := inv.nextF (wipe_same s2' hsub) r3' e3' t5
        exact ⟨_, O5, accA, accV, Ta, inv'⟩
      | true =>
        rw [if_pos rfl] at t5 ⊢
        rw [noEx_bind, bind_assoc] at t5
        refine ⟨ρ2, O3', (D :: Ta) ++ F, by simpa using r3', ?_⟩
        show Tm X.K [] XR W0 (relA X.K) (evX G false elt ρ2) σ2 H3 O3' ((D :: Ta) ++ F) _
        cases h2 : evX G false elt ρ2 with
        | ex c xs' ρ' => rw [h2] at t5; exact t5.elim
        | stuck => rw [h2] at t5; exact t5.elim
        | ok a ρ3 =>
          rw [h2] at t5
          have t6 : Tm X.K fx XR W (relA X.K) ((noEx (if accA.length < sizeLine then lcLoop (fun x ρ => bindP p (x, 0) ρ) (evIfs G ifs) (evX G false elt) own (items.drop (i + 1)) (accA ++ [a]) (Mi.wipe ρ3 own) else .stuck)).bind fun as ρ' => .ok (.lst (as.map (·.1)), freshD as) (unwipe own ρ0 ρ')) σ H O F Q := t5
          intro y H4 O4' T4 r4' oy x4
          split at t6
          · rename_i hlen
            obtain ⟨hD4, O5, inv'⟩ := inv.nextT (wipe_same s2' hsub) r4' (e3'.trans x4) oy t6
            exact ⟨accV, hD4, by rw [relL_len inv.acc]; exact hlen, _, O5, _, _, _, inv'⟩
          · exact t6.elim
  · -- the end
    have t2 := inv.t
    rw [List.drop_length] at t2
    have t3 : Tm X.K fx XR W (relA X.K) (.ok (.lst (accA.map (·.1)), freshD accA) (unwipe own ρ0 ρi)) σ H O F Q := t2
    have nd := inv.r.nd
    obtain ⟨Ta', sa, w⟩ := owns_of (m := (minD accA).getD 0) inv.acc (by
      have := (List.nodup_append.mp (List.nodup_append.mp nd).2.1).1
      exact (List.nodup_cons.mp this).2) fun a ha hl => minD_le ha hl
    have hold : ∀ v ∈ own, ∀ a, (ρ0[v]?).getD none = some a → ∃ w, (σ[v]?).getD none = some w ∧ Own X.K (fun b => b ∈ Oi ++ ((D :: Ta) ++ F)) Hc a.2 a.1 w [] := fun v hv a e => by
      have hs : slot ρ0 v = some a := by
        unfold slot
        cases q : ρ0[v]? with
        | none => rw [q] at e; cases e
        | some o => rw [q] at e; exact e
      obtain ⟨w, h1, h2⟩ := inv.old v hv a hs
      exact ⟨w, by rw [h1]; rfl, h2⟩
    obtain ⟨O5, s5, r6⟩ := R.unwipe (L' := fun b => b ∈ Oi ++ ((D :: Ta) ++ F)) ρ0 (fun v => (σ[v]?).getD none) own hold inv.r fun b hb => hb
    · rw [back_sigma] at r6
      have r7 : R X.K fx σ Hc (unwipe own ρ0 ρi) O5 ((D :: Ta) ++ F) := ⟨r.fx, r6.nd, r6.rs, r6.tr⟩
      have sd : (D :: Ta').Sublist (D :: Ta) := sa.cons_cons D
      have r8 := r7.part sd
      refine t3 (.ref D) Hc O5 (D :: Ta') r8 ?_ (inv.e.sub fun b hb => ((s5.append sd).subset hb))
      show Own X.K _ _ (1 + (minD accA).getD 0) _ _ _
      rw [Nat.add_comm]
      refine ⟨D, accV, Ta', rfl, rfl, inv.d, w _ (fun b _ nl z => nl ((s5.append (sd.append (List.Sublist.refl F))).subset z)) fun b hb nb z => ?_⟩
      have hbD : b ≠ D := fun z => by
        have := (List.nodup_append.mp (List.nodup_append.mp nd).2.1).1
        exact (List.nodup_cons.mp this).1 (z ▸ hb)
      have nd7 := r7.nd
      exact part_gone (T := D :: Ta) nd7 (List.mem_cons_of_mem _ hb) (fun z => (List.mem_cons.mp z).elim hbD nb) z

theorem pm_lc (hc : X.calm = true) (hN : X.N.Nodup) {own : List Nat} {ownN : List (Str × Nat)} (ho : ownN.map (·.2) = own) {p : Pat} {k : Ik} {ms ifs : List ME} {elt : ME} {tg iter eltE : Expr} {ifsE : List Expr} {scope : Scope} {pos : Pos}
    (hit : PI X tg iter (TIM X fx XR W G k ms)) (hfs : ∀ x, foldedSetIterable iter X.env x = pure x) (hblk : BlkOk X.N X.env.scope scope ownN)
    (hg : ∀ (s : Shared) (H : Hp) (C : Addr) (cl : List (Str × Addr)) (fp : List Addr), PG (X.blk s H scope (compEnvC scope cl C X.env) fp) tg (TGP X.K p))
    (ht : ∀ (s : Shared) (H : Hp) (C : Addr) (cl : List (Str × Addr)) (fp : List Addr), PTs (X.blk s H scope (compEnvC scope cl C X.env) fp) ifsE (TIf X.K [] XR W0 G ifs))
    (he : ∀ (s : Shared) (H : Hp) (C : Addr) (cl : List (Str × Addr)) (fp : List Addr), PE (X.blk s H scope (compEnvC scope cl C X.env) fp) eltE (TM X.K [] XR W0 G elt))
    (hsub : ∀ j ∈ pnames p, j ∈ own) (hpk : pairK k = true → isTupP p = true) : PM X fx XR W G (.lc own p k ms ifs elt) (.ListComp eltE [⟨tg, iter, ifsE, 0⟩] scope pos) := by
  have pl := pe_lc (pos := pos) hc hN hit hblk hg ht he hfs
  rw [ho] at pl
  have hv : PE X (.ListComp eltE [⟨tg, iter, ifsE, 0⟩] scope pos) (TM X.K fx XR W G (.lc own p k ms ifs elt)) := peImp pl fun σ H Q t => lc_red hsub hpk t
  exact pm_of hv (fun _ => rfl) (pt_val' hv (fun _ => rfl) fun _ => rfl)
end
end Mi
end
section
set_option Elab.async false
set_option linter.all false
set_option maxRecDepth 100000
set_option maxHeartbeats 2000000
/-! S20b: dict displays. -/
namespace Mi
open PySem PySem.Spec PyProof.Rows L2
section
variable {K : PySem.W.Frag} {fx : List (Nat × V)} {σ : L2.St} {H H1 H2 : Hp} {ρ : Rho} {O F T : List Addr}
/-- an owned thing that waits is written -/
theorem R.updG {D : Addr} {o o' : HO} (r : R K fx σ H ρ O F) (hD : D ∈ F) (h : H D = some o) (ho : IsLD (some o)) (ho' : IsLD (some o')) : R K fx σ (upd H D o') ρ O F := by
  have nO : D ∉ O := fun z => not_mem_of_nodup r.nd z hD
  refine ⟨r.fx, r.nd, RS.stay r.rs (stay_upd h ho (List.mem_append_right _ hD) nO fun _ _ nl => nl), fun b hb => ?_⟩
  by_cases e : b = D
  · rw [e, upd_same]; exact ho'
  · rw [upd_ne e]; exact r.tr b hb
def relD (K : PySem.W.Frag) : Rel (Key × Arg) (V × V) := fun L H p q T => q.1 = kV p.1 ∧ Own K L H p.2.2 p.2.1 q.2 T
theorem relD_ok : RelOk (relD K) := ⟨fun _ _ _ _ _ _ _ h s => ⟨h.1, Own.stay h.2 s⟩⟩
theorem relD_A {L : Addr → Prop} : ∀ {as : List (Key × Arg)} {bs : List (V × V)} {T : List Addr}, relL (relD K) L H as bs T → relL (relA K) L H (as.map (·.2)) (bs.map (·.2)) T ∧ bs = (as.zip bs).map fun x => (kV x.1.1, x.2.2)
  | [], _, _, h => by
    obtain ⟨rfl, rfl⟩ := h
    exact ⟨⟨rfl, rfl⟩, rfl⟩
  | a :: as, _, _, h => by
    obtain ⟨b, br, T1, T2, rfl, rfl, h1, h2⟩ := h
    obtain ⟨k1, k2⟩ := relD_A h2
    refine ⟨⟨b.2, _, T1, T2, rfl, rfl, h1.2, k1⟩, ?_⟩
    rw [List.zip_cons_cons, List.map_cons, ← k2, ← h1.1]
/-- the new dict's entries -/
def kvsOf : List (Key × Arg) → List V → List (Key × V)
  | p :: ps, v :: vs => (p.1, v) :: kvsOf ps vs
  | _, _ => []
theorem ownd_of {L : Addr → Prop} {d : Nat} : ∀ {ps : List (Key × Arg)} {vs : List V} {T : List Addr}, Owns K L H d ((ps.map (·.2)).map (·.1)) vs T → Ownd K L H d (ps.map fun p => (p.1, p.2.1)) (kvsOf ps vs) T
  | [], _, _, h => by obtain ⟨rfl, rfl⟩ := h; exact ⟨rfl, rfl⟩
  | p :: ps, _, _, h => by
    obtain ⟨v, vr, O1, O2, rfl, rfl, h1, h2⟩ := h
    exact ⟨v, _, O1, O2, rfl, rfl, h1, ownd_of h2⟩
theorem kvs_keys : ∀ {ps : List (Key × Arg)} {vs : List V}, vs.length = ps.length → (kvsOf ps vs).map (·.1) = ps.map (·.1)
  | [], [], _ => rfl
  | p :: ps, v :: vs, h => by
    unfold kvsOf
    rw [List.map_cons, List.map_cons, kvs_keys (by simpa using h)]
  | p :: ps, [], h => by simp at h
  | [], v :: vs, h => by simp at h
theorem put_new {kvs : List (Key × V)} {k : Key} {v : V} (h : k ∉ kvs.map (·.1)) : putK kvs k v = kvs ++ [(k, v)] := by
  unfold putK
  rw [if_neg]
  intro z
  obtain ⟨x, hx, e⟩ := List.any_eq_true.mp z
  exact h (by rw [← of_decide_eq_true e]; exact List.mem_map_of_mem hx)
theorem merge_new : ∀ (more kvs : List (Key × V)), ((kvs ++ more).map (·.1)).Nodup → mergeK kvs more = kvs ++ more
  | [], kvs, _ => by simp [mergeK]
  | p :: r, kvs, h => by
    show mergeK (putK kvs p.1 p.2) r = _
    have hk : p.1 ∉ kvs.map (·.1) := fun z => by
      rw [List.map_append, List.map_cons] at h
      exact (List.nodup_append.mp h).2.2 p.1 z p.1 List.mem_cons_self rfl
    rw [put_new hk, merge_new r (kvs ++ [p]) (by simpa using h)]
    simp
variable {XR : XRel} {W : WX} {G : Cfg}
/-- the pairs -/
def TD (K : PySem.W.Frag) (fx : List (Nat × V)) (XR : XRel) (W : WX) (G : Cfg) (ms : List ME) (ks : List SE) : L2.St → Hp → (List (V × V) → Hp → Prop) → Prop := fun σ H Q => ∃ ρ O F, R K fx σ H ρ O F ∧ Tm K fx XR W (relL (relD K)) (evD G ms ks ρ) σ H O F Q
theorem td_cons {m : ME} {ms : List ME} {k : SE} {ks : List SE} {Q : List (V × V) → Hp → Prop} (t : TD K fx XR W G (m :: ms) (k :: ks) σ H Q) : TS K fx k σ H (fun x H1 => TM K fx XR W G m σ H1 fun y H2 => TD K fx XR W G ms ks σ H2 fun ps H3 => Q ((x, y) :: ps) H3) := by
  obtain ⟨ρ, O, F, r, t⟩ := t
  have t1 : Tm K fx XR W (relL (relD K)) (Mi.orStuck ((evS k ρ).bind keyOf) fun q => (evX G false m ρ).bind fun a ρ => (evD G ms ks ρ).bind fun r ρ => .ok ((q, a) :: r) ρ) σ H O F Q := t
  obtain ⟨q, e1, t2⟩ := Tm.orStuck t1
  obtain ⟨x, e2, e3⟩ := Option.bind_eq_some_iff.mp e1
  refine ⟨ρ, O, F, x, r, e2, fun v hv => ⟨ρ, O, F, r, ?_⟩⟩
  have ev := keyOf_kV hv e3
  subst ev
  have t3 : Tm K fx XR W (relL (relD K)) (((evX G false m ρ).bind fun a ρ => .ok (q, a) ρ).bind fun pa ρ => (evD G ms ks ρ).bind fun r ρ => .ok (pa :: r) ρ) σ H O F Q := by
    rw [bind_assoc]; exact t2
  have t4 := Tm.cons relD_ok t3
  refine Tm.mono (Tm.seq0 (rel := relA K) t4) fun y H1 ⟨a, ρ1, O1, T, e4, r1, q1, x1, t5⟩ => t5 (kV q, y) H1 O1 T r1 ⟨rfl, q1⟩ x1
theorem td_nil {Q : List (V × V) → Hp → Prop} (t : TD K fx XR W G [] [] σ H Q) : Q [] H := by
  obtain ⟨ρ, O, F, r, t⟩ := t
  exact t [] H O [] r ⟨rfl, rfl⟩ (Ext.refl fun b hb => by simpa using hb)
theorem relD_kvs {L : Addr → Prop} : ∀ {as : List (Key × Arg)} {bs : List (V × V)} {T : List Addr}, relL (relD K) L H as bs T → bs = (kvsOf as (bs.map (·.2))).map fun kv => (kV kv.1, kv.2)
  | [], _, _, h => by
    obtain ⟨rfl, rfl⟩ := h
    rfl
  | a :: as, _, _, h => by
    obtain ⟨b, br, T1, T2, rfl, rfl, h1, h2⟩ := h
    rw [List.map_cons]
    unfold kvsOf
    rw [List.map_cons, ← relD_kvs h2, ← h1.1]
/-- the end of a display: D stood empty meanwhile -/
theorem fin_dct {D : Addr} {ρ1 : Rho} {O1 : List Addr} {as : List (Key × Arg)} {bs : List (V × V)} {Q : VK} (hD : H D = none) (r : R K fx σ H2 ρ1 O1 (T ++ ([D] ++ F))) (hv : relL (relD K) (fun x => x ∈ O1 ++ (T ++ ([D] ++ F))) H2 as bs T) (e : Ext O (upd H D (.dK [])) H2 (O1 ++ T)) (nD : D ∉ O)
    (t : Tm K fx XR W (relA K) (if (as.map (·.1)).Nodup ∧ as.length ≤ 15 then .ok (.dct (as.map fun p => (p.1, p.2.1)), freshD (as.map (·.2))) ρ1 else .stuck) σ H O F Q) :
    H2 D = some (.dK []) ∧ ∃ kvs : List (Key × V), bs = kvs.map (fun kv => (kV kv.1, kv.2)) ∧ kvs.length ≤ 15 ∧ Q (.ref D) (upd H2 D (.dK (mergeK [] kvs))) := by
  split at t
  · rename_i hn
    obtain ⟨hA, hz⟩ := relD_A hv
    have hlen : bs.length = as.length := relL_len hv
    have hD2 := e.keep D _ upd_same nD
    have hkv := relD_kvs hv
    have hl2 : (bs.map (·.2)).length = as.length := by rw [List.length_map]; exact hlen
    have keys := kvs_keys hl2
    have hmerge : mergeK [] (kvsOf as (bs.map (·.2))) = kvsOf as (bs.map (·.2)) := by
      have := merge_new (kvsOf as (bs.map (·.2))) [] (by rw [List.nil_append, keys]; exact hn.1)
      simpa using this
    have hlk : (kvsOf as (bs.map (·.2))).length ≤ 15 := by
      have := congrArg List.length keys
      simp only [List.length_map] at this
      omega
    refine ⟨hD2, kvsOf as (bs.map (·.2)), hkv, hlk, ?_⟩
    rw [hmerge]
    have nd := r.nd
    have n1 := List.nodup_append.mp nd
    have n2 := List.nodup_append.mp n1.2.1
    obtain ⟨T', sT, w⟩ := owns_of (m := (minD (as.map (·.2))).getD 0) hA n2.1 fun a ha hl => minD_le ha hl
    have sub : ∀ b, b ∈ O1 ++ ((D :: T') ++ F) → b ∈ O1 ++ (T ++ ([D] ++ F)) := fun b hb => by
      simp only [List.mem_append, List.mem_cons, List.not_mem_nil, or_false] at hb ⊢
      rcases hb with z | (z | z) | z
      · exact .inl z
      · exact .inr (.inr (.inl z))
      · exact .inr (.inl (sT.subset z))
      · exact .inr (.inr (.inr z))
    have nDT : D ∉ T' := fun z => n2.2.2 D (sT.subset z) D (by simp) rfl
    have w' := w (fun b => b ∈ O1 ++ ((D :: T') ++ F)) (fun b _ nl z => nl (sub b z)) fun b hb nb z => by
      simp only [List.mem_append, List.mem_cons] at z
      rcases z with z | (z | z) | z
      · exact n1.2.2 b z b (List.mem_append_left _ hb) rfl
      · exact n2.2.2 b hb D (by simp) z
      · exact nb z
      · exact n2.2.2 b hb b (by simp [z]) rfl
    have r1 := r.part sT
    have pm : (T' ++ ([D] ++ F)).Perm ((D :: T') ++ F) := by
      rw [List.perm_iff_count]; intro q; simp only [List.count_append, List.count_cons, List.count_nil]; omega
    have r2 := (r1.perm pm).updG (D := D) (o' := .dK (kvsOf as (bs.map (·.2)))) (by simp) hD2 (.inr ⟨_, rfl⟩) (.inr ⟨_, rfl⟩)
    refine t (.ref D) _ O1 (D :: T') r2 ?_ ⟨fun b o q nb => ?_, fun b hb => ?_, fun b hb => ?_, fun b u q => ?_, fun b o u q => ?_⟩
    · show Own K _ _ (1 + (minD (as.map (·.2))).getD 0) _ _ _
      rw [Nat.add_comm]
      exact ⟨D, _, T', rfl, rfl, upd_same, Ownd.stay (ownd_of w') (stay_upd hD2 (.inr ⟨_, rfl⟩) (by simp) nDT fun _ _ nl => nl)⟩
    · have hne : b ≠ D := ne_of_none q hD
      rw [upd_ne hne]
      exact e.keep b o (by rw [upd_ne hne]; exact q) nb
    · have hb' : b ∈ O1 ++ T ∨ b = D := by
        simp only [List.mem_append, List.mem_cons] at hb ⊢
        rcases hb with z | z | z
        · exact .inl (.inl z)
        · exact .inr z
        · exact .inl (.inr (sT.subset z))
      rcases hb' with z | z
      · rcases e.new b z with q | q
        · exact .inl q
        · right
          by_cases hb2 : b = D
          · rw [hb2]; exact hD
          · rw [upd_ne hb2] at q; exact q
      · right; rw [z]; exact hD
    · by_cases z : b = D
      · rw [z, upd_same]; simp
      · rw [upd_ne z]; exact e.dom b (by rw [upd_ne z]; exact hb)
    · have hne : b ≠ D := ne_of_none q hD
      rw [upd_ne hne]
      exact e.tups b u (by rw [upd_ne hne]; exact q)
    · have hne : b ≠ D := ne_of_none q hD
      rw [upd_ne hne]
      exact e.frzs b o u (by rw [upd_ne hne]; exact q)
  · exact t.elim
end
end Mi
namespace Mi
open PySem PySem.Spec PyProof.Rows L2
section
variable {X : Cx} {fx : List (Nat × V)} {XR : XRel} {W : WX} {G : Cfg} {N : List Str} {sc : Scope}
def ckKeys (N : List Str) (sc : Scope) : List SE → List (Option Expr) → Bool
  | [], [] => true
  | k :: ks, some e :: es => okS N sc k e && ckKeys N sc ks es
  | _, _ => false
def trsOf (X : Cx) (fx : List (Nat × V)) (XR : XRel) (W : WX) (G : Cfg) : List SE → List ME → List (TE × TE)
  | k :: ks, m :: ms => (TS X.K fx k, TM X.K fx XR W G m) :: trsOf X fx XR W G ks ms
  | _, _ => []
theorem pps_of (hX : XOk X N sc) {pos : Pos} : ∀ {ks : List SE} {keys : List (Option Expr)} {ms : List ME} {es : List Expr}, ckKeys N sc ks keys = true → PMs X fx XR W G ms es → ks.length = ms.length → PPs X pos keys es (trsOf X fx XR W G ks ms)
  | [], [], _, _, _, .nil, _ => pps_nil
  | k :: ks, some e :: keys, _, _, h, .cons h1 h2, hl => by
    obtain ⟨g1, g2⟩ := band (show (okS N sc k e && ckKeys N sc ks keys) = true from h)
    exact pps_cons (okS_both (fx := fx) hX k e g1).1 h1.v (pps_of hX g2 h2 (by simpa using hl))
  | [], [], _, _, _, .cons _ _, hl => by simp at hl
  | k :: ks, some e :: keys, _, _, h, .nil, hl => by simp at hl
  | [], _ :: _, _, _, h, _, _ => by cases h
  | _ :: _, [], _, _, h, _, _ => by cases h
  | _ :: _, none :: _, _, _, h, _, _ => by cases h
theorem td_pairs {σ : L2.St} : ∀ {ks : List SE} {ms : List ME} {H : Hp} {Q : List (V × V) → Hp → Prop}, ks.length = ms.length → TD X.K fx XR W G ms ks σ H Q → tPairs (trsOf X fx XR W G ks ms) σ H Q
  | [], [], H, Q, _, t => td_nil t
  | k :: ks, m :: ms, H, Q, hl, t => by
    obtain ⟨ρ, O, F, x, r, e, go⟩ := td_cons t
    refine ⟨ρ, O, F, x, r, e, fun v hv => ?_⟩
    obtain ⟨ρ1, O1, F1, r1, t1⟩ := go v hv
    exact ⟨ρ1, O1, F1, r1, Tm.mono t1 fun y H2 q => td_pairs (by simpa using hl) q⟩
  | [], _ :: _, _, _, hl, _ => by simp at hl
  | _ :: _, [], _, _, hl, _ => by simp at hl
theorem keys_len : ∀ {ks : List SE} {keys : List (Option Expr)}, ckKeys N sc ks keys = true → keys.length = ks.length ∧ keys.all (·.isSome) = true
  | [], [], _ => ⟨rfl, rfl⟩
  | k :: ks, some e :: keys, h => by
    obtain ⟨g1, g2⟩ := band (show (okS N sc k e && ckKeys N sc ks keys) = true from h)
    obtain ⟨h1, h2⟩ := keys_len g2
    exact ⟨by rw [List.length_cons, List.length_cons, h1], by rw [List.all_cons, h2]; rfl⟩
  | [], _ :: _, h => by cases h
  | _ :: _, [], h => by cases h
  | _ :: _, none :: _, h => by cases h
theorem pms_len {ms : List ME} {es : List Expr} (h : PMs X fx XR W G ms es) : ms.length = es.length := by
  induction h with
  | nil => rfl
  | cons _ _ ih => rw [List.length_cons, List.length_cons, ih]
theorem pm_dct (hX : XOk X N sc) {ks : List SE} {keys : List (Option Expr)} {ms : List ME} {es : List Expr} {pos : Pos} (hk : ckKeys N sc ks keys = true) (hm : PMs X fx XR W G ms es) (hl : ks.length = ms.length) (h15 : ks.length ≤ 15) : PM X fx XR W G (.dct ks ms) (.Dict keys es pos) := by
  obtain ⟨l1, l2⟩ := keys_len hk
  have l3 := pms_len hm
  have hv : PE X (.Dict keys es pos) (TM X.K fx XR W G (.dct ks ms)) := by
    by_cases h0 : keys = []
    · subst h0
      have hks : ks = [] := List.length_eq_zero_iff.mp l1.symm
      subst hks
      have hms : ms = [] := List.length_eq_zero_iff.mp hl.symm
      subst hms
      cases hm
      refine peImp pe_dnewK fun σ H Q ⟨ρ, O, F, r, t⟩ => fun p hp => ?_
      have t' : Tm X.K fx XR W (relA X.K) (.ok (.dct [], freshD []) ρ) σ H O F Q := t
      exact t' (.ref p) _ O [p] (r.newL hp (.inr ⟨_, rfl⟩)) ⟨p, [], [], rfl, rfl, upd_same, rfl, rfl⟩ (ext_new hp fun b hb => (List.mem_append.mp hb).imp id List.mem_singleton.mp)
    · refine peImp (pe_disp (pps_of hX hk hm hl) l2 (by rw [l1, hl, l3]) h0 (by rw [l1]; exact h15)) fun σ H Q ⟨ρ, O, F, r, t⟩ => fun p hp => ?_
      have t' : Tm X.K fx XR W (relA X.K) ((evD G ms ks ρ).bind fun ps ρ => if (ps.map (·.1)).Nodup ∧ ps.length ≤ 15 then .ok (.dct (ps.map fun p => (p.1, p.2.1)), freshD (ps.map (·.2))) ρ else .stuck) σ H O F Q := t
      have r1 := r.newL (o := .dK []) hp (.inr ⟨_, rfl⟩)
      have e1 : Ext O H (upd H p (.dK [])) (O ++ [p]) := ext_new hp fun b hb => (List.mem_append.mp hb).imp id List.mem_singleton.mp
      have nD : p ∉ O := fun z => (r.ld p (List.mem_append_left _ z)).there hp
      refine td_pairs hl ⟨ρ, O, [p] ++ F, r1, Tm.mono (Tm.seqS (rel := relL (relD X.K)) t' e1) fun ps H2 ⟨as, ρ2, O2, T2, e2, r2, q2, x2, t2⟩ => fin_dct hp r2 q2 x2 nD t2⟩
  exact pm_of hv (fun _ => rfl) (pt_val' hv (fun _ => rfl) fun _ => rfl)
end
end Mi
end
section
set_option Elab.async false
set_option linter.all false
set_option maxRecDepth 100000
set_option maxHeartbeats 2000000
/-! S20c: (*t, x). -/
namespace Mi
open PySem PySem.Spec PyProof.Rows L2
theorem relL_owns {K : PySem.W.Frag} {L : Addr → Prop} {H : Hp} {b : Arg} {y : V} {T : List Addr} (h : Own K L H b.2 b.1 y T) : ∀ {xs : List PV} {vs : List V}, Owns K L H 0 xs vs [] → relL (relA K) L H (xs.map (fun x => (x, 0)) ++ [b]) (vs ++ [y]) T
  | [], vs, o => by
    rw [o.1]
    exact ⟨y, [], T, [], rfl, by simp, h, rfl, rfl⟩
  | x :: xs, vs, o => by
    obtain ⟨v, vr, O1, O2, rfl, eo, o1, o2⟩ := o
    obtain ⟨rfl, rfl⟩ := List.append_eq_nil_iff.mp eo.symm
    exact ⟨v, vr ++ [y], [], T, rfl, rfl, o1, relL_owns h o2⟩
section
variable {X : Cx} {fx : List (Nat × V)} {XR : XRel} {W : WX} {G : Cfg}
theorem pm_starT {a b : ME} {a' b' : Expr} {k : Nat} {p pos : Pos} (ha : PM X fx XR W G a a') (hb : PM X fx XR W G b b') (hs : noStar b' = true) : PM X fx XR W G (.starT a b) (.Tuple [.Starred a' p, b'] k pos) := by
  have hv : PE X (.Tuple [.Starred a' p, b'] k pos) (TM X.K fx XR W G (.starT a b)) := by
    refine peImp (pe_tupX (StX.pa_star ha.v (pa_cons hb.v pa_nil (star_cons hs)) rfl)) fun σ H Q ⟨ρ, O, F, r, t⟩ => ?_
    have t' : Tm X.K fx XR W (relA X.K) ((evX G false a ρ).bind fun x ρ => match x.1 with
      | .tup xs => (evX G false b ρ).bind fun y ρ => if xs.length < sizeLine then .ok (.tup (xs ++ [y.1]), 0) ρ else .stuck
      | _ => .stuck) σ H O F Q := t
    refine ⟨ρ, O, F, r, Tm.mono (Tm.seq0 (rel := relA X.K) t') fun v H1 ⟨x, ρ1, O1, T1, e1, r1, q1, x1, t1⟩ => ?_⟩
    obtain ⟨x, d⟩ := x
    cases x <;> first | (exact (show False from t1).elim) | skip
    rename_i xs
    have q1 : Own X.K (fun x => x ∈ O1 ++ (T1 ++ F)) H1 d (.tup xs) v T1 := q1
    have q1' : T1 = [] ∧ ∃ c vs, v = .ref c ∧ SqX H1 c vs ∧ Owns X.K (fun x => x ∈ O1 ++ (T1 ++ F)) H1 0 xs vs [] := by cases d <;> exact q1
    obtain ⟨rfl, c, vs, rfl, hsq, o⟩ := q1'
    have t1 : Tm X.K fx XR W (relA X.K) ((evX G false b ρ1).bind fun y ρ => if xs.length < sizeLine then .ok (.tup (xs ++ [y.1]), 0) ρ else .stuck) σ H O F Q := t1
    refine ⟨c, vs, rfl, .inl hsq.toT, ρ1, O1, [] ++ F, r1, Tm.mono (Tm.seqS (rel := relA X.K) t1 x1) fun y H2 ⟨z, ρ2, O2, T2, e2, r2, q2, x2, t2⟩ => ?_⟩
    split at t2
    · rename_i hlen
      have hl := owns_len o
      have st := Stay.ext (ρ := ρ1) (T1 := []) r1.nd x2 fun b hb => nomatch hb
      have o2 := Owns.stay o st
      have hr := relL_owns (K := X.K) q2 (xs := xs) (vs := vs) o2
      refine ⟨by rw [List.length_append, hl]; exact hlen, ?_⟩
      have x3 : Ext O H H2 (O2 ++ ([] ++ T2)) := x1.trans2 x2
      refine fin_tup (XR := XR) (W := W) (as := xs.map (fun x => ((x, 0) : Arg)) ++ [z]) (T := T2) (F := F) r2 hr x3 ?_
      have em : (xs.map (fun x => ((x, 0) : Arg)) ++ [z]).map (fun a : Arg => a.1) = xs ++ [z.1] := by simp [Function.comp_def]
      rw [em]
      exact t2
    · exact t2.elim
  exact pm_of hv (fun _ => rfl) (pt_val' hv (fun _ => rfl) fun _ => rfl)
end
end Mi
end
section
set_option Elab.async false
set_option linter.all false
set_option maxRecDepth 100000
set_option maxHeartbeats 2000000
/-! S20d: d.update(e). -/
namespace Mi
open PySem PySem.Spec PyProof.Rows L2
section
variable {K : PySem.W.Frag} {L : Addr → Prop} {H : Hp}
theorem ownd_put0 {kvs : List (Key × PV)} {vs : List (Key × V)} {d : Nat} {k : Key} {x : PV} {v : V} (h : Ownd K L H d kvs vs []) (nd : (kvs.map (·.1)).Nodup) (hx : Own K L H d x v []) : Ownd K L H d (dput k x kvs) (putK vs k v) [] := by
  cases e : dget k kvs with
  | none =>
    have := ownd_new h e L H x v [] (Stay.refl fun _ _ n => n) hx
    simpa using this
  | some y =>
    obtain ⟨w, E1, Ry, E2, _, e2, _, g, _⟩ := ownd_split h nd e
    obtain ⟨rfl, e3⟩ := List.append_eq_nil_iff.mp e2.symm
    obtain ⟨rfl, rfl⟩ := List.append_eq_nil_iff.mp e3
    have := g L H x v [] (Stay.refl fun _ _ n => n) hx
    simpa using this
theorem dput_keys {k : Key} {x : PV} : ∀ {kvs : List (Key × PV)}, (kvs.map (·.1)).Nodup → ((dput k x kvs).map (·.1)).Nodup ∧ ∀ q, q ∈ (dput k x kvs).map (·.1) → q = k ∨ q ∈ kvs.map (·.1)
  | [], _ => ⟨by simp [dput], fun q hq => by simp [dput] at hq; exact .inl hq⟩
  | (k', v') :: r, nd => by
    obtain ⟨n1, n2⟩ := List.nodup_cons.mp nd
    unfold dput
    by_cases e : k' = k
    · rw [if_pos e]
      exact ⟨nd, fun q hq => .inr hq⟩
    · rw [if_neg e]
      obtain ⟨h1, h2⟩ := dput_keys (k := k) (x := x) n2
      refine ⟨List.nodup_cons.mpr ⟨fun z => ?_, h1⟩, fun q hq => ?_⟩
      · rcases h2 _ z with z | z
        · exact e z
        · exact n1 z
      · rcases List.mem_cons.mp hq with rfl | hq
        · exact .inr List.mem_cons_self
        · exact (h2 q hq).imp id (List.mem_cons_of_mem _)
theorem ownd_merge0 {d : Nat} : ∀ {ms : List (Key × PV)} {ws : List (Key × V)} {kvs : List (Key × PV)} {vs : List (Key × V)}, Ownd K L H d kvs vs [] → (kvs.map (·.1)).Nodup → Ownd K L H d ms ws [] → Ownd K L H d (ms.foldl (fun k m => dput m.1 m.2 k) kvs) (mergeK vs ws) []
  | [], ws, kvs, vs, h, _, hm => by
    obtain ⟨rfl, _⟩ := hm
    exact h
  | (k, x) :: ms, ws, kvs, vs, h, nd, hm => by
    obtain ⟨v, vr, O1, O2, rfl, eo, h1, h2⟩ := hm
    obtain ⟨rfl, rfl⟩ := List.append_eq_nil_iff.mp eo.symm
    exact ownd_merge0 (ms := ms) (kvs := dput k x kvs) (vs := putK vs k v) (ownd_put0 h nd h1) (dput_keys nd).1 h2
/-- scalars own nothing, at any depth -/
theorem ownd_scal {d : Nat} : ∀ {ms : List (Key × PV)} {ws : List (Key × V)} {O : List Addr}, (ms.all fun p => !isL p.2) = true → Ownd K L H d ms ws O → O = [] ∧ ∀ d', Ownd K L H d' ms ws []
  | [], ws, O, _, h => ⟨h.2, fun _ => ⟨h.1, rfl⟩⟩
  | (k, x) :: ms, ws, O, hs, h => by
    rw [List.all_cons, Bool.and_eq_true] at hs
    obtain ⟨v, vr, O1, O2, rfl, rfl, h1, h2⟩ := h
    obtain ⟨rfl, g1⟩ := Own.scalar (by simpa using hs.1) h1
    obtain ⟨rfl, g2⟩ := ownd_scal hs.2 h2
    exact ⟨rfl, fun d' => ⟨v, vr, [], [], rfl, rfl, g1 d', g2 d'⟩⟩
theorem ownd_len2 {d : Nat} : ∀ {ms : List (Key × PV)} {ws : List (Key × V)} {O : List Addr}, Ownd K L H d ms ws O → ws.length = ms.length
  | [], ws, O, h => by rw [h.1]; rfl
  | (k, x) :: ms, ws, O, h => by
    obtain ⟨v, vr, O1, O2, rfl, rfl, h1, h2⟩ := h
    rw [List.length_cons, List.length_cons, ownd_len2 h2]
end
/-- d.update(m) of two dicts -/
def rUpd : V → List V → Hp → VK → Prop := fun x xs H Q => ∃ (a b : Addr) (vs ws : List (Key × V)), x = .ref a ∧ xs = [.ref b] ∧ a ≠ b ∧ H a = some (.dK vs) ∧ Rd H b (.dK ws) ∧ vs.length + ws.length ≤ sizeLine ∧ Q .non (upd H a (.dK (mergeK vs ws)))
theorem merge_len : ∀ (ws vs : List (Key × V)), (mergeK vs ws).length ≤ vs.length + ws.length
  | [], vs => Nat.le_refl _
  | p :: ws, vs => by
    have h1 := merge_len ws (putK vs p.1 p.2)
    have h2 := length_putK vs p.1 p.2
    rw [List.length_cons]
    show (mergeK (putK vs p.1 p.2) ws).length ≤ _
    omega
theorem mt_update {X : Cx} : MtR X "dict.update" rUpd := by
  intro pins s σ H x xs v us Q I rx rxs h
  obtain ⟨a, b, vs, ws, rfl, rfl, hne, ha, hb, hl, q⟩ := h
  cases rx
  obtain ⟨u, rfl, ru⟩ := vals1 rxs
  cases ru
  obtain ⟨z1, n1, rs1, k1, d1⟩ := dk_of I.hok ha
  obtain ⟨z2, n2, rs2, k2, d2⟩ := dk_rd I.hok hb
  refine call_meetsIn PySem.F.slot_dict_update d1.typeIs PySem.F.entry_dict_update (PySem.F.args_dict_update_2 _ _) (meets_dict_update (mixKind X.prog X.w) a b hne n2)
    ⟨rs1, rs2, d1, d2, by rw [← k1.length, ← k2.length]; exact hl, fun h2 hm _ hs => ?_⟩
  have he : ∃ o, h2.get? a = some o := let ⟨o, _, _, e, _⟩ := hm; ⟨o, e⟩
  exact ⟨.non, _, I.write (e := a) (t' := s.toks) (by rw [ha]; trivial) (.inl rfl) (fun c o hc ho => (hs.2 c hc).trans ho) he (dk_new (Nat.le_trans (merge_len ws vs) hl) n1 (KV.merge k2 k1) hm), rfl, q⟩
section
variable {K : PySem.W.Frag} {fx : List (Nat × V)} {σ : L2.St} {H : Hp} {ρ : Rho} {O F T : List Addr}
theorem fin_upd {i d d' : Nat} {kvs ms r : List (Key × PV)} {v : V} (rr : R K fx σ H ρ O (T ++ F)) (hs : slot ρ i = some (.dct kvs, d + 1)) (hv : Own K (fun x => x ∈ O ++ (T ++ F)) H d' (.dct ms) v T) (hu : updD kvs ms = some r) :
    ∃ a b vs ws O', σ[i]? = some (some (.ref a)) ∧ v = .ref b ∧ a ≠ b ∧ H a = some (.dK vs) ∧ Rd H b (.dK ws) ∧ vs.length + ws.length ≤ sizeLine ∧ R K fx σ (upd H a (.dK (mergeK vs ws))) (ρ.set i (some (.dct r, d + 1))) O' F ∧ Ext O H (upd H a (.dK (mergeK vs ws))) (O' ++ []) := by
  unfold updD at hu
  split at hu
  · rename_i hc
    simp only [Bool.and_eq_true, decide_eq_true_eq] at hc
    obtain ⟨⟨⟨c1, c2⟩, c3⟩, c4⟩ := hc
    cases hu
    obtain ⟨A, Oi, B, rfl, f, _, g⟩ := rr.chg (slot_lt hs)
    obtain ⟨w, hw, ho⟩ := f _ (slot_at hs)
    obtain ⟨a, vs, O1, rfl, rfl, ha, od⟩ := ho
    obtain ⟨rfl, od'⟩ := ownd_scal c1 od
    have la : a ∈ A ++ ([a] ++ B) ++ (T ++ F) := by simp
    -- the argument
    have arg : ∃ b ws, v = .ref b ∧ a ≠ b ∧ Rd H b (.dK ws) ∧ ∀ n, Ownd K (fun x => x ∈ A ++ ([a] ++ B) ++ (T ++ F)) H n ms ws [] := by
      cases d' with
      | zero =>
        obtain ⟨_, b, ws, rfl, nl, hr, om⟩ := hv
        exact ⟨b, ws, rfl, fun e => nl (e ▸ la), hr, (ownd_scal c2 om).2⟩
      | succ d' =>
        obtain ⟨b, ws, O2, rfl, e, hr, om⟩ := hv
        refine ⟨b, ws, rfl, fun z => ?_, .inl hr, (ownd_scal c2 om).2⟩
        have hb : b ∈ T := by rw [e]; exact List.mem_cons_self
        have nd := rr.nd
        exact (List.nodup_append.mp nd).2.2 a (by simp) b (List.mem_append_left _ hb) z
    obtain ⟨b, ws, rfl, hne, hr, om⟩ := arg
    have merged := ownd_merge0 (od' d) c3 (om d)
    have nd := rr.nd
    have nd' : (A ++ ([a] ++ B) ++ F).Nodup := List.Sublist.nodup ((List.Sublist.refl _).append (List.sublist_append_right T F)) nd
    have less : ∀ c, c ∈ A ++ ([a] ++ B) ++ F → c ∈ A ++ ([a] ++ B) ++ (T ++ F) := fun c hc => by
      rcases List.mem_append.mp hc with z | z
      · exact List.mem_append_left _ z
      · exact List.mem_append_right _ (List.mem_append_right _ z)
    have st : Stay (fun x => x ∈ A ++ ([a] ++ B) ++ (T ++ F)) (fun x => x ∈ A ++ ([a] ++ B) ++ F) H (upd H a (.dK (mergeK vs ws))) [] := stay_upd ha (.inr ⟨_, rfl⟩) la (by simp) fun c _ nl z => nl (less c z)
    have ntup : ∀ c u, H c = some (.tup u) → c ≠ a := fun c u e z => by rw [z, ha] at e; cases e
    have nfrz : ∀ c o u, H c = some (.frz o u) → c ≠ a := fun c o u e z => by rw [z, ha] at e; cases e
    have r' := g (upd H a (.dK (mergeK vs ws))) (some (.ref a)) (some (.dct (ms.foldl (fun k m => dput m.1 m.2 k) kvs), d + 1)) [a] F (fun c u e => by rw [upd_ne (ntup c u e)]; exact e) (fun c o u e => by rw [upd_ne (nfrz c o u e)]; exact e)
      (fun c o e nc => by rw [upd_ne (fun z => nc (by rw [z]; exact List.mem_singleton.mpr rfl))]; exact e) nd' (fun c hc => (List.mem_append.mp hc).elim .inl fun z => .inr (.inl (List.mem_append_right _ z))) (fun c hc => by
        by_cases z : c = a
        · rw [z, upd_same]; exact .inr ⟨_, rfl⟩
        · rw [upd_ne z]; exact rr.tr c (List.mem_append_right _ hc)) (fun p hp e => by
          have := rr.fx p hp
          rw [e, hw] at this
          exact Option.some.inj this) (fun a' e => by cases e; exact ⟨_, rfl, a, _, [], rfl, rfl, upd_same, Ownd.stay merged st⟩) (fun e => nomatch e)
    rw [set_same hw] at r'
    refine ⟨a, b, vs, ws, _, hw, rfl, hne, ha, hr, by rw [ownd_len2 od, ownd_len2 (om 0)]; exact c4, r', ⟨fun c o e nc => ?_, fun c hc => .inl (by simpa using hc), fun c hc => ?_, fun c u e => by rw [upd_ne (ntup c u e)]; exact e, fun c o u e => by rw [upd_ne (nfrz c o u e)]; exact e⟩⟩
    · rw [upd_ne (fun z => nc (by rw [z]; simp))]; exact e
    · by_cases z : c = a
      · rw [z, upd_same]; simp
      · rw [upd_ne z]; exact hc
  · cases hu
end
section
variable {X : Cx} {fx : List (Nat × V)} {XR : XRel} {W : WX} {G : Cfg} {N : List Str} {sc : Scope}
def ckUpd (N : List Str) (sc : Scope) (i : Nat) (g : Expr → Bool) : Expr → Bool
  | .Call (.Attribute (.Name x p) m apos) [e] [] cpos => decide (m = Str.ofString "update") && (apos.endLine == cpos.line) && ckVar N sc i (.Name x p) && noStar e && g e
  | _ => false
theorem pm_upd (hX : XOk X N sc) {i : Nat} {m : ME} {e : Expr} {g : Expr → Bool} (hg : ∀ e, g e = true → PM X fx XR W G m e) (h : ckUpd N sc i g e = true) : PM X fx XR W G (.upd i m) e := by
  unfold ckUpd at h
  split at h
  · rename_i x p mm apos e cpos
    obtain ⟨h, h5⟩ := band h
    obtain ⟨h, h4⟩ := band h
    obtain ⟨h, h3⟩ := band h
    obtain ⟨h1, h2⟩ := band h
    obtain rfl := of_decide_eq_true h1
    obtain ⟨g1, g2, g3, g4⟩ := okVar_of hX h3
    have hv : PE X (.Call (.Attribute (.Name x p) (Str.ofString "update") apos) [e] [] cpos) (TM X.K fx XR W G (.upd i m)) := by
      refine peImp (pe_bm PySem.F.plainAttrs_dict PySem.F.slot_dict_update PySem.F.type_dict_update mt_update (pe_var g1 g2 g3 g4) (pa_cons (hg _ h5).v pa_nil (star_cons h4)) (base_plain rfl) ?_ h2 (star_cons h4) rfl) fun σ H Q ⟨ρ, O, F, r, t⟩ => ?_
      · rw [star_cons h4]; rfl
      · have t' : Tm X.K fx XR W (relA X.K) (match slot ρ i with
          | some (.dct _, _ + 1) => (evX G false m ρ).bind fun a ρ => (match slot ρ i, a.1 with
            | some (.dct kvs, d + 1), .dct ms => Mi.orStuck (updD kvs ms) fun r => .ok (.non, 0) (ρ.set i (some (.dct r, d + 1)))
            | _, _ => .stuck)
          | _ => .stuck) σ H O F Q := t
        split at t'
        · rename_i kv0 d0 hs0
          obtain ⟨A, Oi, B, eO, f, _, _⟩ := r.chg (slot_lt hs0)
          obtain ⟨w, hw, ho⟩ := f _ (slot_at hs0)
          obtain ⟨a0, vs0, O1, rfl, _, ha0, _⟩ := ho
          refine ⟨.ref a0, hw, .inr (.inr (.inl ⟨rfl, .inl ⟨_, ha0⟩⟩)), ρ, O, F, r, Tm.mono (Tm.seq0 (rel := relA X.K) t') fun v H1 ⟨a, ρ1, O1, T, e1, r1, q1, x1, t1⟩ => ?_⟩
          split at t1
          · rename_i kvs d ms hs1 ea
            obtain ⟨r2, hu, t2⟩ := Tm.orStuck t1
            obtain ⟨a, da⟩ := a
            dsimp only at ea
            subst ea
            obtain ⟨c, b, vs, ws, O', k1, rfl, k3, k4, k5, k6, k7, k8⟩ := fin_upd r1 hs1 q1 hu
            rw [hw] at k1
            cases k1
            refine ⟨_, b, vs, ws, rfl, rfl, k3, k4, k5, k6, t2 .non _ O' [] k7 ⟨rfl, rfl⟩ ?_⟩
            have x1' : Ext O H H1 ((O1 ++ T) ++ []) := x1.sub fun b hb => by simpa using hb
            exact (x1.sub fun b hb => List.mem_append_left _ (by simpa using hb) : Ext O H H1 (O1 ++ [])).trans k8
          · exact (show False from t1).elim
        · exact (show False from t').elim
    exact pm_of hv (fun _ => rfl) (pt_val' hv (fun _ => rfl) fun _ => rfl)
  · cases h
/-- x == [] -/
theorem pm_cmpE (hX : XOk X N sc) {f : Fn} {s : SE} {l : Expr} {o : CmpOp} {p pos : Pos} (h1 : (cmpF o == some f) = true) (h2 : okS N sc s l = true) : PM X fx XR W G (.cmpE f s) (.Compare l [o] [.List [] p] pos) := by
  have red : ∀ σ H Q, TM X.K fx XR W G (.cmpE f s) σ H Q → TS X.K fx s σ H fun v H1 => tLst tNil σ H1 fun y H2 => ∃ (L : Addr → Prop) (A B : PV) (b : Bool), Bor X.K L H2 v A ∧ Bor X.K L H2 y B ∧ fn2 f A B = some (.bl b) ∧ Q (.bl b) H2 := fun σ H Q ⟨ρ, O, F, r, t⟩ => by
    have t' : Tm X.K fx XR W (relA X.K) (Mi.orStuck (evS s ρ) fun x => Mi.orStuck (fn2 f x (.lst [])) fun z => if isL z then .stuck else .ok (z, 0) ρ) σ H O F Q := t
    obtain ⟨x, e1, t'⟩ := Tm.orStuck t'
    obtain ⟨z, e2, t'⟩ := Tm.orStuck t'
    obtain ⟨b, rfl⟩ := cmp_bl h1 e2
    have t' : Tm X.K fx XR W (relA X.K) (.ok (.bl b, 0) ρ) σ H O F Q := t'
    refine ⟨ρ, O, F, x, r, e1, fun v hv => ⟨Nat.zero_le _, fun q hq => ?_⟩⟩
    have r2 := r.newL (o := .lst []) hq (.inl ⟨_, rfl⟩)
    have b1 : Bor X.K (fun b => b ∈ O ++ ([q] ++ F)) (upd H q (.lst [])) v x := by
      obtain ⟨d, O', ho⟩ := hv
      exact ⟨d, O', Own.stay ho (stay_new hq fun b hb => by
        simp only [List.mem_append, List.mem_singleton] at hb ⊢
        rcases hb with z | z | z
        · exact .inl (.inl z)
        · exact .inr z
        · exact .inl (.inr z))⟩
    have b2 : Bor X.K (fun b => b ∈ O ++ ([q] ++ F)) (upd H q (.lst [])) (.ref q) (.lst []) := ⟨1, [q], q, [], [], rfl, rfl, upd_same, rfl, rfl⟩
    exact ⟨_, x, .lst [], b, b1, b2, e2, t' (.bl b) _ O [] r2.drop ⟨rfl, rfl⟩ (ext_new hq fun b hb => .inl (by simpa using hb))⟩
  refine pm_of (peImp (pe_cmpR (cmp_of hX h1) (okS_both (fx := fx) hX s l h2).1 (pe_lst pa_nil) (by cases o <;> rfl)) fun σ H Q t => ?_) (fun _ => rfl) (ptImp (pt_cmpR (cmp_of hX h1) (okS_both (fx := fx) hX s l h2).1 (pe_lst pa_nil) (by cases o <;> rfl)) fun σ H Q t => ?_)
  · obtain ⟨ρ, O, F, x, r, e, go⟩ := red σ H Q t
    refine ⟨ρ, O, F, x, r, e, fun v hv => ⟨Nat.zero_le _, fun q hq => ?_⟩⟩
    obtain ⟨L, A, B, b, hA, hB, e3, q4⟩ := (go v hv).2 q hq
    exact ⟨L, A, B, _, hA, hB, e3, fun w hw => by rw [hw.bl]; exact q4⟩
  · have t1 := tb_of (fun ρ => by
      show ofBl (evX G true (.cmpE f s) ρ) = (evX G false (.cmpE f s) ρ).bind _
      exact ofBl_asT _) t
    obtain ⟨ρ, O, F, x, r, e, go⟩ := red σ H _ t1
    refine ⟨ρ, O, F, x, r, e, fun v hv => ⟨Nat.zero_le _, fun q hq => ?_⟩⟩
    obtain ⟨L, A, B, b, hA, hB, e3, k, e4, q4⟩ := (go v hv).2 q hq
    cases e4
    exact ⟨L, A, B, _, hA, hB, e3, fun w hw => ⟨_, hw.bl, q4⟩⟩
end
end Mi
end
section
set_option Elab.async false
set_option linter.all false
set_option maxRecDepth 100000
set_option maxHeartbeats 2000000
/-! S21: every expression that the check lets through. -/
namespace Mi
open PySem PySem.Spec PyProof.Rows L2
/-- the names of a comprehension's own slots -/
def ownNames (N : List Str) (own : List Nat) : List (Str × Nat) := own.map fun i => ((N[i]?).getD "", i)
def subB (a b : List Nat) : Bool := a.all fun i => b.contains i
mutual
/-- whether a mini expression is what Python's tree says; fs: the defs' names and arities -/
def okE (N : List Str) (fs : List (Str × Nat)) : ME → Scope → Expr → Bool
  | .s e, sc, x => okS N sc e x
  | .var i, sc, x => ckVar N sc i x
  | .elem i k, sc, x => (match x with
    | .Subscript l r _ => ckVar N sc i l && okS N sc k r && noSl r
    | _ => false)
  | .tup es, sc, x => (match x with
    | .Tuple xs _ _ => okEs N fs es sc xs && xs.all noStar && decide (es.length ≤ 1000)
    | _ => false)
  | .lst es, sc, x => (match x with
    | .List xs _ => okEs N fs es sc xs && xs.all noStar && decide (es.length ≤ 1000)
    | _ => false)
  | .dct ks es, sc, x => (match x with
    | .Dict keys xs _ => okEs N fs es sc xs && ckKeys N sc ks keys && decide (ks.length = es.length) && decide (ks.length ≤ 15)
    | _ => false)
  | .ap f es, sc, x => ckAp sc f (okEs N fs es sc) x
  | .apA f es, sc, x => ckFa sc f (okEs N fs es sc) x
  | .slice a lo hi, sc, x => ckSlice N sc lo hi (okE N fs a sc) x
  | .call j es, sc, x => (match x with
    | .Call (.Name nm _) (e :: r) [] _ => okEs N fs es sc (e :: r) && (e :: r).all noStar && glB sc nm && (match fs[j]? with | some (y, n) => decide (y = nm) && decide (es.length = n) | none => false)
    | _ => false)
  | .lc own p k es ifs e, sc, x => (match x with
    | .ListComp eltE [⟨tg, iter, ifsE, 0⟩] scope _ => ckIt sc k tg (okEs N fs es sc) iter && blkC N sc scope (ownNames N own) && okP N (relS scope sc) (fun y => scope.names.lookup y == some .cell) p tg && subB (pnames p) own &&
        okEs N fs ifs (relS scope sc) ifsE && decide (ifsE.length ≤ 1) && okE N fs e (relS scope sc) eltE
    | _ => false)
  | .mut o r path es, sc, x => ckMut N sc o r path (simples es) (okEs N fs es sc) x
  | .ite c a b, sc, x => (match x with
    | .IfExp c' a' b' _ => okE N fs c sc c' && okE N fs a sc a' && okE N fs b sc b'
    | _ => false)
  | .and a b, sc, x => (match x with
    | .BoolOp .And [a', b'] _ => okE N fs a sc a' && okE N fs b sc b'
    | .BoolOp .And (a' :: b' :: c' :: r) pos => okE N fs a sc a' && okE N fs b sc (.BoolOp .And (b' :: c' :: r) pos)
    | _ => false)
  | .or a b, sc, x => (match x with
    | .BoolOp .Or [a', b'] _ => okE N fs a sc a' && okE N fs b sc b'
    | .BoolOp .Or (a' :: b' :: c' :: r) pos => okE N fs a sc a' && okE N fs b sc (.BoolOp .Or (b' :: c' :: r) pos)
    | _ => false)
  | .not a, sc, x => (match x with
    | .UnaryOp .Not a' _ => okE N fs a sc a'
    | _ => false)
  | .chain _ _ _ _ _, _, _ => false
  | .fld _ _, _, _ => false
  | .no, _, x => noStar x
  | .cmpE f e, sc, x => (match x with
    | .Compare l [o] [.List [] _] _ => cmpF o == some f && okS N sc e l
    | _ => false)
  | .upd i e, sc, x => ckUpd N sc i (okE N fs e sc) x
  | .starT a b, sc, x => (match x with
    | .Tuple [.Starred a' _, b'] _ _ => okE N fs a sc a' && okE N fs b sc b' && noStar b'
    | _ => false)
def okEs (N : List Str) (fs : List (Str × Nat)) : List ME → Scope → List Expr → Bool
  | [], _, xs => xs.isEmpty
  | e :: es, sc, xs => (match xs with
    | x :: xs => okE N fs e sc x && okEs N fs es sc xs
    | [] => false)
end
/-- what calls need -/
structure EOk (X : Cx) (XR : XRel) (W : WX) (G : Cfg) (fs : List (Str × Nat)) (CX : CXT) (k : Nat) : Prop where
  fns : ∀ (j : Nat) (x : Str) (n : Nat), fs[j]? = some (x, n) → ∃ F0 f fd ps, G.C[j]? = some F0 ∧ ps.length = n ∧ FnG X.prog X.w X.K X.mg X.base CX k f fd ps (SpG (K := X.K) XR n F0) ∧ X.mg x = some (.ref f) ∧ PySem.W.keepIn X.K (.ref f) = true ∧ Binds X.K fd ps []
  room : Room k X.A
  pass : PassesG CX X fun σ cls d H => W cls d σ H
  noex : ∀ out H s u s', CX out H s (fun _ _ _ => False) u s' → False
section
variable {X : Cx} {XR : XRel} {W : WX} {G : Cfg} {fs : List (Str × Nat)} {CX : CXT} {k : Nat} {N : List Str} {sc scope : Scope}
theorem XOk.blk (hX : XOk X N sc) (s : Shared) (H : Hp) (C : Addr) (cl : List (Str × Addr)) (fp : List Addr) : XOk (X.blk s H scope (compEnvC scope cl C X.env) fp) N (relS scope sc) where
  nn := hX.nn
  sc := by
    show relS scope X.env.scope = _
    rw [hX.sc]
  nd := hX.nd
  calm := hX.calm
  units := hX.units
  guards := hX.guards
  blt := hX.blt
theorem EOk.blk (hE : EOk X XR W G fs CX k) (s : Shared) (H : Hp) (C : Addr) (cl : List (Str × Addr)) (fp : List Addr) : EOk (X.blk s H scope (compEnvC scope cl C X.env) fp) XR W0 G fs CX k where
  fns := hE.fns
  room := hE.room
  pass := fun pins σ H s u s' _ h => hE.noex _ _ _ _ _ h
  noex := hE.noex
theorem le_line {n : Nat} (h : n ≤ 1000) : n ≤ sizeLine := by rw [sizeLine_eq]; omega
theorem own_back {N : List Str} {own : List Nat} : (ownNames N own).map (·.2) = own := by
  unfold ownNames
  rw [List.map_map]
  exact (List.map_congr_left fun i _ => rfl).trans (List.map_id own)
theorem subB_of {a b : List Nat} (h : subB a b = true) : ∀ j ∈ a, j ∈ b := fun j hj => by
  unfold subB at h
  rw [List.all_eq_true] at h
  simpa using h j hj
theorem pair_pat {N : List Str} {sc sc2 : Scope} {fc : Str → Bool} {k : Ik} {tg iter : Expr} {g : List Expr → Bool} {p : Pat} (h : ckIt sc k tg g iter = true) (hp : okP N sc2 fc p tg = true) : pairK k = true → isTupP p = true := fun hk => by
  have ht : isTupE tg = true := by
    cases k <;> first | (cases hk; done) | (cases h; done) | exact (band h).1
  cases tg <;> first | (cases ht; done) | skip
  cases p <;> first | rfl | (cases hp; done)
theorem pts_of {fx : List (Nat × V)} {ifs : List ME} {ifsE : List Expr} (h : PMs X fx XR W G ifs ifsE) (hl : ifsE.length ≤ 1) : PTs X ifsE (TIf X.K fx XR W G ifs) := by
  cases h with
  | nil => exact ⟨fun pins s σ H Q I ⟨ρ, O, F, r, t⟩ => (pts_nil (X := X)).run pins s σ H Q I (t true H O [] r ⟨rfl, rfl⟩ (Ext.refl fun b hb => by simpa using hb))⟩
  | @cons m e _ _ h1 h2 =>
    cases h2 with
    | nil =>
      refine ⟨fun pins s σ H Q I ⟨ρ, O, F, r, t⟩ => (pts_one h1.t).run pins s σ H Q I ?_⟩
      have t' : Tm X.K fx XR W relB ((ofBl (evX G true m ρ)).bind fun t ρ => if t then .ok true ρ else .ok false ρ) σ H O F Q := t
      have e1 : ((ofBl (evX G true m ρ)).bind fun t ρ => if t then Out.ok true ρ else .ok false ρ) = evT G m ρ := by
        show _ = ofBl (evX G true m ρ)
        cases ofBl (evX G true m ρ) with
        | ok a ρ => cases a <;> rfl
        | ex c xs ρ => rfl
        | stuck => rfl
      rw [e1] at t'
      exact ⟨ρ, O, F, r, t'⟩
    | cons h3 h4 => simp at hl
mutual
theorem pm_all : ∀ (m : ME) {X : Cx} {W : WX} {sc : Scope} (fx : List (Nat × V)), XOk X N sc → EOk X XR W G fs CX k → ∀ e : Expr, okE N fs m sc e = true → PM X fx XR W G m e
  | .s s, X, W, sc, fx, hX, hE, e, h => pm_s hX h
  | .var i, X, W, sc, fx, hX, hE, e, h => pm_var hX h
  | .elem i q, X, W, sc, fx, hX, hE, e, h => by
    cases e <;> first | (cases h; done) | skip
    rename_i l r pos
    obtain ⟨h1, h3⟩ := band (show (ckVar N sc i l && okS N sc q r && noSl r) = true from h)
    obtain ⟨h1, h2⟩ := band h1
    exact pm_elem hX h1 h2 h3
  | .tup es, X, W, sc, fx, hX, hE, e, h => by
    cases e <;> first | (cases h; done) | skip
    rename_i xs q pos
    obtain ⟨h1, h3⟩ := band (show (okEs N fs es sc xs && xs.all noStar && decide (es.length ≤ 1000)) = true from h)
    obtain ⟨h1, h2⟩ := band h1
    exact pm_tup (pms_all es fx hX hE xs h1) h2 (le_line (of_decide_eq_true h3))
  | .lst es, X, W, sc, fx, hX, hE, e, h => by
    cases e <;> first | (cases h; done) | skip
    rename_i xs pos
    obtain ⟨h1, h3⟩ := band (show (okEs N fs es sc xs && xs.all noStar && decide (es.length ≤ 1000)) = true from h)
    obtain ⟨h1, h2⟩ := band h1
    exact pm_lst (pms_all es fx hX hE xs h1) h2 (le_line (of_decide_eq_true h3))
  | .dct ks es, X, W, sc, fx, hX, hE, e, h => by
    cases e <;> first | (cases h; done) | skip
    rename_i keys xs pos
    obtain ⟨h, h4⟩ := band (show (okEs N fs es sc xs && ckKeys N sc ks keys && decide (ks.length = es.length) && decide (ks.length ≤ 15)) = true from h)
    obtain ⟨h, h3⟩ := band h
    obtain ⟨h1, h2⟩ := band h
    exact pm_dct hX h2 (pms_all es fx hX hE xs h1) (of_decide_eq_true h3) (of_decide_eq_true h4)
  | .ap f es, X, W, sc, fx, hX, hE, e, h => pm_ap hX (fun xs hx => pms_all es fx hX hE xs hx) h
  | .apA f es, X, W, sc, fx, hX, hE, e, h => pm_fa hX (fun xs hx => pms_all es fx hX hE xs hx) h
  | .slice a lo hi, X, W, sc, fx, hX, hE, e, h => pm_slice hX (fun x hx => pm_all a fx hX hE x hx) h
  | .call j es, X, W, sc, fx, hX, hE, e, h => by
    unfold okE at h
    split at h
    · rename_i nm p e1 r pos
      obtain ⟨h, h4⟩ := band h
      obtain ⟨h, h3⟩ := band h
      obtain ⟨h1, h2⟩ := band h
      split at h4
      · rename_i y n hj
        obtain ⟨h5, h6⟩ := band h4
        obtain rfl := of_decide_eq_true h5
        have h6 := of_decide_eq_true h6
        obtain ⟨F0, f, fd, ps, g1, g2, g3, g4, g5, g6⟩ := hE.fns j _ n hj
        subst g2
        exact pm_call hX g1 g3 hE.room h3 g4 g5 g6 hE.pass (pms_all es fx hX hE _ h1) h2 h6
      · cases h4
    · cases h
  | .lc own p q es ifs m, X, W, sc, fx, hX, hE, e, h => by
    unfold okE at h
    split at h
    · rename_i eltE tg iter ifsE scope pos
      obtain ⟨h, h7⟩ := band h
      obtain ⟨h, h6⟩ := band h
      obtain ⟨h, h5⟩ := band h
      obtain ⟨h, h4⟩ := band h
      obtain ⟨h, h3⟩ := band h
      obtain ⟨h1, h2⟩ := band h
      obtain ⟨hi1, hi2⟩ := pm_it hX (fun xs hx => pms_all es fx hX hE xs hx) h1
      refine pm_lc hX.calm (by rw [hX.nn]; exact hX.nd) (own_back (N := N)) hi1 hi2 (by rw [hX.nn, hX.sc]; exact blkOk_by h2) (fun s H C cl fp => pg_pat (hX.blk s H C cl fp) ⟨fun x hx => hx⟩ p tg h3)
        (fun s H C cl fp => pts_of (pms_all ifs [] (hX.blk s H C cl fp) (hE.blk s H C cl fp) ifsE h5) (of_decide_eq_true h6)) (fun s H C cl fp => (pm_all m [] (hX.blk s H C cl fp) (hE.blk s H C cl fp) eltE h7).v) (subB_of h4) (pair_pat h1 h3)
    · cases h
  | .mut o r path es, X, W, sc, fx, hX, hE, e, h => pm_mut hX (fun xs hx => pms_all es fx hX hE xs hx) h
  | .ite c a b, X, W, sc, fx, hX, hE, e, h => by
    cases e <;> first | (cases h; done) | skip
    rename_i c' a' b' pos
    obtain ⟨h1, h3⟩ := band (show (okE N fs c sc c' && okE N fs a sc a' && okE N fs b sc b') = true from h)
    obtain ⟨h1, h2⟩ := band h1
    exact pm_ite (pm_all c fx hX hE c' h1) (pm_all a fx hX hE a' h2) (pm_all b fx hX hE b' h3)
  | .and a b, X, W, sc, fx, hX, hE, e, h => by
    unfold okE at h
    split at h
    · obtain ⟨h1, h2⟩ := band h
      exact pm_and2 (pm_all a fx hX hE _ h1) (pm_all b fx hX hE _ h2)
    · obtain ⟨h1, h2⟩ := band h
      exact pm_and3 (pm_all a fx hX hE _ h1) (pm_all b fx hX hE _ h2)
    · cases h
  | .or a b, X, W, sc, fx, hX, hE, e, h => by
    unfold okE at h
    split at h
    · obtain ⟨h1, h2⟩ := band h
      exact pm_or2 (pm_all a fx hX hE _ h1) (pm_all b fx hX hE _ h2)
    · obtain ⟨h1, h2⟩ := band h
      exact pm_or3 (pm_all a fx hX hE _ h1) (pm_all b fx hX hE _ h2)
    · cases h
  | .not a, X, W, sc, fx, hX, hE, e, h => by
    unfold okE at h
    split at h
    · exact pm_not (pm_all a fx hX hE _ h)
    · cases h
  | .chain _ _ _ _ _, X, W, sc, fx, hX, hE, e, h => by cases h
  | .fld _ _, X, W, sc, fx, hX, hE, e, h => by cases h
  | .starT a b, X, W, sc, fx, hX, hE, e, h => by
    unfold okE at h
    split at h
    · obtain ⟨h, h3⟩ := band h
      obtain ⟨h1, h2⟩ := band h
      exact pm_starT (pm_all a fx hX hE _ h1) (pm_all b fx hX hE _ h2) h3
    · cases h
  | .cmpE f s, X, W, sc, fx, hX, hE, e, h => by
    unfold okE at h
    split at h
    · obtain ⟨h1, h2⟩ := band h
      exact pm_cmpE hX h1 h2
    · cases h
  | .upd i m, X, W, sc, fx, hX, hE, e, h => pm_upd hX (fun x hx => pm_all m fx hX hE x hx) h
  | .no, X, W, sc, fx, hX, hE, e, h => ⟨⟨fun pins s σ H Q I ⟨ρ, O, F, r, t⟩ => (show False from t).elim⟩, ⟨fun pins s σ H Q I ⟨ρ, O, F, r, t⟩ => (show False from t).elim⟩, ⟨fun pins s σ H Q I ⟨ρ, O, F, r, t⟩ => (show False from t).elim⟩⟩
theorem pms_all : ∀ (ms : List ME) {X : Cx} {W : WX} {sc : Scope} (fx : List (Nat × V)), XOk X N sc → EOk X XR W G fs CX k → ∀ es : List Expr, okEs N fs ms sc es = true → PMs X fx XR W G ms es
  | [], X, W, sc, fx, hX, hE, es, h => by
    cases es with
    | nil => exact .nil
    | cons a b => cases h
  | m :: ms, X, W, sc, fx, hX, hE, es, h => by
    cases es with
    | nil => cases h
    | cons a b =>
      obtain ⟨h1, h2⟩ := band (show (okE N fs m sc a && okEs N fs ms sc b) = true from h)
      exact .cons (pm_all m fx hX hE a h1) (pms_all ms fx hX hE b h2)
end
end
end Mi
end
section
set_option Elab.async false
set_option linter.all false
set_option maxRecDepth 100000
set_option maxHeartbeats 2000000
/-! S22: statements: how they end; blocks, tests, returns. -/
namespace Mi
open PySem PySem.Spec PyProof.Rows L2
section
variable (K : PySem.W.Frag) (fx : List (Nat × V)) (XR : XRel) (W : WX)
/-- what a statement's outcome asks -/
def Sm (o : SOut) (H : Hp) (O F : List Addr) (D : Ends) : Prop := match o with
  | .nx ρ' => ∀ σ' H' O', R K fx σ' H' ρ' O' F → Ext O H H' O' → D.nx σ' H'
  | .rt a ρ' => ∀ v σ' H' O' T, R K fx σ' H' ρ' O' (T ++ F) → Own K (fun b => b ∈ O' ++ (T ++ F)) H' a.2 a.1 v T → Ext O H H' (O' ++ T) → D.rt v H'
  | .br ρ' => ∀ σ' H' O', R K fx σ' H' ρ' O' F → Ext O H H' O' → D.bk σ' H'
  | .ct ρ' => ∀ σ' H' O', R K fx σ' H' ρ' O' F → Ext O H H' O' → D.ct σ' H'
  | .ex c xs ρ' => ∀ cls d σ' H' O', R K fx σ' H' ρ' O' F → Ext O H H' O' → XR c xs cls d H' → W cls d σ' H'
  | .stuck => False
variable {K fx XR W} {G : Cfg} {H H1 : Hp} {O O1 F T : List Addr} {σ : L2.St} {D D' : Ends}
/-- from a state further on -/
theorem Sm.shift {o : SOut} (h : Sm K fx XR W o H O F D) (e : Ext O H H1 O1) : Sm K fx XR W o H1 O1 F D := by
  have e0 : Ext O H H1 (O1 ++ []) := by simpa using e
  cases o with
  | nx ρ => exact fun σ' H' O' r x => h σ' H' O' r (e0.trans x)
  | rt a ρ => exact fun v σ' H' O' T r o x => h v σ' H' O' T r o (e0.trans x)
  | br ρ => exact fun σ' H' O' r x => h σ' H' O' r (e0.trans x)
  | ct ρ => exact fun σ' H' O' r x => h σ' H' O' r (e0.trans x)
  | ex c xs ρ => exact fun cls d σ' H' O' r x => h cls d σ' H' O' r (e0.trans x)
  | stuck => exact h
theorem Sm.mono {o : SOut} (h : Sm K fx XR W o H O F D) (g1 : ∀ σ H, D.nx σ H → D'.nx σ H) (g2 : ∀ v H, D.rt v H → D'.rt v H) (g3 : ∀ σ H, D.bk σ H → D'.bk σ H) (g4 : ∀ σ H, D.ct σ H → D'.ct σ H) : Sm K fx XR W o H O F D' := by
  cases o with
  | nx ρ => exact fun σ' H' O' r x => g1 _ _ (h σ' H' O' r x)
  | rt a ρ => exact fun v σ' H' O' T r o x => g2 _ _ (h v σ' H' O' T r o x)
  | br ρ => exact fun σ' H' O' r x => g3 _ _ (h σ' H' O' r x)
  | ct ρ => exact fun σ' H' O' r x => g4 _ _ (h σ' H' O' r x)
  | ex c xs ρ => exact h
  | stuck => exact h
theorem Sm.orStop {α : Type} {o : Option α} {f : α → SOut} (h : Sm K fx XR W (Mi.orStop o f) H O F D) : ∃ a, o = some a ∧ Sm K fx XR W (f a) H O F D := by
  cases o with
  | none => exact h.elim
  | some a => exact ⟨a, rfl, h⟩
/-- an evaluation, then the rest -/
theorem Sm.run {α β : Type} {rel : Rel α β} {o : Out α} {f : α → Rho → SOut} (h : Sm K fx XR W (o.run f) H O F D) :
    Tm K fx XR W rel o σ H O F (fun b H1 => ∃ a ρ1 O1 T, o = .ok a ρ1 ∧ R K fx σ H1 ρ1 O1 (T ++ F) ∧ rel (fun x => x ∈ O1 ++ (T ++ F)) H1 a b T ∧ Ext O H H1 (O1 ++ T) ∧ Sm K fx XR W (f a ρ1) H O F D) := by
  cases o with
  | ok a ρ => exact fun b H1 O1 T r q e => ⟨a, ρ, O1, T, rfl, r, q, e, h⟩
  | ex c xs ρ => exact fun cls d H' O' r e x => h cls d σ H' O' r e x
  | stuck => exact h.elim
end
section
variable (K : PySem.W.Frag) (fx : List (Nat × V)) (XR : XRel) (W : WX) (G : Cfg)
def TSt (m : MS) : L2.TS := fun D σ H => ∃ ρ O F, R K fx σ H ρ O F ∧ Sm K fx XR W (Mi.exec G m ρ) H O F D
def TSs' (ms : List MS) : L2.TS := fun D σ H => ∃ ρ O F, R K fx σ H ρ O F ∧ Sm K fx XR W (Mi.execs G ms ρ) H O F D
end
section
variable {X : Cx} {fx : List (Nat × V)} {XR : XRel} {W : WX} {G : Cfg} {st : Stmt} {sts : List Stmt}
theorem psImp {t t' : L2.TS} (h : PS X st t) (g : ∀ D σ H, t' D σ H → t D σ H) : PS X st t' := ⟨fun pins s σ H D I q => h.run pins s σ H D I (g D σ H q)⟩
theorem pssImp {t t' : L2.TS} (h : PSs X sts t) (g : ∀ D σ H, t' D σ H → t D σ H) : PSs X sts t' := ⟨fun pins s σ H D I q => h.run pins s σ H D I (g D σ H q)⟩
theorem ss_nil : PSs X [] (TSs' X.K fx XR W G []) := pssImp pss_nil fun D σ H ⟨ρ, O, F, r, t⟩ => (show Sm X.K fx XR W (.nx ρ) H O F D from t) σ H O r (Ext.refl fun _ h => h)
theorem ss_cons {m : MS} {ms : List MS} (h1 : PS X st (TSt X.K fx XR W G m)) (h2 : PSs X sts (TSs' X.K fx XR W G ms)) : PSs X (st :: sts) (TSs' X.K fx XR W G (m :: ms)) := by
  refine pssImp (pss_cons h1 h2) fun D σ H ⟨ρ, O, F, r, t⟩ => ⟨ρ, O, F, r, ?_⟩
  have t' : Sm X.K fx XR W (match Mi.exec G m ρ with
    | .nx ρ => Mi.execs G ms ρ
    | o => o) H O F D := t
  cases he : Mi.exec G m ρ with
  | nx ρ1 =>
    rw [he] at t'
    exact fun σ' H' O' r' x => ⟨ρ1, O', F, r', Sm.shift t' x⟩
  | rt a ρ1 => rw [he] at t'; exact t'
  | br ρ1 => rw [he] at t'; exact t'
  | ct ρ1 => rw [he] at t'; exact t'
  | ex c xs ρ1 => rw [he] at t'; exact t'
  | stuck => rw [he] at t'; exact t'
theorem st_pass {pos : Pos} : PS X (.Pass pos) (TSt X.K fx XR W G .pass) := psImp ps_pass fun D σ H ⟨ρ, O, F, r, t⟩ => (show Sm X.K fx XR W (.nx ρ) H O F D from t) σ H O r (Ext.refl fun _ h => h)
theorem st_brk {pos : Pos} : PS X (.Break pos) (TSt X.K fx XR W G .brk) := psImp ps_break fun D σ H ⟨ρ, O, F, r, t⟩ => (show Sm X.K fx XR W (.br ρ) H O F D from t) σ H O r (Ext.refl fun _ h => h)
theorem st_cont {pos : Pos} : PS X (.Continue pos) (TSt X.K fx XR W G .cont) := psImp ps_continue fun D σ H ⟨ρ, O, F, r, t⟩ => (show Sm X.K fx XR W (.ct ρ) H O F D from t) σ H O r (Ext.refl fun _ h => h)
/-- an expression whose value is dropped -/
theorem st_ex {m : ME} {e : Expr} {pos : Pos} (h : PM X fx XR W G m e) (hs : swapsWith e none pos.line X.env = pure false) : PS X (.Expr e pos) (TSt X.K fx XR W G (.ex m)) := by
  refine psImp (ps_expr h.v hs) fun D σ H ⟨ρ, O, F, r, t⟩ => ⟨ρ, O, F, r, ?_⟩
  have t' : Sm X.K fx XR W ((Mi.ev G m ρ).run fun _ ρ => .nx ρ) H O F D := t
  refine Tm.mono (Sm.run (rel := relA X.K) t') fun b H1 ⟨a, ρ1, O1, T, e1, r1, q1, x1, t1⟩ => t1 σ H1 O1 r1.drop (x1.sub fun b hb => List.mem_append_left _ hb)
theorem st_ret {m : ME} {e : Expr} {pos : Pos} (h : PM X fx XR W G m e) : PS X (.Return (some e) pos) (TSt X.K fx XR W G (.ret m)) := by
  refine psImp (ps_ret h.v) fun D σ H ⟨ρ, O, F, r, t⟩ => ⟨ρ, O, F, r, ?_⟩
  have t' : Sm X.K fx XR W ((Mi.ev G m ρ).run fun a ρ => .rt a ρ) H O F D := t
  refine Tm.mono (Sm.run (rel := relA X.K) t') fun b H1 ⟨a, ρ1, O1, T, e1, r1, q1, x1, t1⟩ => t1 b σ H1 O1 T r1 q1 x1
theorem st_retN {pos : Pos} : PS X (.Return none pos) (TSt X.K fx XR W G .retN) := psImp ps_retN fun D σ H ⟨ρ, O, F, r, t⟩ =>
  (show Sm X.K fx XR W (.rt (.non, 0) ρ) H O F D from t) .non σ H O [] r ⟨rfl, rfl⟩ (Ext.refl fun b hb => by simpa using hb)
/-- return x: the slot's own list goes out -/
theorem st_retv {N : List Str} {sc : Scope} (hX : XOk X N sc) {i : Nat} {e : Expr} {pos : Pos} (h : ckVar N sc i e = true) (hf : ∀ q ∈ fx, q.1 ≠ i) : PS X (.Return (some e) pos) (TSt X.K fx XR W G (.retv i)) := by
  cases e <;> first | (cases h; done) | skip
  obtain ⟨h1, h2, h3, h4⟩ := okVar_of hX h
  refine psImp (ps_ret (pe_var h1 h2 h3 h4)) fun D σ H ⟨ρ, O, F, r, t⟩ => ?_
  obtain ⟨a, e1, t⟩ := Sm.orStop (show Sm X.K fx XR W (Mi.orStop (slot ρ i) fun a => .rt a (ρ.set i none)) H O F D from t)
  obtain ⟨A, Oi, B, rfl, f, _, g⟩ := r.chg (slot_lt e1)
  obtain ⟨w, hw, ho⟩ := f a (slot_at e1)
  have pm : (A ++ (Oi ++ B) ++ F).Perm (A ++ ([] ++ B) ++ (Oi ++ F)) := by
    rw [List.perm_iff_count]; intro q; simp only [List.count_append, List.count_nil]; omega
  have r' := g H (some w) none [] (Oi ++ F) (fun _ _ q => q) (fun _ _ _ q => q) (fun _ _ q _ => q) (pm.nodup_iff.mp r.nd) (fun b hb => by
    simp only [List.nil_append, List.mem_append] at hb
    exact hb.imp id .inl) (fun b hb => (List.mem_append.mp hb).elim (fun z => Own.isLD _ _ _ _ ho b z) fun z => r.tr b z) (fun p hp q => absurd q (hf p hp)) (fun a' q => nomatch q) (fun _ => rfl)
  rw [set_same hw] at r'
  refine ⟨w, hw, t w σ H _ Oi r' (Own.stay ho (Stay.refl fun b _ nl z => nl (pm.mem_iff.mpr z))) (Ext.refl fun b hb => ?_)⟩
  simp only [List.nil_append, List.mem_append] at hb ⊢
  rcases hb with (z | z) | z
  · exact .inl z
  · exact .inr (.inr z)
  · exact .inr (.inl z)
theorem st_if {c : ME} {a b : List MS} {e : Expr} {sa sb : List Stmt} {pos : Pos} (hc : PM X fx XR W G c e) (ha : PSs X sa (TSs' X.K fx XR W G a)) (hb : PSs X sb (TSs' X.K fx XR W G b)) : PS X (.If e sa sb pos) (TSt X.K fx XR W G (.ifs c a b)) := by
  refine psImp (ps_if hc.t ha hb) fun D σ H ⟨ρ, O, F, r, t⟩ => ⟨ρ, O, F, r, ?_⟩
  have t' : Sm X.K fx XR W ((Mi.evT G c ρ).run fun c ρ => if c then Mi.execs G a ρ else Mi.execs G b ρ) H O F D := t
  refine Tm.mono (Sm.run (rel := relB) t') fun k H1 ⟨k', ρ1, O1, T, e1, r1, q1, x1, t1⟩ => ?_
  obtain ⟨rfl, rfl⟩ := q1
  have t2 := Sm.shift t1 (O1 := O1) (by simpa using x1)
  cases k with
  | true => exact ⟨ρ1, O1, F, by simpa using r1, t2⟩
  | false => exact ⟨ρ1, O1, F, by simpa using r1, t2⟩
end
end Mi
end
section
set_option Elab.async false
set_option linter.all false
set_option maxRecDepth 100000
set_option maxHeartbeats 2000000
/-! S23: statements: loops. -/
namespace Mi
open PySem PySem.Spec PyProof.Rows L2
section
variable {X : Cx} {fx : List (Nat × V)} {XR : XRel} {W : WX} {G : Cfg}
theorem st_while {c : ME} {b : List MS} {e : Expr} {sb : List Stmt} {pos : Pos} (hp : PassesOwn (model X.prog X.w) X.A X.env X.xe) (hc : PM X fx XR W G c e) (hb : PSs X sb (TSs' X.K fx XR W G b)) : PS X (.While e sb [] pos) (TSt X.K fx XR W G (.whl c b)) := by
  refine psImp (ps_while hp hc.t hb) fun D σ H ⟨ρ, O, F, r, t⟩ => ?_
  refine ⟨fun m σ H => ∃ ρ O, R X.K fx σ H ρ O F ∧ Sm X.K fx XR W (wLoop (Mi.evT G c) (Mi.execs G b) m ρ) H O F D, ⟨G.K, ρ, O, r, t⟩, ?_⟩
  rintro m σ H ⟨ρ, O, r, t⟩
  cases m with
  | zero => exact t.elim
  | succ m =>
    have t' : Sm X.K fx XR W ((Mi.evT G c ρ).run fun k ρ => if k then (match Mi.execs G b ρ with
      | .nx ρ => wLoop (Mi.evT G c) (Mi.execs G b) m ρ
      | .ct ρ => wLoop (Mi.evT G c) (Mi.execs G b) m ρ
      | .br ρ => .nx ρ
      | o => o) else .nx ρ) H O F D := t
    refine ⟨ρ, O, F, r, Tm.mono (Sm.run (rel := relB) t') fun k H1 ⟨k', ρ1, O1, T, e1, r1, q1, x1, t1⟩ => ?_⟩
    obtain ⟨rfl, rfl⟩ := q1
    have r1' : R X.K fx σ H1 ρ1 O1 F := by simpa using r1
    have t2 := Sm.shift t1 (O1 := O1) (by simpa using x1)
    cases k with
    | false =>
      rw [if_neg (by decide)] at t2 ⊢
      exact t2 σ H1 O1 r1' (Ext.refl fun _ h => h)
    | true =>
      rw [if_pos rfl] at t2 ⊢
      refine ⟨fun σ' H' => ∃ ρ O, R X.K fx σ' H' ρ O F ∧ Sm X.K fx XR W (wLoop (Mi.evT G c) (Mi.execs G b) m ρ) H' O F D, fun σ' H' h => ⟨m, Nat.lt_succ_self m, h⟩, ρ1, O1, F, r1', ?_⟩
      cases he : Mi.execs G b ρ1 with
      | nx ρ2 => rw [he] at t2; exact fun σ' H' O' r' x => ⟨ρ2, O', r', Sm.shift t2 x⟩
      | ct ρ2 => rw [he] at t2; exact fun σ' H' O' r' x => ⟨ρ2, O', r', Sm.shift t2 x⟩
      | br ρ2 => rw [he] at t2; exact t2
      | rt a ρ2 => rw [he] at t2; exact t2
      | ex c' xs ρ2 => rw [he] at t2; exact t2
      | stuck => rw [he] at t2; exact t2
theorem st_for {p : Pat} {k : Ik} {ms : List ME} {b : List MS} {tg iter : Expr} {sb : List Stmt} {pos : Pos} (hc : X.calm = true) (hp : PassesOwn (model X.prog X.w) X.A X.env X.xe) (hit : PI X tg iter (TIM X fx XR W G k ms)) (hfs : ∀ x, foldedSetIterable iter X.env x = pure x) (hg : PG X tg (TGP X.K p)) (hf : ∀ q ∈ fx, q.1 ∉ pnames p) (hpk : pairK k = true → isTupP p = true)
    (hb : PSs X sb (TSs' X.K fx XR W G b)) : PS X (.For tg iter sb [] pos) (TSt X.K fx XR W G (.for_ p k ms b)) := by
  refine psImp (ps_for hp hc hit hg hb hfs) fun D σ H ⟨ρ, O, F, r, t⟩ => ?_
  have t' : Sm X.K fx XR W ((evo G ms ρ).run fun os ρ => Mi.orStop (valsO ρ os) fun xs => Mi.orStop (Mi.iter k xs) fun items => fLoop (fun x ρ => bindP p (x, 0) ρ) (Mi.execs G b) items (lowerO 0 os ρ)) H O F D := t
  refine ⟨ρ, O, F, r, Tm.mono (Sm.run (rel := relL (relO X.K σ)) t') fun vs H1 ⟨os, ρ1, O1, T, e1, r1, q1, x1, t1⟩ => ?_⟩
  obtain ⟨xs, e2, t1⟩ := Sm.orStop t1
  obtain ⟨items, e3, t1⟩ := Sm.orStop t1
  obtain ⟨O2, s2, r2, low⟩ := R.settle 0 r1 q1 e2
  have src : Src X.K (fun b => b ∈ O2 ++ F) H1 vs xs := Paired.mapP low fun v x h => h.zero
  refine ⟨_, xs, items, src, e3, fun J wm => ?_⟩
  have wk : Walk J items.length (fun H => ∃ L, Src X.K L H vs xs) (fun i H x H' => ∀ L, Src X.K L H vs xs → ∀ Z, items[i]? = some Z →
      (H' = H ∧ Own X.K L H 0 Z x []) ∨ pairK k = true ∧ ∃ p vs' zs, x = .ref p ∧ Z = .tup zs ∧ H p = none ∧ H' = upd H p (.tup vs') ∧ Owns X.K L H 0 zs vs' []) :=
    ⟨fun i H hi ⟨L, s⟩ => (wm L H s).1 i hi, fun H ⟨L, s⟩ => (wm L H s).2.1, fun i H x H' hi _ y L s Z e => (wm L H s).2.2 i x H' y Z e⟩
  refine for_it wk (fun i σ H => ∃ ρ O, R X.K fx σ H ρ O F ∧ Src X.K (fun b => b ∈ O ++ F) H vs xs ∧ Sm X.K fx XR W (fLoop (fun x ρ => bindP p (x, 0) ρ) (Mi.execs G b) (items.drop i) ρ) H O F D)
    ⟨_, O2, r2, src, by rw [List.drop_zero]; exact Sm.shift t1 (x1.sub fun b hb => List.mem_append_left _ (s2.subset hb))⟩ (fun i σ H _ ⟨_, _, _, s, _⟩ => ⟨_, s⟩) (fun i x σ Hc H' hi ⟨ρi, Oi, ri, si, ti⟩ hy => ?_) (fun σ H ⟨ρi, Oi, ri, si, ti⟩ => ?_)
  · have hitem : items[i]? = some (items[i]'hi) := by simp [hi]
    have hdrop : items.drop i = items[i]'hi :: items.drop (i + 1) := List.drop_eq_getElem_cons hi
    generalize items[i]'hi = Z at hitem hdrop
    rw [hdrop] at ti
    obtain ⟨ρ2, hb2, t2⟩ := Sm.orStop (show Sm X.K fx XR W (Mi.orStop (bindP p (Z, 0) ρi) fun ρ => match Mi.execs G b ρ with
      | .nx ρ => fLoop (fun x ρ => bindP p (x, 0) ρ) (Mi.execs G b) (items.drop (i + 1)) ρ
      | .ct ρ => fLoop (fun x ρ => bindP p (x, 0) ρ) (Mi.execs G b) (items.drop (i + 1)) ρ
      | .br ρ => .nx ρ
      | o => o) Hc Oi F D from ti)
    have came : ∃ eY : Ext Oi Hc H' (Oi ++ []), R X.K fx σ H' ρi Oi ([] ++ F) ∧ OwnP X.K (fun b => b ∈ Oi ++ ([] ++ F)) H' p 0 Z x [] := by
      rcases hy _ si Z hitem with ⟨rfl, h⟩ | ⟨hp2, q, vs', zs, rfl, rfl, hq, rfl, h⟩
      · exact ⟨Ext.refl fun b hb => by simpa using hb, by simpa using ri, .inl (by simpa using h)⟩
      · exact ⟨ext_new hq fun b hb => .inl (by simpa using hb), by simpa using ri.newT hq, .inr ⟨hpk hp2, rfl, q, vs', zs, rfl, rfl, SqT.of upd_same, h.stay (stay_new hq fun b hb => .inl (by simpa using hb))⟩⟩
    obtain ⟨eY, rY, oY⟩ := came
    refine ⟨fx, ρi, Oi, F, Z, 0, [], ρ2, rY, oY, hf, hb2, fun σ2 H2 O2' r2' x2 s2' => ⟨ρ2, O2', F, r2', ?_⟩⟩
    have x2' : Ext Oi H' H2 (O2' ++ []) := by simpa using x2
    have eA : Ext Oi Hc H2 O2' := by simpa using eY.trans x2'
    have t3 := Sm.shift t2 eA
    have nextT : ∀ {ρ3 : Rho} {σ' : L2.St} {H3 : Hp} {O3 : List Addr}, R X.K fx σ' H3 ρ3 O3 F → Ext O2' H2 H3 O3 → Sm X.K fx XR W (fLoop (fun x ρ => bindP p (x, 0) ρ) (Mi.execs G b) (items.drop (i + 1)) ρ3) H2 O2' F D →
        ∃ ρ O, R X.K fx σ' H3 ρ O F ∧ Src X.K (fun b => b ∈ O ++ F) H3 vs xs ∧ Sm X.K fx XR W (fLoop (fun x ρ => bindP p (x, 0) ρ) (Mi.execs G b) (items.drop (i + 1)) ρ) H3 O F D := fun {ρ3 σ' H3 O3} r3 x3 t => by
      have eB : Ext Oi Hc H3 (O3 ++ []) := by
        have a : Ext Oi Hc H2 (O2' ++ []) := by simpa using eA
        simpa using a.trans x3
      have st := stay_go (A := []) ri eB (fun b hb => nomatch hb)
      exact ⟨ρ3, O3, r3, si.stay ⟨st.ht, st.hf, st.k, fun b hb nl z => st.n b hb nl (by simpa using z)⟩, Sm.shift t x3⟩
    cases he : Mi.execs G b ρ2 with
    | nx ρ3 => rw [he] at t3; exact fun σ' H3 O3 r3 x3 => nextT r3 x3 t3
    | ct ρ3 => rw [he] at t3; exact fun σ' H3 O3 r3 x3 => nextT r3 x3 t3
    | br ρ3 => rw [he] at t3; exact t3
    | rt a ρ3 => rw [he] at t3; exact t3
    | ex c' xs ρ3 => rw [he] at t3; exact t3
    | stuck => rw [he] at t3; exact t3
  · rw [List.drop_length] at ti
    exact (show Sm X.K fx XR W (.nx ρi) H Oi F D from ti) σ H Oi ri (Ext.refl fun _ h => h)
end
end Mi
end
section
set_option Elab.async false
set_option linter.all false
set_option maxRecDepth 100000
set_option maxHeartbeats 2000000
/-! S24: statements: assignments. -/
namespace Mi
open PySem PySem.Spec PyProof.Rows L2
section
variable {X : Cx} {fx : List (Nat × V)} {XR : XRel} {W : WX} {G : Cfg} {N : List Str} {sc : Scope} {fc : Str → Bool}
/-- the value, then its target -/
theorem asg_red {p : Pat} {m : ME} (hf : ∀ q ∈ fx, q.1 ∉ pnames p) {D : Ends} {σ : L2.St} {H : Hp} (h : TSt X.K fx XR W G (.asg p m) D σ H) : TM X.K fx XR W G m σ H fun v H1 => TGP X.K p v σ H1 D.nx := by
  obtain ⟨ρ, O, F, r, t⟩ := h
  have t' : Sm X.K fx XR W ((Mi.ev G m ρ).run fun a ρ => Mi.orStop (bindP p a ρ) .nx) H O F D := t
  refine ⟨ρ, O, F, r, Tm.mono (Sm.run (rel := relA X.K) t') fun v H1 ⟨a, ρ1, O1, T, e1, r1, q1, x1, t1⟩ => ?_⟩
  obtain ⟨ρ', hb, t2⟩ := Sm.orStop t1
  refine ⟨fx, ρ1, O1, F, a.1, a.2, T, ρ', r1, .inl q1, hf, hb, fun σ' H' O' r' x' _ => t2 σ' H' O' r' ?_⟩
  have x1' : Ext O H H1 ((O1 ++ T) ++ []) := x1.sub fun b hb => by simpa using hb
  exact x1'.trans x'
/-- a name's slot -/
theorem tgp_name {i : Nat} {v : V} {σ : L2.St} {H : Hp} {Q : L2.St → Hp → Prop} (h : TGP X.K (.name i) v σ H Q) : Q (σ.set i (some v)) H := by
  obtain ⟨fx, ρ, O, F, x, d, T, ρ', r, hv, hf, hb, q⟩ := h
  have hv := hv.resolve_right fun z => nomatch z.1
  have hb : (if i < ρ.length then some (ρ.set i (some (x, d))) else none) = some ρ' := hb
  split at hb
  · rename_i hi
    cases hb
    obtain ⟨O', r', sub⟩ := r.put hi hv fun q hq z => hf q hq (by rw [z]; exact List.mem_singleton.mpr rfl)
    exact q _ H O' r' (Ext.refl sub) ⟨by simp, fun j hj => by rw [List.getElem?_set_ne (fun z => hj (by rw [← z]; exact List.mem_singleton.mpr rfl))]⟩
  · cases hb
theorem st_asgN (hX : XOk X N sc) (hF : FcOk X fc) {i : Nat} {x : Str} {m : ME} {e : Expr} {p pos : Pos} (hi : okLoc N sc fc i x = true) (h : PM X fx XR W G m e) (hs : swapsWith e (some (.Name x p)) pos.line X.env = pure false) (hf : ∀ q ∈ fx, q.1 ∉ pnames (.name i)) : PS X (.Assign [.Name x p] e pos) (TSt X.K fx XR W G (.asg (.name i) m)) := by
  obtain ⟨h1, h2, h3⟩ := okLoc_of hX hF hi
  refine psImp (ps_set (by rw [hX.nn]; exact hX.nd) h1 h2 h.v hs h3) fun D σ H t => ?_
  obtain ⟨ρ, O, F, r, q⟩ := asg_red hf t
  exact ⟨ρ, O, F, r, Tm.mono q fun v H1 q1 => tgp_name q1⟩
/-- name = [.. for ..] on one line -/
theorem st_asgLc (hX : XOk X N sc) {i : Nat} {y : Str} {py spos : Pos} (hy : X.N[i]? = some y) (hyl : X.env.scope.names.lookup y = some .local) {own : List Nat} {ownN : List (Str × Nat)} (ho : ownN.map (·.2) = own) {p : Pat} {k : Ik} {ms ifs : List ME} {elt : ME} {tg iter eltE : Expr} {ifsE : List Expr} {scope : Scope} {pos : Pos}
    (hsw : swapsWith (.ListComp eltE [⟨tg, iter, ifsE, 0⟩] scope pos) (some (.Name y py)) spos.line X.env = pure true)
    (hit : PI X tg iter (TIM X fx XR W G k ms)) (hfs : ∀ x, foldedSetIterable iter X.env x = pure x) (hblk : BlkOk X.N X.env.scope scope ownN)
    (hg : ∀ (s : Shared) (H : Hp) (C : Addr) (cl : List (Str × Addr)) (fp : List Addr), PG (X.blk s H scope (compEnvC scope cl C X.env) fp) tg (TGP X.K p))
    (ht : ∀ (s : Shared) (H : Hp) (C : Addr) (cl : List (Str × Addr)) (fp : List Addr), PTs (X.blk s H scope (compEnvC scope cl C X.env) fp) ifsE (TIf X.K [] XR W0 G ifs))
    (he : ∀ (s : Shared) (H : Hp) (C : Addr) (cl : List (Str × Addr)) (fp : List Addr), PE (X.blk s H scope (compEnvC scope cl C X.env) fp) eltE (TM X.K [] XR W0 G elt))
    (hsub : ∀ j ∈ pnames p, j ∈ own) (hpk : pairK k = true → isTupP p = true) (hf : ∀ q ∈ fx, q.1 ∉ pnames (.name i)) : PS X (.Assign [.Name y py] (.ListComp eltE [⟨tg, iter, ifsE, 0⟩] scope pos) spos) (TSt X.K fx XR W G (.asg (.name i) (.lc own p k ms ifs elt))) := by
  have pl := ps_setLc hX.calm (by rw [hX.nn]; exact hX.nd) hy hyl hsw hit hblk hg ht he hfs
  rw [ho] at pl
  refine psImp pl fun D σ H t => lc_red hsub hpk ?_
  obtain ⟨ρ, O, F, r, q⟩ := asg_red hf t
  exact ⟨ρ, O, F, r, Tm.mono q fun v H1 q1 => tgp_name q1⟩
/-- any one target -/
theorem st_asgP (hX : XOk X N sc) (hF : FcOk X fc) {p : Pat} {m : ME} {tg e : Expr} {pos : Pos} (hp : okP N sc fc p tg = true) (h : PM X fx XR W G m e) (hs : swapsWithSole [tg] e pos.line X.env = pure false) (hw : swappedStores [tg] e X.env = pure none) (hf : ∀ q ∈ fx, q.1 ∉ pnames p) : PS X (.Assign [tg] e pos) (TSt X.K fx XR W G (.asg p m)) := by
  refine psImp (ps_asg h.v (pg_pat hX hF p tg hp) hs hw (by rw [each_cons (okP_star hp)]; rfl)) fun D σ H t => ?_
  obtain ⟨ρ, O, F, r, q⟩ := asg_red hf t
  exact ⟨ρ, O, F, r, q⟩
end
end Mi
end
section
set_option maxRecDepth 100000
namespace Mi
open PySem
def swB (sc : Scope) : Expr → Expr → Bool
  | .ListComp e g s p, .Name t pos => sc.names.lookup t == some .local && pos.line == (Expr.ListComp e g s p).pos.line && !(s.names.any fun (n, k) => n == t && (k == .local || k == .cell))
  | _, _ => false
def plainV : Expr → Bool
  | .SetComp .. => false
  | .DictComp .. => false
  | _ => true
theorem sw_eq {env : Env} {sc : Scope} (hs : env.scope = sc) (hk : sc.kind = .function) {v tg : Expr} (hp : plainV v = true) {line : Nat} : swapsWith v (some tg) line env = pure (swB sc v tg) := by
  have hb : env.blockKind = .function := by unfold Env.blockKind; rw [hs, hk]; rfl
  cases v <;> first | rfl | (cases hp; done) | skip
  cases tg <;> first | rfl | skip
  show (pure (env.blockKind == .function && _ && _ && _) : Sem Bool) = _
  rw [hb]
  unfold Env.kindOf swB
  rw [hs]
  rfl
def swNames (sc : Scope) (ts : List Expr) : List Str := 
  let line := (ts.head?.map (·.pos.line)).getD 0
  ts.filterMap fun
    | .Name id pos => if sc.names.lookup id == some .local && pos.line == line then some id else none
    | _ => none
def swGen (sc : Scope) (ts vs : List Expr) : Bool :=
  (!(ts.length == 2 || ts.length == 3) || vs.length != ts.length) || (vs.any fun | .Starred .. => true | _ => false) || ((swNames sc ts).length != ts.length || (swNames sc ts).eraseDups.length != (swNames sc ts).length) || vs.all (foldedForSure 8)
def swSome (sc : Scope) (ts vs : List Expr) : Bool :=
  (ts.length == 2 || ts.length == 3) && vs.length == ts.length && !(vs.any fun | .Starred .. => true | _ => false) && ((swNames sc ts).length == ts.length && (swNames sc ts).eraseDups.length == (swNames sc ts).length) && !vs.all (foldedForSure 8) && !vs.all (constantsAlone 8)
theorem swS_eq {env : Env} {sc : Scope} (hs : env.scope = sc) (hk : sc.kind = .function) {ts vs : List Expr} {k : Nat} {p p2 : Pos} {k2 : Nat} : swappedStores [.Tuple ts k p] (.Tuple vs k2 p2) env =
   if (!(ts.length == 2 || ts.length == 3) || vs.length != ts.length) then pure none else 
   if (vs.any fun | .Starred .. => true | _ => false) then pure none else
   if ((swNames sc ts).length != ts.length || (swNames sc ts).eraseDups.length != (swNames sc ts).length) then pure none else
   if vs.all (foldedForSure 8) then pure none else
   if vs.all (constantsAlone 8) then (do unsupported "assign.tuple-of-constant-expressions:order-of-the-stores"; pure (some (swNames sc ts))) else pure (some (swNames sc ts)) := by
  have hb : env.blockKind = .function := by unfold Env.blockKind; rw [hs, hk]; rfl
  unfold swappedStores swNames
  dsimp only
  rw [hb]
  unfold Env.kindOf
  rw [hs]
  simp only [bne_self_eq_false, Bool.or_false]
  rfl
theorem sw_none {env : Env} {sc : Scope} (hs : env.scope = sc) (hk : sc.kind = .function) {ts vs : List Expr} {k : Nat} {p p2 : Pos} {k2 : Nat} (h : swGen sc ts vs = true) : swappedStores [.Tuple ts k p] (.Tuple vs k2 p2) env = pure none := by
  rw [swS_eq hs hk]
  unfold swGen at h
  simp only [Bool.or_eq_true] at h
  rcases h with ((h | h) | h) | h
  · rw [if_pos (by simpa using h)]
  · split
    · rfl
    · first | rfl | (rw [if_pos h])
  · split
    · rfl
    · split
      · rfl
      · rw [if_pos (by simpa using h)]
  · split
    · rfl
    · split
      · rfl
      · split
        · rfl
        · first | rfl | (rw [if_pos h])
theorem sw_some {env : Env} {sc : Scope} (hs : env.scope = sc) (hk : sc.kind = .function) {ts vs : List Expr} {k : Nat} {p p2 : Pos} {k2 : Nat} (h : swSome sc ts vs = true) : swappedStores [.Tuple ts k p] (.Tuple vs k2 p2) env = pure (some (swNames sc ts)) := by
  rw [swS_eq hs hk]
  unfold swSome at h
  simp only [Bool.and_eq_true, Bool.not_eq_true', bne_iff_ne, beq_iff_eq, Bool.or_eq_true] at h
  obtain ⟨⟨⟨⟨⟨h1, h2⟩, h3⟩, h4, h5⟩, h6⟩, h7⟩ := h
  rw [if_neg (by rcases h1 with h1 | h1 <;> simp [h1, h2]), if_neg (by rw [h3]; decide), if_neg (by simp [h4, h5]), if_neg (by rw [h6]; decide), if_neg (by rw [h7]; decide)]
end Mi
end
section
set_option Elab.async false
set_option linter.all false
set_option maxRecDepth 100000
set_option maxHeartbeats 2000000
/-! S24b: several targets at once. -/
namespace Mi
open PySem PySem.Spec PyProof.Rows L2
/-- several targets, values that wait -/
def TGA (K : PySem.W.Frag) (ps : List Pat) : TGs := fun vs σ H Q => ∃ fx ρ O F as T ρ', R K fx σ H ρ O (T ++ F) ∧ relL (relA K) (fun b => b ∈ O ++ (T ++ F)) H as vs T ∧ (∀ q ∈ fx, q.1 ∉ pnamess ps) ∧ bindAs ps as ρ = some ρ' ∧
  ∀ σ' H' O', R K fx σ' H' ρ' O' F → Ext (O ++ T) H H' O' → Q σ' H'
theorem bindAs_len : ∀ {ps : List Pat} {xs : List Arg} {ρ ρ' : Rho}, bindAs ps xs ρ = some ρ' → xs.length = ps.length
  | [], [], _, _, _ => rfl
  | p :: ps, x :: xs, ρ, ρ', h => by
    obtain ⟨ρ1, h1, h2⟩ := Option.bind_eq_some_iff.mp (show (bindP p x ρ).bind (fun ρ => bindAs ps xs ρ) = some ρ' from h)
    rw [List.length_cons, List.length_cons, bindAs_len h2]
  | [], _ :: _, _, _, h => by cases h
  | _ :: _, [], _, _, h => by cases h
section
variable {X : Cx} {N : List Str} {sc : Scope} {fc : Str → Bool}
theorem pgs_as (hX : XOk X N sc) (hF : FcOk X fc) : ∀ (ps : List Pat) (es : List Expr), okPs N sc fc ps es = true → PGs X es (TGA X.K ps)
  | [], [], _ => pgsImp pgs_nil fun vs σ H Q ⟨fx, ρ, O, F, as, T, ρ', r, hv, hf, hb, q⟩ => by
    cases as with
    | nil =>
      cases hb
      obtain ⟨rfl, rfl⟩ := hv
      exact ⟨rfl, q σ H O r (Ext.refl fun b hb => by simpa using hb)⟩
    | cons a b => cases hb
  | p :: ps, e :: es, h => by
    obtain ⟨h1, h2⟩ := band (show (okP N sc fc p e && okPs N sc fc ps es) = true from h)
    refine pgsImp (pgs_cons (pg_pat hX hF p e h1) (pgs_as hX hF ps es h2) (by rw [each_cons (okP_star h1)]; rfl)) fun vs σ H Q ⟨fx, ρ, O, F, as, T, ρ', r, hv, hf, hb, q⟩ => ?_
    cases as with
    | nil => cases hb
    | cons a as =>
      obtain ⟨ρ1, e1, e2⟩ := Option.bind_eq_some_iff.mp (show (bindP p a ρ).bind (fun ρ => bindAs ps as ρ) = some ρ' from hb)
      obtain ⟨v, vr, T1, T2, rfl, rfl, o1, o2⟩ := hv
      rw [List.append_assoc] at r o1 o2
      refine ⟨v, vr, rfl, fx, ρ, O, T2 ++ F, a.1, a.2, T1, ρ1, r, .inl o1, fun q hq z => hf q hq (List.mem_append_left _ z), e1, fun σ1 H1 O1 r1 x1 s1 => ?_⟩
      have nd : (O ++ T1 ++ (T2 ++ F)).Nodup := by rw [List.append_assoc]; exact r.nd
      have st := Stay.ext (ρ := ρ) (T1 := T2) (T2 := []) (O2 := O1) nd (by simpa using x1) (fun b hb => List.mem_append_left _ hb)
      refine ⟨fx, ρ1, O1, F, as, T2, ρ', r1, (relL_ok relA_ok).stay _ _ _ _ _ _ _ o2 ⟨st.ht, st.hf, fun b o eb hb => st.k b o eb (hb.imp id fun nb z => nb (by simpa using z)), fun b hb nl z => st.n b hb (fun z => nl (by simpa using z)) (by simpa using z)⟩, fun q hq z => hf q hq (List.mem_append_right _ z), e2, fun σ2 H2 O2 r2 x2 => ?_⟩
      refine q σ2 H2 O2 r2 ⟨fun b o eb nb => ?_, fun b hb => ?_, fun b hb => x2.dom b (x1.dom b hb), fun b u eb => x2.tups b u (x1.tups b u eb), fun b o u eb => x2.frzs b o u (x1.frzs b o u eb)⟩
      · have n1 : b ∉ O ++ T1 := fun z => nb (by simp only [List.mem_append] at z ⊢; exact z.imp id .inl)
        refine x2.keep b o (x1.keep b o eb n1) fun z => ?_
        rcases List.mem_append.mp z with z | z
        · rcases x1.new b z with w | w
          · exact n1 w
          · rw [w] at eb; cases eb
        · exact nb (by simp [z])
      · rcases x2.new b hb with z | z
        · rcases List.mem_append.mp z with z | z
          · exact (x1.new b z).imp (fun w => by simp only [List.mem_append] at w ⊢; exact w.imp id .inl) id
          · exact .inl (by simp [z])
        · right
          by_cases w : H b = none
          · exact w
          · exact absurd z (x1.dom b w)
  | [], _ :: _, h => by cases h
  | _ :: _, [], h => by cases h
end
section
variable {X : Cx} {fx : List (Nat × V)} {XR : XRel} {W : WX} {G : Cfg} {N : List Str} {sc : Scope} {fc : Str → Bool}
theorem st_asgs (hX : XOk X N sc) (hF : FcOk X fc) {ps : List Pat} {ms : List ME} {tgs es : List Expr} {kt ke : Nat} {pt pe pos : Pos} (hp : okPs N sc fc ps tgs = true) (h : PMs X fx XR W G ms es) (hs : es.all noStar = true) (hl : ms.length ≤ sizeLine)
    (hw : swappedStores [.Tuple tgs kt pt] (.Tuple es ke pe) X.env = pure none) (hf : ∀ q ∈ fx, q.1 ∉ pnamess ps) : PS X (.Assign [.Tuple tgs kt pt] (.Tuple es ke pe) pos) (TSt X.K fx XR W G (.asgs ps ms)) := by
  obtain ⟨k1, k2⟩ := okPs_each (env := X.env) hp
  refine psImp (ps_asg (pe_tup (pm_pa_v h hs)) (pg_tup (n := ps.length) hX.calm (pgs_as hX hF ps tgs hp) k1 k2) rfl hw rfl) fun D σ H ⟨ρ, O, F, r, t⟩ => ?_
  have t' : Sm X.K fx XR W ((evs G ms ρ).run fun as ρ => Mi.orStop (bindAs ps as ρ) .nx) H O F D := t
  refine ⟨ρ, O, F, r, pm_tup.lens (Sm.run (rel := relL (relA X.K)) t') fun vs H1 hlen ⟨as, ρ1, O1, T, e1, r1, q1, x1, t1⟩ => ⟨by rw [hlen]; exact hl, fun p np => ?_⟩⟩
  obtain ⟨ρ', hb, t2⟩ := Sm.orStop t1
  refine ⟨p, vs, rfl, SqT.of upd_same, ?_, fx, ρ1, O1, F, as, T, ρ', r1.newT np, (relL_ok relA_ok).stay _ _ _ _ _ _ _ q1 (stay_new np fun b hb => .inl hb), hf, hb, fun σ' H' O' r' x' => ?_⟩
  · exact (relL_len q1).trans (bindAs_len hb)
  · have e2 : Ext O H (upd H1 p (.tup vs)) ((O1 ++ T) ++ []) := x1.plus np fun b hb => .inl (by simpa using hb)
    exact t2 σ' H' O' r' (e2.trans (by simpa using x'))
/-- names put at once -/
def setAll : L2.St → List Nat → List V → L2.St
  | σ, i :: is, v :: vs => setAll (σ.set i (some v)) is vs
  | σ, _, _ => σ
theorem puts {K : PySem.W.Frag} {H : Hp} {F : List Addr} : ∀ {is : List Nat} {as : List Arg} {vs : List V} {σ : L2.St} {ρ ρ' : Rho} {O T : List Addr}, R K fx σ H ρ O (T ++ F) → relL (relA K) (fun b => b ∈ O ++ (T ++ F)) H as vs T → bindAs (is.map Pat.name) as ρ = some ρ' → (∀ q ∈ fx, q.1 ∉ is) →
    ∃ O', R K fx (setAll σ is vs) H ρ' O' F ∧ ∀ b ∈ O', b ∈ O ++ T
  | [], [], vs, σ, ρ, ρ', O, T, r, hv, hb, hf => by
    obtain ⟨rfl, rfl⟩ := hv
    cases hb
    exact ⟨O, r, fun b hb => by simpa using hb⟩
  | i :: is, a :: as, vs, σ, ρ, ρ', O, T, r, hv, hb, hf => by
    obtain ⟨v, vr, T1, T2, rfl, rfl, o1, o2⟩ := hv
    rw [List.append_assoc] at r o1 o2
    obtain ⟨ρ1, e1, e2⟩ := Option.bind_eq_some_iff.mp (show (bindP (.name i) a ρ).bind (fun ρ => bindAs (is.map Pat.name) as ρ) = some ρ' from hb)
    have e1 : (if i < ρ.length then some (ρ.set i (some a)) else none) = some ρ1 := e1
    split at e1
    · rename_i hi
      cases e1
      have o1 : Own K (fun b => b ∈ O ++ (T1 ++ (T2 ++ F))) H a.2 a.1 v T1 := o1
      obtain ⟨O1, r1, s1⟩ := r.put hi o1 fun q hq z => hf q hq (by rw [z]; exact List.mem_cons_self)
      obtain ⟨O2, r2, s2⟩ := puts r1 (rel_mem (relL_ok relA_ok) o2 fun c z => by
        simp only [List.mem_append] at z ⊢
        rcases z with z | z | z
        · have := s1 c z
          simp only [List.mem_append] at this
          exact this.imp id .inl
        · exact .inr (.inr (.inl z))
        · exact .inr (.inr (.inr z))) e2 fun q hq z => hf q hq (List.mem_cons_of_mem _ z)
      refine ⟨O2, r2, fun b hb => ?_⟩
      have := s2 b hb
      simp only [List.mem_append] at this ⊢
      rcases this with z | z
      · have := s1 b z
        simp only [List.mem_append] at this
        exact this.imp id .inl
      · exact .inr (.inr z)
    · cases e1
  | [], _ :: _, _, _, _, _, _, _, _, _, hb, _ => by cases hb
  | _ :: _, [], _, _, _, _, _, _, _, _, hb, _ => by cases hb
theorem par_red {is : List Nat} {ms : List ME} (hf : ∀ q ∈ fx, q.1 ∉ is) {D : Ends} {σ : L2.St} {H : Hp} (h : TSt X.K fx XR W G (.asgs (is.map Pat.name) ms) D σ H) : TMs X.K fx XR W G ms σ H fun vs H1 => vs.length = is.length ∧ D.nx (setAll σ is vs) H1 := by
  obtain ⟨ρ, O, F, r, t⟩ := h
  have t' : Sm X.K fx XR W ((evs G ms ρ).run fun as ρ => Mi.orStop (bindAs (is.map Pat.name) as ρ) .nx) H O F D := t
  refine ⟨ρ, O, F, r, Tm.mono (Sm.run (rel := relL (relA X.K)) t') fun vs H1 ⟨as, ρ1, O1, T, e1, r1, q1, x1, t1⟩ => ?_⟩
  obtain ⟨ρ', hb, t2⟩ := Sm.orStop t1
  obtain ⟨O2, r2, s2⟩ := puts r1 q1 hb hf
  refine ⟨?_, t2 _ H1 O2 r2 (x1.sub s2)⟩
  have := (relL_len q1).trans (bindAs_len hb)
  simpa using this
theorem st_par2 (hX : XOk X N sc) {i j : Nat} {x y : Str} {ms : List ME} {a b : Expr} {px py pt pe pos : Pos} {kt ke : Nat} (hi : N[i]? = some x) (hj : N[j]? = some y) (hij : i ≠ j) (hx : sc.names.lookup x = some .local) (hy : sc.names.lookup y = some .local)
    (h : PMs X fx XR W G ms [a, b]) (hs : [a, b].all noStar = true) (hw : swappedStores [.Tuple [.Name x px, .Name y py] kt pt] (.Tuple [a, b] ke pe) X.env = pure (some [x, y])) (hf : ∀ q ∈ fx, q.1 ∉ [i, j]) :
    PS X (.Assign [.Tuple [.Name x px, .Name y py] kt pt] (.Tuple [a, b] ke pe) pos) (TSt X.K fx XR W G (.asgs [.name i, .name j] ms)) := by
  refine psImp (ps_par hX.calm (by rw [hX.nn]; exact hX.nd) (by rw [hX.nn]; exact hi) (by rw [hX.nn]; exact hj) hij (by rw [hX.sc]; exact hx) (by rw [hX.sc]; exact hy) (pm_pa_v h hs) hw) fun D σ H t => ?_
  obtain ⟨ρ, O, F, r, q⟩ := par_red (is := [i, j]) hf t
  refine ⟨ρ, O, F, r, Tm.mono q fun vs H1 ⟨hl, q1⟩ => ?_⟩
  match vs, hl with
  | [v, w], _ => exact ⟨v, w, rfl, q1⟩
theorem st_par3 (hX : XOk X N sc) {i j l : Nat} {x y z : Str} {ms : List ME} {a b c : Expr} {px py pz pt pe pos : Pos} {kt ke : Nat} (hi : N[i]? = some x) (hj : N[j]? = some y) (hk : N[l]? = some z) (hij : i ≠ j) (hil : i ≠ l) (hjl : j ≠ l)
    (hx : sc.names.lookup x = some .local) (hy : sc.names.lookup y = some .local) (hz : sc.names.lookup z = some .local)
    (h : PMs X fx XR W G ms [a, b, c]) (hs : [a, b, c].all noStar = true) (hw : swappedStores [.Tuple [.Name x px, .Name y py, .Name z pz] kt pt] (.Tuple [a, b, c] ke pe) X.env = pure (some [x, y, z])) (hf : ∀ q ∈ fx, q.1 ∉ [i, j, l]) :
    PS X (.Assign [.Tuple [.Name x px, .Name y py, .Name z pz] kt pt] (.Tuple [a, b, c] ke pe) pos) (TSt X.K fx XR W G (.asgs [.name i, .name j, .name l] ms)) := by
  refine psImp (ps_par3 hX.calm (by rw [hX.nn]; exact hX.nd) (by rw [hX.nn]; exact hi) (by rw [hX.nn]; exact hj) (by rw [hX.nn]; exact hk) hij hil hjl (by rw [hX.sc]; exact hx) (by rw [hX.sc]; exact hy) (by rw [hX.sc]; exact hz) (pm_pa_v h hs) hw) fun D σ H t => ?_
  obtain ⟨ρ, O, F, r, q⟩ := par_red (is := [i, j, l]) hf t
  refine ⟨ρ, O, F, r, Tm.mono q fun vs H1 ⟨hl, q1⟩ => ?_⟩
  match vs, hl with
  | [v, w, u], _ => exact ⟨v, w, u, rfl, q1⟩
end
end Mi
end
section
set_option Elab.async false
set_option linter.all false
set_option maxRecDepth 100000
set_option maxHeartbeats 2000000
/-! S25: every statement that the check lets through. -/
namespace Mi
open PySem PySem.Spec PyProof.Rows L2
def isLC : Expr → Bool
  | .ListComp .. => true
  | _ => false
def isTL : Expr → Bool
  | .Tuple .. => true
  | .List .. => true
  | _ => false
/-- slots that keep their value -/
def freeB (fxs ns : List Nat) : Bool := fxs.all fun i => !ns.contains i
def nameAt (N : List Str) (sc : Scope) (i : Nat) (x : Str) : Bool := (match N[i]? with | some y => decide (y = x) | none => false) && (match sc.names.lookup x with | some .local => true | _ => false)
def okPar (N : List Str) (sc : Scope) (ps : List Pat) (tgs vs : List Expr) : Bool := swSome sc tgs vs && (match ps, tgs with
  | [.name i, .name j], [.Name x _, .Name y _] => nameAt N sc i x && nameAt N sc j y && decide (i ≠ j) && decide (swNames sc tgs = [x, y])
  | [.name i, .name j, .name l], [.Name x _, .Name y _, .Name z _] => nameAt N sc i x && nameAt N sc j y && nameAt N sc l z && decide (i ≠ j) && decide (i ≠ l) && decide (j ≠ l) && decide (swNames sc tgs = [x, y, z])
  | _, _ => false)
mutual
/-- whether a mini statement is what Python's tree says; fxs: the slots that are never bound anew -/
def okM (N : List Str) (fs : List (Str × Nat)) (fxs : List Nat) (sc : Scope) : MS → Stmt → Bool
  | .asg p e, st => (match st with
    | .Assign [tg] v _ => okE N fs e sc v && okP N sc (fun _ => true) p tg && freeB fxs (pnames p) && plainV v && !(isTL tg && isTL v) && (if swB sc v tg then (match p, tg, e with
        | .name i, .Name y _, .lc _ _ _ _ _ _ => nameAt N sc i y
        | _, _, _ => false) else true)
    | _ => false)
  | .asgs ps es, st => (match st with
    | .Assign [.Tuple tgs _ _] (.Tuple vs _ _) _ => okEs N fs es sc vs && vs.all noStar && decide (es.length ≤ 1000) && freeB fxs (pnamess ps) && ((swGen sc tgs vs && okPs N sc (fun _ => true) ps tgs) || okPar N sc ps tgs vs)
    | _ => false)
  | .aug _ _ _, _ => false
  | .augp _ _ _ _, _ => false
  | .ex e, st => (match st with
    | .Expr v _ => okE N fs e sc v && plainV v && !isLC v
    | _ => false)
  | .ifs t a b, st => (match st with
    | .If c sa sb _ => okE N fs t sc c && okMs N fs fxs sc a sa && okMs N fs fxs sc b sb
    | _ => false)
  | .whl t b, st => (match st with
    | .While c sb [] _ => okE N fs t sc c && okMs N fs fxs sc b sb
    | _ => false)
  | .for_ p k es b, st => (match st with
    | .For tg iter sb [] _ => ckIt sc k tg (okEs N fs es sc) iter && okP N sc (fun _ => true) p tg && freeB fxs (pnames p) && okMs N fs fxs sc b sb
    | _ => false)
  | .ret e, st => (match st with
    | .Return (some v) _ => okE N fs e sc v
    | _ => false)
  | .retv i, st => (match st with
    | .Return (some v) _ => ckVar N sc i v && freeB fxs [i]
    | _ => false)
  | .retN, st => (match st with
    | .Return none _ => true
    | _ => false)
  | .raise _ _, _ => false
  | .try_ _ _ _ _, _ => false
  | .brk, st => (match st with
    | .Break _ => true
    | _ => false)
  | .cont, st => (match st with
    | .Continue _ => true
    | _ => false)
  | .pass, st => (match st with
    | .Pass _ => true
    | _ => false)
  | .no, _ => true
def okMs (N : List Str) (fs : List (Str × Nat)) (fxs : List Nat) (sc : Scope) : List MS → List Stmt → Bool
  | [], st => st.isEmpty
  | m :: ms, st => (match st with
    | s :: ss => okM N fs fxs sc m s && okMs N fs fxs sc ms ss
    | [] => false)
end
/-- a body's place -/
structure SOk (X : Cx) (sc : Scope) : Prop where
  kind : sc.kind = .function
  fn : ∀ x, X.fn x = true
  pass : PassesOwn (model X.prog X.w) X.A X.env X.xe
section
variable {X : Cx} {fx : List (Nat × V)} {XR : XRel} {W : WX} {G : Cfg} {fs : List (Str × Nat)} {CX : CXT} {k : Nat} {N : List Str} {sc : Scope}
theorem free_of {ns : List Nat} (h : freeB (fx.map (·.1)) ns = true) : ∀ q ∈ fx, q.1 ∉ ns := fun q hq => by
  unfold freeB at h
  rw [List.all_eq_true] at h
  have := h q.1 (List.mem_map_of_mem hq)
  simpa using this
theorem sw_one {env : Env} {tg v : Expr} (h : (!(isTL tg && isTL v)) = true) : swappedStores [tg] v env = pure none := by
  cases tg <;> cases v <;> first | rfl | (cases h; done)
theorem nameAt_of {i : Nat} {x : Str} (h : nameAt N sc i x = true) : N[i]? = some x ∧ sc.names.lookup x = some .local := by
  obtain ⟨h1, h2⟩ := band h
  refine ⟨?_, ?_⟩
  · split at h1
    · rename_i y hy; rw [hy]; simpa using h1
    · cases h1
  · split at h2 <;> first | assumption | cases h2
theorem sw_expr {env : Env} {v : Expr} {line : Nat} (h : plainV v = true) (h2 : (!isLC v) = true) : swapsWith v none line env = pure false := by
  cases v <;> first | rfl | (cases h; done) | (cases h2; done)
mutual
theorem st_all (hX : XOk X N sc) (hE : EOk X XR W G fs CX k) (hS : SOk X sc) : ∀ (m : MS) (st : Stmt), okM N fs (fx.map (·.1)) sc m st = true → PS X st (TSt X.K fx XR W G m)
  | .asg p e, st, h => by
    unfold okM at h
    split at h
    · rename_i tg v pos
      obtain ⟨h, h6⟩ := band h
      obtain ⟨h, h5⟩ := band h
      obtain ⟨h, h4⟩ := band h
      obtain ⟨h, h3⟩ := band h
      obtain ⟨h1, h2⟩ := band h
      have hsw := sw_eq (line := pos.line) hX.sc hS.kind (v := v) (tg := tg) h4
      by_cases hb : swB sc v tg = true
      · rw [if_pos hb] at h6
        split at h6
        · rename_i i y py own p' k' es ifs m _ _ _ _
          obtain ⟨n1, n2⟩ := nameAt_of h6
          unfold okE at h1
          split at h1
          · rename_i eltE tg' iter ifsE scope pos' _ _ _ _
            obtain ⟨h1, g7⟩ := band h1
            obtain ⟨h1, g6⟩ := band h1
            obtain ⟨h1, g5⟩ := band h1
            obtain ⟨h1, g4⟩ := band h1
            obtain ⟨h1, g3⟩ := band h1
            obtain ⟨g1, g2⟩ := band h1
            obtain ⟨hi1, hi2⟩ := pm_it hX (fun xs hx => pms_all es fx hX hE xs hx) g1
            rw [hb] at hsw
            exact st_asgLc hX (by rw [hX.nn]; exact n1) (by rw [hX.sc]; exact n2) (own_back (N := N)) hsw hi1 hi2 (by rw [hX.nn, hX.sc]; exact blkOk_by g2) (fun s H C cl fp => pg_pat (hX.blk s H C cl fp) ⟨fun x hx => hx⟩ p' tg' g3)
              (fun s H C cl fp => pts_of (pms_all ifs [] (hX.blk s H C cl fp) (hE.blk s H C cl fp) ifsE g5) (of_decide_eq_true g6)) (fun s H C cl fp => (pm_all m [] (hX.blk s H C cl fp) (hE.blk s H C cl fp) eltE g7).v) (subB_of g4) (pair_pat g1 g3) (free_of h3)
          · cases h1
        · cases h6
      · have hb : swB sc v tg = false := by simpa using hb
        rw [hb] at hsw
        exact st_asgP hX ⟨fun x _ => hS.fn x⟩ h2 (pm_all e fx hX hE v h1) hsw (sw_one h5) (free_of h3)
    · cases h
  | .asgs ps es, st, h => by
    unfold okM at h
    split at h
    · rename_i tgs kt pt vs ke pe pos
      obtain ⟨h, h5⟩ := band h
      obtain ⟨h, h4⟩ := band h
      obtain ⟨h, h3⟩ := band h
      obtain ⟨h1, h2⟩ := band h
      rcases (Bool.or_eq_true _ _).mp h5 with h5 | h5
      · obtain ⟨g1, g2⟩ := band h5
        exact st_asgs hX ⟨fun x _ => hS.fn x⟩ g2 (pms_all es fx hX hE vs h1) h2 (le_line (of_decide_eq_true h3)) (sw_none hX.sc hS.kind g1) (free_of h4)
      · obtain ⟨g1, g2⟩ := band h5
        have sw : ∀ (kt ke : Nat) (pt pe : Pos), swappedStores [.Tuple tgs kt pt] (.Tuple vs ke pe) X.env = pure (some (swNames sc tgs)) := fun kt ke pt pe => sw_some hX.sc hS.kind g1
        split at g2
        · rename_i i j x px y py _ _
          obtain ⟨g2, g6⟩ := band g2
          obtain ⟨g2, g5⟩ := band g2
          obtain ⟨g3, g4⟩ := band g2
          obtain ⟨n1, n2⟩ := nameAt_of g3
          obtain ⟨n3, n4⟩ := nameAt_of g4
          rw [of_decide_eq_true g6] at sw
          have pm := pms_all es fx hX hE vs h1
          have hlen : vs.length = 2 := by
            unfold swSome at g1
            simp only [Bool.and_eq_true, beq_iff_eq] at g1
            exact g1.1.1.1.1.2
          match vs, hlen, pm, h2, sw with
          | [a, b], _, pm, h2, sw => exact st_par2 hX n1 n3 (of_decide_eq_true g5) n2 n4 pm h2 (sw _ _ _ _) (free_of h4)
        · rename_i i j l x px y py z pz _ _
          obtain ⟨g2, g9⟩ := band g2
          obtain ⟨g2, g8⟩ := band g2
          obtain ⟨g2, g7⟩ := band g2
          obtain ⟨g2, g6⟩ := band g2
          obtain ⟨g2, g5⟩ := band g2
          obtain ⟨g3, g4⟩ := band g2
          obtain ⟨n1, n2⟩ := nameAt_of g3
          obtain ⟨n3, n4⟩ := nameAt_of g4
          obtain ⟨n5, n6⟩ := nameAt_of g5
          rw [of_decide_eq_true g9] at sw
          have pm := pms_all es fx hX hE vs h1
          have hlen : vs.length = 3 := by
            unfold swSome at g1
            simp only [Bool.and_eq_true, beq_iff_eq] at g1
            exact g1.1.1.1.1.2
          match vs, hlen, pm, h2, sw with
          | [a, b, c], _, pm, h2, sw => exact st_par3 hX n1 n3 n5 (of_decide_eq_true g6) (of_decide_eq_true g7) (of_decide_eq_true g8) n2 n4 n6 pm h2 (sw _ _ _ _) (free_of h4)
        · cases g2
    · cases h
  | .aug _ _ _, st, h => by unfold okM at h; cases h
  | .augp _ _ _ _, st, h => by unfold okM at h; cases h
  | .ex e, st, h => by
    unfold okM at h
    split at h
    · obtain ⟨h, h3⟩ := band h
      obtain ⟨h1, h2⟩ := band h
      exact st_ex (pm_all e fx hX hE _ h1) (sw_expr h2 h3)
    · cases h
  | .ifs t a b, st, h => by
    unfold okM at h
    split at h
    · obtain ⟨h, h3⟩ := band h
      obtain ⟨h1, h2⟩ := band h
      exact st_if (pm_all t fx hX hE _ h1) (sts_all hX hE hS a _ h2) (sts_all hX hE hS b _ h3)
    · cases h
  | .whl t b, st, h => by
    unfold okM at h
    split at h
    · obtain ⟨h1, h2⟩ := band h
      exact st_while hS.pass (pm_all t fx hX hE _ h1) (sts_all hX hE hS b _ h2)
    · cases h
  | .for_ p q es b, st, h => by
    unfold okM at h
    split at h
    · obtain ⟨h, h4⟩ := band h
      obtain ⟨h, h3⟩ := band h
      obtain ⟨h1, h2⟩ := band h
      obtain ⟨hi1, hi2⟩ := pm_it hX (fun xs hx => pms_all es fx hX hE xs hx) h1
      exact st_for hX.calm hS.pass hi1 hi2 (pg_pat hX ⟨fun x _ => hS.fn x⟩ p _ h2) (free_of h3) (pair_pat h1 h2) (sts_all hX hE hS b _ h4)
    · cases h
  | .ret e, st, h => by
    unfold okM at h
    split at h
    · exact st_ret (pm_all e fx hX hE _ h)
    · cases h
  | .retv i, st, h => by
    unfold okM at h
    split at h
    · obtain ⟨h1, h2⟩ := band h
      exact st_retv hX h1 fun q hq z => free_of h2 q hq (by rw [z]; exact List.mem_singleton.mpr rfl)
    · cases h
  | .retN, st, h => by
    unfold okM at h
    split at h
    · exact st_retN
    · cases h
  | .raise _ _, st, h => by unfold okM at h; cases h
  | .try_ _ _ _ _, st, h => by unfold okM at h; cases h
  | .brk, st, h => by
    unfold okM at h
    split at h
    · exact st_brk
    · cases h
  | .cont, st, h => by
    unfold okM at h
    split at h
    · exact st_cont
    · cases h
  | .pass, st, h => by
    unfold okM at h
    split at h
    · exact st_pass
    · cases h
  | .no, st, h => ⟨fun pins s σ H D I ⟨ρ, O, F, r, t⟩ => (show False from t).elim⟩
theorem sts_all (hX : XOk X N sc) (hE : EOk X XR W G fs CX k) (hS : SOk X sc) : ∀ (ms : List MS) (sts : List Stmt), okMs N fs (fx.map (·.1)) sc ms sts = true → PSs X sts (TSs' X.K fx XR W G ms)
  | [], sts, h => by
    cases sts with
    | nil => exact ss_nil
    | cons a b => cases h
  | m :: ms, sts, h => by
    cases sts with
    | nil => cases h
    | cons a b =>
      obtain ⟨h1, h2⟩ := band (show (okM N fs (fx.map (·.1)) sc m a && okMs N fs (fx.map (·.1)) sc ms b) = true from h)
      exact ss_cons (st_all hX hE hS m a h1) (sts_all hX hE hS ms b h2)
end
end
end Mi
end
section
set_option maxRecDepth 100000
namespace Mi
open PySem
theorem look_zip : ∀ {ps : List Str} {us : List Value}, us.length = ps.length → ∀ n ∈ ps, ((ps.zip us).lookup n).isSome = true
  | p :: ps, u :: us, h, n, hn => by
    rw [List.zip_cons_cons, List.lookup_cons]
    by_cases e : n == p
    · rw [e]; rfl
    · have e' : (n == p) = false := by simpa using e
      rw [e']
      rcases List.mem_cons.mp hn with rfl | hn
      · simp at e'
      · exact look_zip (by simpa using h) n hn
  | p :: ps, [], h, _, _ => by simp at h
theorem fm_congr {α β : Type} {f g : α → Option β} : ∀ {l : List α}, (∀ n ∈ l, f n = g n) → l.filterMap f = l.filterMap g
  | [], _ => rfl
  | a :: l, h => by
    rw [List.filterMap_cons, List.filterMap_cons, h a List.mem_cons_self, fm_congr fun n hn => h n (List.mem_cons_of_mem _ hn)]
theorem binds_zip : ∀ {ps : List Str} {us : List Value}, us.length = ps.length → ps.Nodup → (ps.filterMap fun n => ((ps.zip us).lookup n).map (n, ·)) = ps.zip us
  | [], us, h, _ => by cases us <;> rfl
  | p :: ps, u :: us, h, nd => by
    have ih := binds_zip (ps := ps) (us := us) (by simpa using h) (List.nodup_cons.mp nd).2
    rw [List.zip_cons_cons, List.filterMap_cons, List.lookup_cons]
    simp only [BEq.rfl, Option.map_some]
    congr 1
    refine Eq.trans (fm_congr fun n hn => ?_) ih
    have : (n == p) = false := by
      simp only [beq_eq_false_iff_ne, ne_eq]
      rintro rfl
      exact (List.nodup_cons.mp nd).1 hn
    rw [List.lookup_cons, this]
  | p :: ps, [], h, _ => by simp at h
theorem bind_plain {fd : FuncData} {as : List PySem.Arg} {ps : List Str} (hp : fd.params = { posonlyargs := [], args := as, vararg := none, kwonlyargs := [], kw_defaults := [], kwarg := none, defaults := [] }) (hd : fd.defaults = .none) (ha : as.map (·.arg) = ps) (nd : ps.Nodup) {us : List Value} (hl : us.length = ps.length) :
    bindArgs fd ⟨us, []⟩ = pure (ps.zip us) := by
  unfold bindArgs
  rw [hp, hd]
  have h1 : ¬ (us.length > ps.length) := by omega
  have h2 : (ps.filter fun n => ((ps.zip us).lookup n).isNone) = [] := by
    rw [List.filter_eq_nil_iff]
    intro n hn
    have := look_zip hl n hn
    revert this
    cases (ps.zip us).lookup n <;> simp
  have h3 := binds_zip hl nd
  simp [seqItems?, notAStandIn, ha, h1, h2, h3]
end Mi
end
section
set_option Elab.async false
set_option linter.all false
set_option maxRecDepth 100000
set_option maxHeartbeats 2000000
/-! S26: defs. -/
namespace Mi
open PySem PySem.Spec PyProof.Rows L2
theorem FnG.mono {P : Program} {w : World} {K : PySem.W.Frag} {mg : Str → Option Value} {base : Heap} {CX : CXT} {j k : Nat} {f : Addr} {fd : FuncData} {ps : List Str} {sp : Sp} (F : FnG P w K mg base CX j f fd ps sp) (h : j ≤ k) : FnG P w K mg base CX k f fd ps sp :=
  ⟨F.len, fun B out s H given us vs Q E g hr => F.run B out s H given us vs Q E g (hr.mono h)⟩
/-- a def by its body, where no recursion is guarded -/
theorem fng_of {CX : CXT} {P : Program} {w : World} {K : PySem.W.Frag} {mg : Str → Option Value} {base : Heap} {k : Nat} {f : Addr} {x qual : Str} {params : Arguments} {body : List Stmt} {scope : Scope} {N ps : List Str} {sp : Sp} {fd : FuncData}
    (F : FunD K x qual params body scope [] [] f fd) (S : FnScope N ps scope) (len : ∀ vs H Q E, sp vs H Q E → vs.length = ps.length)
    (hb : ∀ (cdv : Value) (B : Around) (out : List Env) (s : Shared) (H : Hp) (vs : List V) (Q : VK) (E : XK), B.guards = some [] → Room k (B.deeper (envOfC qual scope s.heap.objs.size f cdv)) → sp vs H Q E →
      ∃ t, PSs (cxOf CX P w K mg base N qual scope f cdv B out s H E) body t ∧ t { nx := fun _ H' => Q .non H', rt := Q } (start N vs) H) : FnG P w K mg base CX (k + 1) f fd ps sp := by
  refine ⟨len, fun B out s H given us vs Q E gd room e0 bnd r hsp => ?_⟩
  obtain ⟨oc, od, dV, kV, doc, pm, an, cdv, ct, osl, rfl, lk, hcd, _, _⟩ := F.ex
  have hl := len _ _ _ _ hsp
  have KX : K.In s.heap := e0.mod.kin.keeps fun b o e => (e0.bs b o e).1
  have kinds : ∀ y ∈ ps.zip us, scope.names.lookup y.1 = some .local ∨ (scope.names.lookup y.1 = some .cell ∧ ((cellsFrom (s.heap.objs.size + 1) scope.names []).lookup y.1).isSome = true) := by
    rintro ⟨n, v⟩ hy
    exact (S.par n (List.of_mem_zip hy).1).imp id fun q => ⟨q, PySem.W.cellsFrom_some _ _ _ (.inl q)⟩
  refine codeAny_call_function room.depth (KX _ _ lk) rfl S.co S.gen rfl
    (PySem.W.codeRec_of KX hcd) (bnd _ _ _ _ ?_)
  refine wpAny_newFunctionEnv_cells S.kind kinds fun env he s1 y => ?_
  subst he
  refine ⟨(e0.mod.nolimit.keeps fun b o e => (e0.bs b o e).1).keeps y.toInCall.keep, codeAny_func ?_⟩
  obtain ⟨t, ht, hq⟩ := hb cdv B out s H vs Q E gd (room.deeper _) hsp
  have I : Inv (cxOf CX P w K mg base N qual scope f cdv B out s H E) [] (start N vs) H s1 := inv_start S room.hd e0 hl r y
  refine wpAny_mono (ht.run [] s1 (start N vs) H _ I hq) (fun fl s2 hs => ?_) fun e s2 hs => hs
  have fin : ∀ {σ2 : L2.St} {H2 : Hp} {v : V} {u : Value}, Inv (cxOf CX P w K mg base N qual scope f cdv B out s H E) [] σ2 H2 s2 → RelV v u → Q v H2 → CE out P w H s Q u s2 := fun {σ2 H2 v u} J rv q =>
    ⟨v, H2, J.os, J.bare, J.base, J.hok, rv, q⟩
  cases fl with
  | ret u => obtain ⟨v, σ2, H2, J, rv, q⟩ := hs; exact fin J rv q
  | next => obtain ⟨σ2, H2, J, q⟩ := hs; exact fin (v := V.non) (u := Value.none) J rfl q
  | brk => obtain ⟨_, _, _, q⟩ := hs; exact q.elim
  | cont => obtain ⟨_, _, _, q⟩ := hs; exact q.elim
/-- the parameters that are never bound anew, with their values -/
def fxL : Nat → List Bool → List V → List (Nat × V)
  | i, true :: br, v :: vs => (i, v) :: fxL (i + 1) br vs
  | i, false :: br, _ :: vs => fxL (i + 1) br vs
  | _, _, _ => []
def fxN : Nat → List Bool → List Nat
  | i, true :: br => i :: fxN (i + 1) br
  | i, false :: br => fxN (i + 1) br
  | _, [] => []
theorem fxL_fst : ∀ {i : Nat} {br : List Bool} {vs : List V}, br.length = vs.length → (fxL i br vs).map (·.1) = fxN i br
  | i, [], [], _ => rfl
  | i, true :: br, v :: vs, h => by
    show i :: (fxL (i + 1) br vs).map (·.1) = i :: fxN (i + 1) br
    rw [fxL_fst (by simpa using h)]
  | i, false :: br, v :: vs, h => fxL_fst (i := i + 1) (br := br) (vs := vs) (by simpa using h)
  | i, [], v :: vs, h => by simp at h
  | i, b :: br, [], h => by simp at h
theorem fxL_mem : ∀ {i : Nat} {br : List Bool} {vs : List V} {p : Nat × V}, p ∈ fxL i br vs → ∃ j, p.1 = i + j ∧ vs[j]? = some p.2
  | i, [], vs, p, h => by unfold fxL at h; cases h
  | i, true :: br, [], p, h => by unfold fxL at h; cases h
  | i, false :: br, [], p, h => by unfold fxL at h; cases h
  | i, true :: br, v :: vs, p, h => by
    rcases List.mem_cons.mp (show p ∈ (i, v) :: fxL (i + 1) br vs from h) with rfl | h
    · exact ⟨0, rfl, rfl⟩
    · obtain ⟨j, e1, e2⟩ := fxL_mem h
      exact ⟨j + 1, by omega, e2⟩
  | i, false :: br, v :: vs, p, h => by
    obtain ⟨j, e1, e2⟩ := fxL_mem (show p ∈ fxL (i + 1) br vs from h)
    exact ⟨j + 1, by omega, e2⟩
theorem fxL_of : ∀ {i : Nat} {br : List Bool} {vs : List V} {j : Nat} {v : V}, br[j]? = some true → vs[j]? = some v → (i + j, v) ∈ fxL i br vs
  | i, [], vs, j, v, h, _ => by simp at h
  | i, b :: br, [], j, v, _, h => by simp at h
  | i, true :: br, w :: vs, 0, v, _, h => by
    have h : w = v := by simpa using h
    subst h
    exact List.mem_cons_self
  | i, false :: br, w :: vs, 0, v, h, _ => by simp at h
  | i, true :: br, w :: vs, j + 1, v, h1, h2 => by
    have := fxL_of (i := i + 1) (br := br) (vs := vs) (j := j) (v := v) (by simpa using h1) (by simpa using h2)
    rw [show i + (j + 1) = i + 1 + j by omega]
    exact List.mem_cons_of_mem _ this
  | i, false :: br, w :: vs, j + 1, v, h1, h2 => by
    have := fxL_of (i := i + 1) (br := br) (vs := vs) (j := j) (v := v) (by simpa using h1) (by simpa using h2)
    rw [show i + (j + 1) = i + 1 + j by omega]
    exact this
section
variable {K : PySem.W.Frag} {L : Addr → Prop} {H : Hp}
theorem RS.more : ∀ {σ : L2.St} {ρ : Rho} {O : List Addr} (n : Nat), RS K L H σ ρ O → RS K L H (σ ++ List.replicate n none) (ρ ++ List.replicate n none) O
  | [], [], O, 0, h => h
  | [], [], O, n + 1, h => RS.more (σ := []) (ρ := []) n h
  | _ :: σ, none :: ρ, O, n, h => RS.more (σ := σ) (ρ := ρ) n h
  | v :: σ, some a :: ρ, _, n, h => by
    obtain ⟨w, O1, O2, e1, e2, h1, h2⟩ := h
    exact ⟨w, O1, O2, e1, e2, h1, RS.more n h2⟩
  | [], _ :: _, _, _, h => h.elim
  | _ :: _, [], _, _, h => h.elim
/-- the parameters alone -/
theorem RS.keep : ∀ {br : List Bool} {vs : List V} {σ : L2.St} {ρ : Rho} {O : List Addr} {as : List Arg}, br.length = vs.length → (∀ (j : Nat) (v : V), br[j]? = some true → vs[j]? = some v → σ[j]? = some (some v)) → argsBack br ρ = some as → RS K L H σ ρ O → ∃ O', O'.Sublist O ∧ RS K L H (vs.map some) (keepB br as) O'
  | [], [], σ, ρ, O, as, _, _, e, _ => by
    have e : some [] = some as := e
    cases e
    exact ⟨[], List.nil_sublist _, rfl⟩
  | true :: br, v :: vs, σ, ρ, O, as, hl, hf, e, h => by
    cases ρ with
    | nil => cases e
    | cons o ρ =>
      cases o with
      | none => cases e
      | some a =>
        obtain ⟨as', e1, rfl⟩ := Option.map_eq_some_iff.mp (show (argsBack br ρ).map (a :: ·) = some as from e)
        cases σ with
        | nil => exact h.elim
        | cons v0 σ =>
          obtain ⟨w, O1, O2, rfl, rfl, h1, h2⟩ := h
          obtain ⟨O', s, r⟩ := RS.keep (br := br) (vs := vs) (by simpa using hl) (fun j v g1 g2 => by simpa using hf (j + 1) v (by simpa using g1) (by simpa using g2)) e1 h2
          have ew : w = v := by simpa using hf 0 v rfl rfl
          subst ew
          exact ⟨O1 ++ O', (List.Sublist.refl O1).append s, ⟨w, O1, O', rfl, rfl, h1, r⟩⟩
  | false :: br, v :: vs, σ, ρ, O, as, hl, hf, e, h => by
    cases ρ with
    | nil => cases e
    | cons o ρ =>
      obtain ⟨as', e1, rfl⟩ := Option.map_eq_some_iff.mp (show (argsBack br ρ).map ((.non, 0) :: ·) = some as from e)
      cases σ with
      | nil => cases o <;> exact h.elim
      | cons v0 σ =>
        have rest : ∃ O2, O2.Sublist O ∧ RS K L H σ ρ O2 := by
          cases o with
          | none => exact ⟨O, List.Sublist.refl _, h⟩
          | some a =>
            obtain ⟨w, O1, O2, rfl, rfl, h1, h2⟩ := h
            exact ⟨O2, List.sublist_append_right O1 O2, h2⟩
        obtain ⟨O2, s2, h2⟩ := rest
        obtain ⟨O', s, r⟩ := RS.keep (br := br) (vs := vs) (by simpa using hl) (fun j v g1 g2 => by simpa using hf (j + 1) v (by simpa using g1) (by simpa using g2)) e1 h2
        exact ⟨O', s.trans s2, r⟩
  | [], _ :: _, _, _, _, _, hl, _, _, _ => by simp at hl
  | _ :: _, [], _, _, _, _, hl, _, _, _ => by simp at hl
theorem R.keep {br : List Bool} {vs : List V} {σ : L2.St} {ρ : Rho} {O F : List Addr} {as : List Arg} (hl : br.length = vs.length) (r : R K (fxL 0 br vs) σ H ρ O F) (e : argsBack br ρ = some as) : ∃ O', O'.Sublist O ∧ R K [] (vs.map some) H (keepB br as) O' F := by
  obtain ⟨O', s, rs⟩ := RS.keep hl (fun j v h1 h2 => by have := r.fx _ (fxL_of (i := 0) h1 h2); simpa using this) e r.rs
  refine ⟨O', s, fun p hp => (nomatch hp), (s.append (List.Sublist.refl F)).nodup r.nd, RS.stay rs (Stay.refl fun b _ nl z => nl ?_), r.tr⟩
  simp only [List.mem_append] at z ⊢
  exact z.imp (fun z => s.subset z) id
end
/-- what a call of the defs so far needs -/
def Good (P : Program) (w : World) (K : PySem.W.Frag) (mg : Str → Option Value) (base : Heap) (CX : CXT) (XR : XRel) (k : Nat) (C : List Fun0) (fs : List (Str × Nat)) : Prop :=
  ∀ (j : Nat) (x : Str) (n : Nat), fs[j]? = some (x, n) → ∃ F0 f fd ps, C[j]? = some F0 ∧ ps.length = n ∧ FnG P w K mg base CX k f fd ps (SpG (K := K) XR n F0) ∧ mg x = some (.ref f) ∧ PySem.W.keepIn K (.ref f) = true ∧ Binds K fd ps []
def XR0 : XRel := fun _ _ _ _ _ => False
/-- a def is what its mini text says -/
theorem def_fn {P : Program} {w : World} {K : PySem.W.Frag} {mg : Str → Option Value} {base : Heap} {k : Nat} {f : Addr} {x qual : Str} {params : Arguments} {body : List Stmt} {scope : Scope} {N ps : List Str} {fd : FuncData} {G : Cfg} {fs : List (Str × Nat)} {d : Def} {br : List Bool}
    (F : FunD K x qual params body scope [] [] f fd) (S : FnScope N ps scope) (hC : Good P w K mg base CX0 XR0 k G.C fs) (hm : ∀ b ∈ bltNames, mg b = none) (ck : okMs N fs (fxN 0 br) scope d.body body = true) (hnp : d.np = ps.length) (hns : d.ns = N.length) (hbr : br.length = ps.length) :
    FnG P w K mg base CX0 (k + 1) f fd ps (SpG (K := K) XR0 ps.length ⟨runDef G d br, br⟩) := by
  refine fng_of F S (fun vs H Q E h => h.1) fun cdv B out s H vs Q E gd room h => ?_
  obtain ⟨hl, as, Oc, Fc, r, t⟩ := h
  have hlen : br.length = vs.length := hbr.trans hl.symm
  have hX : XOk (cxOf CX0 P w K mg base N qual scope f cdv B out s H E).nox N scope := ⟨rfl, rfl, S.nd, rfl, by have := room.un; show (B.deeper (envOfC qual scope s.heap.objs.size f cdv)).units + 100 < cLine; omega, gd, hm⟩
  have hE : EOk (cxOf CX0 P w K mg base N qual scope f cdv B out s H E).nox XR0 (fun _ _ _ _ => False) G fs CX0 k := ⟨hC, room, fun _ _ _ _ _ _ _ h => h, fun _ _ _ _ _ h => h⟩
  have hS : SOk (cxOf CX0 P w K mg base N qual scope f cdv B out s H E).nox scope := ⟨S.kind, fun _ => rfl, PassesOwn.never⟩
  refine ⟨_, PSs.nox (sts_all (fx := fxL 0 br vs) hX hE hS d.body body (by rw [fxL_fst hlen]; exact ck)), ?_⟩
  have hal : as.length = ps.length := by
    have e := RS.len r.rs
    rw [List.length_map, List.length_map] at e
    omega
  refine ⟨as.map some ++ List.replicate (d.ns - d.np) none, Oc, Fc, ⟨fun p hp => ?_, r.nd, ?_, r.tr⟩, ?_⟩
  · obtain ⟨j, e1, e2⟩ := fxL_mem hp
    rw [e1, Nat.zero_add]
    unfold L2.start
    rw [List.getElem?_append_left (by rw [List.length_map]; exact (List.getElem?_eq_some_iff.mp e2).1), List.getElem?_map, e2]
    rfl
  · unfold L2.start
    rw [hns, hnp, hl]
    exact RS.more _ r.rs
  · have t : match runDef G d br as with
      | .ok r as' => ∀ v H' O' T, R K [] (vs.map some) H' (keepB br as') O' (T ++ Fc) → Own K (fun x => x ∈ O' ++ (T ++ Fc)) H' r.2 r.1 v T → Ext Oc H H' (O' ++ T) → Q v H'
      | .ex c xs as' => ∀ cls d H' O', R K [] (vs.map some) H' (keepB br as') O' Fc → Ext Oc H H' O' → XR0 c xs cls d H' → E cls d H'
      | .stuck => False := t
    unfold runDef at t
    rw [if_pos ⟨hal.trans hnp.symm, hbr.trans hnp.symm⟩] at t
    cases he : execs G d.body (as.map some ++ List.replicate (d.ns - d.np) none) with
    | nx ρ1 =>
      rw [he] at t
      intro σ' H' O' r' x'
      dsimp only at t
      cases hb : argsBack br ρ1 with
      | none => rw [hb] at t; exact t.elim
      | some as' =>
        rw [hb] at t
        obtain ⟨O2, s2, r2⟩ := R.keep hlen r' hb
        exact t .non H' O2 [] r2 ⟨rfl, rfl⟩ (x'.sub fun b hb => s2.subset (by simpa using hb))
    | rt a ρ1 =>
      rw [he] at t
      intro v σ' H' O' T r' o' x'
      dsimp only at t
      cases hb : argsBack br ρ1 with
      | none => rw [hb] at t; exact t.elim
      | some as' =>
        rw [hb] at t
        obtain ⟨O2, s2, r2⟩ := R.keep hlen r' hb
        refine t v H' O2 T r2 (Own.stay o' (Stay.refl fun b _ nl z => nl ?_)) (x'.sub fun b hb => ?_)
        · simp only [List.mem_append] at z ⊢
          exact z.imp (fun z => s2.subset z) id
        · simp only [List.mem_append] at hb ⊢
          exact hb.imp (fun z => s2.subset z) id
    | ex c xs ρ1 =>
      intro cls d' σ' H' O' r' x' hx
      exact hx.elim
    | br ρ1 => rw [he] at t; exact t.elim
    | ct ρ1 => rw [he] at t; exact t.elim
    | stuck => rw [he] at t; exact t.elim
end Mi
end
section
set_option Elab.async false
set_option linter.all false
set_option maxRecDepth 100000
set_option maxHeartbeats 2000000
/-! S27: all defs of a text; the law's head. -/
namespace Mi
open PySem PySem.Spec PyProof.Rows L2
/-- a def of the text: its slots' names, how many of them are parameters -/
structure TDef where
  name : Str
  params : Arguments
  body : List Stmt
  scope : Scope
  N : List Str
  np : Nat
def TDef.ps (t : TDef) : List Str := t.N.take t.np
def scB (N ps : List Str) (sc : Scope) : Bool := (match sc.kind with | .function => true | _ => false) && !sc.isCoroutine && !sc.isGenerator && decide N.Nodup && decide (N.take ps.length = ps) &&
  ps.all (fun x => match sc.names.lookup x with | some .local => true | some .cell => true | _ => false) && sc.names.all (fun y => match y.2 with | .free => false | _ => true)
theorem scB_ok {N ps : List Str} {sc : Scope} (h : scB N ps sc = true) : FnScope N ps sc := by
  obtain ⟨h, h7⟩ := band h
  obtain ⟨h, h6⟩ := band h
  obtain ⟨h, h5⟩ := band h
  obtain ⟨h, h4⟩ := band h
  obtain ⟨h, h3⟩ := band h
  obtain ⟨h1, h2⟩ := band h
  refine ⟨?_, by simpa using h2, by simpa using h3, of_decide_eq_true h4, of_decide_eq_true h5, fun x hx => ?_, fun y hy => ?_⟩
  · split at h1 <;> first | assumption | cases h1
  · have := List.all_eq_true.mp h6 x hx
    split at this <;> first | exact .inl (by assumption) | exact .inr (by assumption) | cases this
  · have := List.all_eq_true.mp h7 y hy
    intro e
    rw [e] at this
    cases this
def argsB (a : Arguments) (ps : List Str) : Bool := a.posonlyargs.isEmpty && a.vararg.isNone && a.kwonlyargs.isEmpty && a.kw_defaults.isEmpty && a.kwarg.isNone && a.defaults.isEmpty && decide (a.args.map (·.arg) = ps) && decide ps.Nodup
theorem argsB_ok {a : Arguments} {ps : List Str} (h : argsB a ps = true) : a = { posonlyargs := [], args := a.args, vararg := none, kwonlyargs := [], kw_defaults := [], kwarg := none, defaults := [] } ∧ a.args.map (·.arg) = ps ∧ ps.Nodup := by
  obtain ⟨h, h8⟩ := band h
  obtain ⟨h, h7⟩ := band h
  obtain ⟨h, h6⟩ := band h
  obtain ⟨h, h5⟩ := band h
  obtain ⟨h, h4⟩ := band h
  obtain ⟨h, h3⟩ := band h
  obtain ⟨h1, h2⟩ := band h
  refine ⟨?_, of_decide_eq_true h7, of_decide_eq_true h8⟩
  obtain ⟨p1, p2, p3, p4, p5, p6, p7⟩ := a
  simp only [List.isEmpty_iff, Option.isNone_iff_eq_none] at h1 h2 h3 h4 h5 h6
  subst h1 h2 h3 h4 h5 h6
  rfl
def okTD (t : TDef) (d : Def) (br : List Bool) (fs : List (Str × Nat)) : Bool :=
  okMs t.N fs (fxN 0 br) t.scope d.body t.body && decide (d.np = t.np) && decide (d.ns = t.N.length) && decide (br.length = t.np) && decide (t.np ≤ t.N.length) && scB t.N t.ps t.scope && argsB t.params t.ps
def okAll : List (Def × List Bool) → List TDef → List (Str × Nat) → Bool
  | [], [], _ => true
  | (d, b) :: r, t :: ts, fs => okTD t d b fs && okAll r ts (fs ++ [(t.name, t.np)])
  | _, _, _ => false
/-- where a def's object stands -/
def There (K : PySem.W.Frag) (mg : Str → Option Value) (t : TDef) : Prop := ∃ f fd, FunD K t.name t.name t.params t.body t.scope [] [] f fd ∧ mg t.name = some (.ref f)
section
variable {P : Program} {w : World} {K : PySem.W.Frag} {mg : Str → Option Value} {base : Heap}
theorem td_good {t : TDef} {d : Def} {br : List Bool} {fs : List (Str × Nat)} {k : Nat} {G : Cfg} (ht : There K mg t) (hC : Good P w K mg base CX0 XR0 k G.C fs) (hm : ∀ b ∈ bltNames, mg b = none) (h : okTD t d br fs = true) :
    ∃ f fd ps, ps.length = t.np ∧ ps = t.ps ∧ FnG P w K mg base CX0 (k + 1) f fd ps (SpG (K := K) XR0 t.np ⟨runDef G d br, br⟩) ∧ mg t.name = some (.ref f) ∧ PySem.W.keepIn K (.ref f) = true ∧ Binds K fd ps [] ∧ (∀ (s : Shared) (us : List Value), us.length = ps.length → BindsTo s fd ⟨us, []⟩ (ps.zip us)) ∧ ∃ oc od osl, K.lookup f = some ⟨oc, od, .func fd, osl⟩ := by
  obtain ⟨h, h7⟩ := band h
  obtain ⟨h, h6⟩ := band h
  obtain ⟨h, h5⟩ := band h
  obtain ⟨h, h4⟩ := band h
  obtain ⟨h, h3⟩ := band h
  obtain ⟨h1, h2⟩ := band h
  have h5 := of_decide_eq_true h5
  obtain ⟨f, fd, F, hg⟩ := ht
  have hl : t.ps.length = t.np := by
    unfold TDef.ps
    rw [List.length_take]
    omega
  obtain ⟨a1, a2, a3⟩ := argsB_ok h7
  have bp : ∀ (kV doc pm : Value) (an : Option Addr) (cdv ct : Value) (us : List Value), us.length = t.ps.length → bindArgs (PySem.W.fnOf t.name t.name t.params t.body t.scope .none kV doc pm an cdv ct) ⟨us, []⟩ = pure (t.ps.zip us) := fun kV doc pm an cdv ct us hu =>
    bind_plain (as := t.params.args) a1 rfl a2 a3 hu
  have e : SpG (K := K) XR0 t.np ⟨runDef G d br, br⟩ = SpG (K := K) XR0 t.ps.length ⟨runDef G d br, br⟩ := by rw [hl]
  refine ⟨f, fd, t.ps, hl, rfl, ?_, hg, F.kp, F.bindsN bp, fun s us hu => F.bindsA bp s us hu, by
    obtain ⟨oc, od, _, _, _, _, _, _, _, osl, _, lk, _⟩ := F.ex
    exact ⟨oc, od, osl, lk⟩⟩
  rw [e]
  exact def_fn F (scB_ok h6) hC hm h1 ((of_decide_eq_true h2).trans hl.symm) (of_decide_eq_true h3) ((of_decide_eq_true h4).trans hl.symm)
theorem all_good {Kf : Nat} {par : List Ecl} (hm : ∀ b ∈ bltNames, mg b = none) : ∀ {ds : List (Def × List Bool)} {ts : List TDef} {fs : List (Str × Nat)} {C : List Fun0} {k : Nat}, okAll ds ts fs = true → (∀ t ∈ ts, There K mg t) → fs.length = C.length → Good P w K mg base CX0 XR0 k C fs →
    Good P w K mg base CX0 XR0 (k + ds.length) (mkC Kf par ds C) (fs ++ ts.map fun t => (t.name, t.np))
  | [], [], fs, C, k, _, _, _, g => by simpa [mkC] using g
  | (d, b) :: r, t :: ts, fs, C, k, h, ht, hl, g => by
    obtain ⟨h1, h2⟩ := band (show (okTD t d b fs && okAll r ts (fs ++ [(t.name, t.np)])) = true from h)
    obtain ⟨f, fd, ps, e1, _, F, e2, e3, e4, _⟩ := td_good (G := ⟨C, Kf, par⟩) (ht t List.mem_cons_self) g hm h1
    have g' : Good P w K mg base CX0 XR0 (k + 1) (C ++ [⟨runDef ⟨C, Kf, par⟩ d b, b⟩]) (fs ++ [(t.name, t.np)]) := fun j x n hj => by
      by_cases hlt : j < fs.length
      · rw [List.getElem?_append_left hlt] at hj
        obtain ⟨F0, f, fd, ps, q1, q2, q3, q4, q5, q6⟩ := g j x n hj
        exact ⟨F0, f, fd, ps, by rw [List.getElem?_append_left (by omega)]; exact q1, q2, q3.mono (Nat.le_succ _), q4, q5, q6⟩
      · have hj' : j = fs.length := by
          have := (List.getElem?_eq_some_iff.mp hj).1
          simp at this
          omega
        subst hj'
        rw [List.getElem?_append_right (Nat.le_refl _), Nat.sub_self] at hj
        have hj : (t.name, t.np) = (x, n) := by simpa using hj
        cases hj
        exact ⟨_, f, fd, ps, by rw [hl, List.getElem?_append_right (Nat.le_refl _), Nat.sub_self]; rfl, e1, F, e2, e3, e4⟩
    have := all_good (Kf := Kf) (par := par) hm h2 (fun t ht' => ht t (List.mem_cons_of_mem _ ht')) (by simp [hl]) g'
    rw [List.append_assoc] at this
    rw [List.length_cons, show k + (r.length + 1) = k + 1 + r.length by omega]
    exact this
  | [], _ :: _, _, _, _, h, _, _, _ => by cases h
  | _ :: _, [], _, _, _, h, _, _, _ => by cases h
/-- the last def alone -/
theorem last_good {Kf : Nat} {par : List Ecl} (hm : ∀ b ∈ bltNames, mg b = none) : ∀ {ds : List (Def × List Bool)} {ts : List TDef} {fs : List (Str × Nat)} {C : List Fun0} {k : Nat} {tl : TDef}, okAll ds ts fs = true → (∀ t ∈ ts, There K mg t) → fs.length = C.length → Good P w K mg base CX0 XR0 k C fs → ts.getLast? = some tl →
    ∃ F0 f fd ps, (mkC Kf par ds C).getLast? = some F0 ∧ ps.length = tl.np ∧ ps = tl.ps ∧ FnG P w K mg base CX0 (k + ds.length) f fd ps (SpG (K := K) XR0 tl.np F0) ∧ mg tl.name = some (.ref f) ∧ (∀ (s : Shared) (us : List Value), us.length = ps.length → BindsTo s fd ⟨us, []⟩ (ps.zip us)) ∧ ∃ oc od osl, K.lookup f = some ⟨oc, od, .func fd, osl⟩
  | [], [], fs, C, k, tl, _, _, _, _, e => by cases e
  | (d, b) :: r, t :: ts, fs, C, k, tl, h, ht, hl, g, e => by
    obtain ⟨h1, h2⟩ := band (show (okTD t d b fs && okAll r ts (fs ++ [(t.name, t.np)])) = true from h)
    obtain ⟨f, fd, ps, e1, e1', F, e2, e3, e4, e5⟩ := td_good (G := ⟨C, Kf, par⟩) (ht t List.mem_cons_self) g hm h1
    cases ts with
    | nil =>
      cases r with
      | cons a r => cases h2
      | nil =>
        cases e
        refine ⟨_, f, fd, ps, ?_, e1, e1', F, e2, e5⟩
        show (C ++ [_]).getLast? = _
        rw [List.getLast?_append]; rfl
    | cons t2 ts =>
      have one : Good P w K mg base CX0 XR0 (k + 1) (mkC Kf par [(d, b)] C) (fs ++ [t].map fun t => (t.name, t.np)) := all_good (Kf := Kf) (par := par) hm (ds := [(d, b)]) (ts := [t]) (by show (okTD t d b fs && true) = true; rw [h1]; rfl) (fun t' ht' => ht t' (by rw [List.mem_singleton.mp ht']; exact List.mem_cons_self)) hl g
      have := last_good (Kf := Kf) (par := par) hm (ds := r) (ts := t2 :: ts) (C := C ++ [⟨runDef ⟨C, Kf, par⟩ d b, b⟩]) (k := k + 1) (tl := tl) h2 (fun t' ht' => ht t' (List.mem_cons_of_mem _ ht')) (by simp [hl]) one (by rw [← e]; rfl)
      rw [List.length_cons, show k + (r.length + 1) = k + 1 + r.length by omega]
      exact this
  | [], _ :: _, _, _, _, _, h, _, _, _, _ => by cases h
  | _ :: _, [], _, _, _, _, h, _, _, _, _ => by cases h
end
/-- the law's promise at the heap behind the top -/
theorem law_callG {P : Program} {w : World} {K : PySem.W.Frag} {mg mb : Str → Option Value} {k : Nat} {fa a : Addr} {fd : FuncData} {x : Str} {sp : Sp} {s₁ : Shared} {vs : List Value} {ns : List Int}
    (KX : K.In s₁.heap) (hns : s₁.heap.Ns mainGlobals mg) (hb : s₁.heap.Ns builtinsNs mb) (hbb : ∀ y : Str, y ≠ "__name__" → mb y = bootBuiltins y) (hlim : s₁.heap.NoLimit) (hg : s₁.gens = #[])
    (ha : s₁.heap.get? a = some { cls := .type "list", data := .seq vs.toArray }) (hi : IntsAre vs ns) (hl : ns.length ≤ sizeLine) (hr : Room k callerA)
    (F : ∀ bs : Heap, K.In bs → bs.Ns mainGlobals mg → FnG P w K mg bs CX0 k fa fd [x] sp) (hbind : ∀ (s : Shared) (u : Value), BindsTo s fd ⟨[u], []⟩ [(x, u)])
    (hsp : ∀ H : Hp, Only H → SqL K H a (ns.map V.int) → sp [.ref a] H (fun v _ => v = .bl true) fun _ _ _ => False) :
    codeAny (model P w) callerA (.call (.ref fa) ⟨[.ref a], []⟩) (fun r s' => r = .ok (.ret (.bool true)) ∧ OldK s₁.heap s'.heap ∧ s'.os = s₁.os ∧ AllBare s'.gens) s₁ := by
  have rv := vals_ints hi
  have main : ∀ H : Hp, Only H → SqL K H a (ns.map V.int) → HOk P w H s₁.heap → (∀ b, H b ≠ none → b = a) → (H a ≠ none → K.lookup a = none) →
      codeAny (model P w) callerA (.call (.ref fa) ⟨[.ref a], []⟩)
        (fun r s' => r = .ok (.ret (.bool true)) ∧ OldK s₁.heap s'.heap ∧ s'.os = s₁.os ∧ AllBare s'.gens) s₁ := fun H hO hS hok hA hK => by
    have nn : ∀ {b : Addr} {o : Obj}, s₁.heap.get? b = some o → (b ≠ a) → (hidT s₁.heap H).get? b = some o := fun {b o} e ne => hidT_get e (by
      cases q : H b with
      | none => rfl
      | some u => exact absurd (hA b (by rw [q]; simp)) ne)
    have nsK : ∀ {b : Addr} {m : Str → Option Value}, s₁.heap.Ns b m → (hidT s₁.heap H).Ns b m := by
      rintro b m ⟨o, es, ep, e, d, r⟩
      refine ⟨o, es, ep, nn e ?_, d, r⟩
      rintro rfl
      rw [ha] at e; cases e
      have d' : Data.seq vs.toArray _ = Data.dict es ep := d
      cases d'
    have kin : K.In (hidT s₁.heap H) := fun b o e => by
      by_cases ne : b = a
      · subst ne
        refine hidT_get (KX b o e) ?_
        cases q : H b with
        | none => rfl
        | some u =>
          have := hK (by rw [q]; simp)
          rw [this] at e; cases e
      · exact nn (KX b o e) ne
    have md : Mod K mg (hidT s₁.heap H) := ⟨kin, nsK hns, ⟨mb, nsK hb, hbb⟩, hlim.imp fun mc h => ⟨nsK h.1, h.2⟩⟩
    have e0 : Env0 P w K mg (hidT s₁.heap H) callerA [] s₁ H :=
      ⟨rfl, md, fun b o e => of_hidT e, Nat.le_of_eq (hidT_size _ _), trivial, fun b hb => (nomatch hb), hok, .of_eq hg⟩
    refine codeAny_mono ((F _ kin (nsK hns)).run callerA [] s₁ H ⟨[.ref a], []⟩ [.ref a] [.ref a] _ _ rfl hr e0 (hbind s₁ (.ref a)) (.cons rfl .nil) (hsp H hO hS)) fun r s2 h => ?_
    cases r with
    | error e => exact (show False from h).elim
    | ok fl =>
      cases fl <;> first | exact (show False from h).elim | skip
      rename_i u
      obtain ⟨v, H2, os, bare, un, hok2, r2, q⟩ := h
      have q : v = .bl true := q
      subst q
      obtain rfl : u = Value.bool true := r2
      refine ⟨rfl, OldK.of_keep fun b o e => ?_, os, bare⟩
      rcases hO b with q | ⟨ob, xs, q⟩
      · exact un.keep b o e q (by intro z; cases z) (by simp)
      · have q2 := un.frzs b ob _ q
        have z1 := (hok b _ q).1
        have z2 := (hok2 b _ q2).1
        rw [e] at z1; cases z1
        exact z2
  cases hk : K.lookup a with
  | some o =>
    have e := KX a o hk
    rw [ha] at e
    cases e
    have lenV := hi.length
    exact main (fun _ => none) (fun _ => .inl rfl) (.inr ⟨_, vs.toArray, _, hk, rfl, rfl, rfl, by rw [List.size_toArray, lenV]; exact hl, by simpa using rv⟩)
      (fun b u z => nomatch z) (fun b z => absurd rfl z) fun z => absurd rfl z
  | none =>
    refine main (fun b => if b = a then some (.frz { cls := .type "list", data := .seq vs.toArray } (.lst (ns.map V.int))) else none) (fun b => ?_)
      (.inl (.inr ⟨{ cls := .type "list", data := .seq vs.toArray }, if_pos rfl⟩)) (fun b u z => ?_) (fun b z => ?_) fun _ => hk
    · by_cases ne : b = a
      · exact .inr ⟨_, _, if_pos ne⟩
      · exact .inl (if_neg ne)
    · by_cases ne : b = a
      · have z2 := (if_pos ne).symm.trans z
        cases z2
        subst ne
        exact ⟨ha, by rw [List.length_map]; exact hl, vs, _, rv, ha⟩
      · have z2 := (if_neg ne).symm.trans z
        cases z2
    · by_cases ne : b = a
      · exact ne
      · exact absurd (if_neg ne) z
/-- a law whose last def answers True at every script -/
theorem walk_ofG {l : PySem.W.OpenLaw} {n : Nat} {q : Program} {loose : List Str} {XP : (Str → Option Value) → Heap → Prop} {YP : World → Heap → Prop} {d : DefRec} {ds : List (Def × List Bool)} {ts : List TDef} {tl : TDef} {Kf : Nat} {par : List Ecl}
    (hn : l.most = some n) (hn2 : n ≤ sizeLine) (hdf : d.params.defaults = []) (hr : Room ds.length callerA) (hok : okAll ds ts [] = true) (hlast : ts.getLast? = some tl) (hnp : tl.np = 1) (hname : tl.name = d.name)
    (hlaw : ∀ ns : List Int, ns.length ≤ n → (lawAt Kf par ds ns).isTrue = true)
    (F : ∀ (w : World) (mg : Str → Option Value) (h : Heap), YP w h → h.Ns mainGlobals mg → ∃ K : PySem.W.Frag, K.In h ∧ (∀ t ∈ ts, There K mg t) ∧ ∀ b ∈ bltNames, mg b = none) :
    PySem.W.WalkO q loose XP YP l.row.toRowW d [] (fun f vs => PySem.call f vs) := by
  refine Att.attach_call hn hdf fun w s₀ s₁ mg mb fa o pm cd doc a vs ns G Y ho hd hcd hmg hobj hints hlen hg => ?_
  obtain ⟨K, KX, ht, hm⟩ := F w mg _ Y G.T.g
  have nil : ∀ base : Heap, Good l.prog w K mg base CX0 XR0 0 [] [] := fun base j x n h => by simp at h
  obtain ⟨F0, f, fd, ps, e1, e2, e2', _, e3, e4, oc, od, osl, lk⟩ := last_good (P := l.prog) (w := w) (base := s₁.heap) (Kf := Kf) (par := par) hm hok ht rfl (nil _) hlast
  have hf : f = fa := by
    rw [hname, hmg] at e3
    cases e3; rfl
  subst hf
  rw [hnp] at e2
  obtain ⟨x, rfl⟩ : ∃ x, ps = [x] := List.length_eq_one_iff.mp e2
  refine law_callG (x := x) (sp := SpG (K := K) XR0 tl.np F0) KX G.T.g G.T.b G.T.builtins G.T.nolimit hg hobj hints (Nat.le_trans hlen hn2) hr (fun base hk hns => ?_) (fun s u => e4 s [u] rfl) fun H hO hS => ?_
  · obtain ⟨F0', f', fd', ps', e1', e5, e5', F', e6, _, oc', od', osl', lk'⟩ := last_good (P := l.prog) (w := w) (base := base) (Kf := Kf) (par := par) hm hok ht rfl (nil _) hlast
    rw [e1] at e1'
    cases e1'
    rw [e3] at e6
    cases e6
    rw [lk] at lk'
    cases lk'
    rw [e5', ← e2'] at F'
    simpa using F'
  · have hl := hlaw ns hlen
    unfold lawAt at hl
    rw [e1] at hl
    dsimp only at hl
    rw [hnp]
    refine ⟨rfl, [(.scr ns, 0)], [], [], ⟨fun p hp => (nomatch hp), List.nodup_nil, ⟨.ref a, [], [], rfl, rfl, ⟨rfl, a, rfl, ?_⟩, rfl⟩, fun b hb => (nomatch hb)⟩, ?_⟩
    · rcases hS with (z | z) | z
      · rcases hO a with q | ⟨ob, xs, q⟩
        · rw [q] at z; cases z
        · rw [q] at z; cases z
      · exact .inl z
      · exact .inr z
    · cases hs : F0.sem [(.scr ns, 0)] with
      | ok r as' =>
        rw [hs] at hl
        obtain ⟨r, dr⟩ := r
        intro v H' O' T r' o' x'
        cases r <;> first | (cases hl; done) | skip
        rename_i b
        cases b
        · cases hl
        · exact Bor.bl (K := K) ⟨_, _, o'⟩
      | ex c xs as' => rw [hs] at hl; cases hl
      | stuck => rw [hs] at hl; cases hl
end Mi
end
section
set_option linter.all false
set_option maxRecDepth 100000
set_option maxHeartbeats 4000000
/-! Src: the draws of a script. -/
namespace Mi
open PySem
namespace Sce
abbrev v (i : Nat) : SE := .var i
abbrev V (i : Nat) : ME := .var i
def dSource : Def := ⟨1, 3, [
  .asg (.name 1) (.s (SE.int 11)),
  .for_ (.name 2) .seq [(V 0)] [.asg (.name 1) (.s (SE.ap2 .mod (SE.ap1 .int (SE.ap2 .add (SE.ap2 .add (SE.ap2 .mul (v 1) (SE.int 69069)) (SE.ap2 .mul (v 2) (SE.int 31))) (SE.int 5))) (SE.int 2147483629)))],
  .ret (.dct [(SE.str "cells"), (SE.str "left"), (SE.str "mixed"), (SE.str "turn")] [(.apA .rev [(.lc [2] (.name 2) .seq [(V 0)] [] (.s (SE.ap1 .abs (v 2))))]), (.s (SE.int 1)), (V 1), (.s (SE.int 0))])]⟩
def tst : SE := SE.and (SE.ap2 .gt (v 1) (SE.int 1)) (SE.and (SE.ap2 .lt (SE.ap2 .get (v 0) (SE.str "left")) (SE.int 2)) (SE.ap2 .gt (SE.ap1 .len (SE.ap2 .get (v 0) (SE.str "cells"))) (SE.int 0)))
def popS : MS := .asg (.st 0 [(SE.str "left")]) (.mut .pop0 0 [(SE.str "cells")] [])
def dPick : Def := ⟨2, 4, [
  .whl (.s tst) [popS],
  .asg (.name 2) (.elem 0 (SE.str "left")),
  .ifs (.s (SE.or (SE.ap2 .lt (v 1) (SE.int 2)) (SE.ap2 .gt (v 2) (SE.int 1)))) [.asg (.st 0 [(SE.str "left")]) (.s (SE.ap2 .fdiv (v 2) (SE.ap2 .max2 (SE.int 1) (v 1)))), .ret (.s (SE.ap2 .mod (SE.ap1 .int (v 2)) (SE.ap2 .max2 (SE.int 1) (v 1))))] [],
  .asg (.st 0 [(SE.str "turn")]) (.s (SE.ap2 .add (SE.ap2 .get (v 0) (SE.str "turn")) (SE.int 1))),
  .asg (.name 3) (.s (SE.ap2 .mod (SE.ap1 .int (SE.ap2 .add (SE.ap2 .get (v 0) (SE.str "mixed")) (SE.ap2 .mul (SE.ap2 .get (v 0) (SE.str "turn")) (SE.int 104729)))) (SE.int 998244353))),
  .asg (.name 3) (.s (SE.ap2 .mod (SE.ap1 .int (SE.ap2 .add (SE.ap2 .mul (v 3) (v 3)) (SE.ap2 .mul (SE.ap2 .get (v 0) (SE.str "turn")) (SE.int 17)))) (SE.int 2147483647))),
  .asg (.st 0 [(SE.str "mixed")]) (V 3),
  .ret (.s (SE.ap2 .mod (SE.ap1 .int (SE.ap2 .fdiv (v 3) (SE.int 16))) (v 1)))]⟩
/-- the source: what is left of the script -/
def src (cells : List Int) (left mixed turn : Int) : PV := .dct [(.inr "cells", .lst (cells.map .int)), (.inr "left", .int left), (.inr "mixed", .int mixed), (.inr "turn", .int turn)]
theorem n1 : ((Str.ofString "cells") = (Str.ofString "left")) = False := by decide +kernel
theorem n2 : ((Str.ofString "cells") = (Str.ofString "mixed")) = False := by decide +kernel
theorem n3 : ((Str.ofString "cells") = (Str.ofString "turn")) = False := by decide +kernel
theorem n4 : ((Str.ofString "left") = (Str.ofString "mixed")) = False := by decide +kernel
theorem n5 : ((Str.ofString "left") = (Str.ofString "turn")) = False := by decide +kernel
theorem n6 : ((Str.ofString "mixed") = (Str.ofString "turn")) = False := by decide +kernel
theorem nd (cells : List Int) (left mixed turn : Int) (a b c d : PV) : (List.map (fun (x : Key × PV) => x.1) [(.inr (Str.ofString "cells"), a), (.inr (Str.ofString "left"), b), (.inr (Str.ofString "mixed"), c), (.inr (Str.ofString "turn"), d)]).Nodup := by
  simp [n1, n2, n3, n4, n5, n6]
theorem tst_ev {G : Cfg} {cells : List Int} {left mixed turn many : Int} {d : Nat} {a b : Option Arg} :
    evT G (.s tst) [some (src cells left mixed turn, d), some (.int many, 0), a, b] = .ok (decide (1 < many) && (decide (left < 2) && decide (0 < cells.length))) [some (src cells left mixed turn, d), some (.int many, 0), a, b] := by
  simp [evT, ofBl, evX, tst, evSt, evS, v, slot, src, fn2, fn1, gI, get1, keyOf, dget, n1, truthy, orStuck, isBl, Out.bind, gLen]
  by_cases h1 : 1 < many <;> by_cases h2 : left < 2 <;> simp [h1, h2, orStuck, Out.bind, isBl]
theorem line : sizeLine = 16777216 := by decide
theorem pop_ev {G : Cfg} {c : List Int} {x left mixed turn : Int} {m a b : Option Arg} :
    exec G popS [some (src (c ++ [x]) left mixed turn, 2), m, a, b] = .nx [some (src c x mixed turn, 2), m, a, b] := by
  have e : (List.map PV.int c ++ [PV.int x]).eraseIdx c.length = List.map PV.int c := by
    rw [List.eraseIdx_append_of_length_le (by simp)]; simp
  simp [popS, exec, ev, evX, evs, evSs, evS, src, slot, recvOk, getP, get1, keyOf, dget, orStuck, Out.bind, Out.run, modAt, isL, change, cPop0, cTake, put1, dput, orStop, bindP, asT, SOut.nx, n1, n2, n3, n4, n5, n6, cSet, joinD, line, e]
theorem pops_ev {G : Cfg} {c : List Int} {x left mixed turn : Int} {m a b : Option Arg} :
    execs G [popS] [some (src (c ++ [x]) left mixed turn, 2), m, a, b] = .nx [some (src c x mixed turn, 2), m, a, b] := by
  simp only [execs, pop_ev]
/-- what pick's loop leaves -/
def drawn : List Int → Int → List Int × Int
  | [], left => ([], left)
  | c :: cs, left => if left < 2 then drawn cs c else (c :: cs, left)
theorem loop_ev {G : Cfg} {mixed turn many : Int} {a b : Option Arg} (hm : 1 < many) : ∀ (r : List Int) (left : Int) (n : Nat), r.length < n →
    wLoop (evT G (.s tst)) (execs G [popS]) n [some (src r.reverse left mixed turn, 2), some (.int many, 0), a, b] = .nx [some (src (drawn r left).1.reverse (drawn r left).2 mixed turn, 2), some (.int many, 0), a, b]
  | [], left, n, h => by
    obtain ⟨n, rfl⟩ : ∃ k, n = k + 1 := ⟨n - 1, by omega⟩
    unfold wLoop
    rw [tst_ev]
    simp [Out.run, drawn]
  | c :: r, left, n, h => by
    obtain ⟨n, rfl⟩ : ∃ k, n = k + 1 := ⟨n - 1, by omega⟩
    unfold wLoop
    rw [tst_ev]
    by_cases h2 : left < 2
    · simp only [Out.run, hm, h2, decide_true, Bool.true_and, List.reverse_cons, List.length_append, List.length_reverse, List.length_singleton]
      have h3 : (0 < r.length + 1) := by omega
      simp only [h3, decide_true, if_true, pops_ev]
      rw [loop_ev hm r c n (by simp at h; omega)]
      simp [drawn, h2]
    · simp [Out.run, h2, drawn]
theorem loop_one {G : Cfg} {cells : List Int} {left mixed turn many : Int} {a b : Option Arg} (hm : ¬ 1 < many) (n : Nat) :
    wLoop (evT G (.s tst)) (execs G [popS]) (n + 1) [some (src cells left mixed turn, 2), some (.int many, 0), a, b] = .nx [some (src cells left mixed turn, 2), some (.int many, 0), a, b] := by
  unfold wLoop
  rw [tst_ev]
  simp [Out.run, hm]
/-- the source behind a draw, what is drawn -/
structure St where
  cells : List Int
  left : Int
  mixed : Int
  turn : Int
def St.pv (s : St) : PV := src s.cells.reverse s.left s.mixed s.turn
def pickF (s : St) (many : Int) : Int × St :=
  let p := if 1 < many then drawn s.cells s.left else (s.cells, s.left)
  if many < 2 ∨ 1 < p.2 then (p.2.fmod (if (1 : Int) < many then many else 1), ⟨p.1, p.2.fdiv (if (1 : Int) < many then many else 1), s.mixed, s.turn⟩)
  else
    let t := s.turn + 1
    let m1 := (s.mixed + t * 104729).fmod 998244353
    let m2 := (m1 * m1 + t * 17).fmod 2147483647
    ((m2.fdiv 16).fmod many, ⟨p.1, p.2, m2, t⟩)
theorem pick_ev {G : Cfg} {s : St} {many : Int} (h0 : many < 1073741824) (hk : s.cells.length < G.K) :
    runDef G dPick [true, true] [(s.pv, 2), (.int many, 0)] = .ok (.int (pickF s many).1, 0) [((pickF s many).2.pv, 2), (.int many, 0)] := by
  obtain ⟨cells, left, mixed, turn⟩ := s
  have hw : ∃ p : List Int × Int, p = (if 1 < many then drawn cells left else (cells, left)) ∧
      wLoop (evT G (.s tst)) (execs G [popS]) G.K [some (src cells.reverse left mixed turn, 2), some (.int many, 0), none, none] = .nx [some (src p.1.reverse p.2 mixed turn, 2), some (.int many, 0), none, none] := by
    refine ⟨_, rfl, ?_⟩
    by_cases hm : 1 < many
    · rw [if_pos hm]; exact loop_ev hm _ _ _ hk
    · rw [if_neg hm]
      obtain ⟨n, hn⟩ : ∃ k, G.K = k + 1 := ⟨G.K - 1, by have : cells.length < G.K := hk; omega⟩
      rw [hn]; exact loop_one hm n
  obtain ⟨p, hp, hw⟩ := hw
  have hpick : pickF ⟨cells, left, mixed, turn⟩ many = if many < 2 ∨ 1 < p.2 then (p.2.fmod (if (1 : Int) < many then many else 1), ⟨p.1, p.2.fdiv (if (1 : Int) < many then many else 1), mixed, turn⟩)
      else ((((((mixed + (turn + 1) * 104729).fmod 998244353) * ((mixed + (turn + 1) * 104729).fmod 998244353) + (turn + 1) * 17).fmod 2147483647).fdiv 16).fmod many, ⟨p.1, p.2, (((mixed + (turn + 1) * 104729).fmod 998244353) * ((mixed + (turn + 1) * 104729).fmod 998244353) + (turn + 1) * 17).fmod 2147483647, turn + 1⟩) := by
    rw [hp]; rfl
  rw [hpick]
  obtain ⟨q, l⟩ := p
  dsimp only at hw ⊢
  have e1 : exec G (.whl (.s tst) [popS]) [some (src cells.reverse left mixed turn, 2), some (.int many, 0), none, none] = .nx [some (src q.reverse l mixed turn, 2), some (.int many, 0), none, none] := hw
  have hfit : ((if (1 : Int) < many then many else 1) ≠ 0 ∧ (if (1 : Int) < many then many else 1).natAbs < 1073741824) := by
    split <;> constructor <;> omega
  generalize hd : (if (1 : Int) < many then many else 1) = dv at hfit ⊢
  unfold runDef
  rw [if_pos ⟨rfl, rfl⟩]
  unfold dPick
  simp only [St.pv, List.map, List.append, List.replicate, Nat.reduceSub, List.cons_append, List.nil_append]
  rw [execs]
  rw [e1]
  by_cases hc : many < 2 ∨ 1 < l
  · rw [if_pos hc]
    have ht : (decide (many < 2) || decide (1 < l)) = true := by simpa using hc
    simp [execs, exec, ev, evX, evT, evs, evSs, evS, evSt, ofBl, isBl, src, slot, fn1, fn2, gI, gInt, get1, keyOf, dget, orStuck, Out.bind, Out.run, modAt, isL, change, dput, orStop, bindP, asT, n1, n2, n3, n4, n5, n6, cSet, joinD, line, v, hd, hfit, truthy, argsBack]
    by_cases h2 : many < 2
    · simp [h2, execs, exec, ev, evX, evT, evs, evSs, evS, evSt, ofBl, isBl, src, slot, fn1, fn2, gI, gInt, get1, keyOf, dget, orStuck, Out.bind, Out.run, modAt, isL, change, dput, orStop, bindP, asT, n1, n2, n3, n4, n5, n6, cSet, joinD, line, v, hd, hfit, truthy, argsBack]
    · have h3 : 1 < l := hc.resolve_left h2
      simp [h2, h3, execs, exec, ev, evX, evT, evs, evSs, evS, evSt, ofBl, isBl, src, slot, fn1, fn2, gI, gInt, get1, keyOf, dget, orStuck, Out.bind, Out.run, modAt, isL, change, dput, orStop, bindP, asT, n1, n2, n3, n4, n5, n6, cSet, joinD, line, v, hd, hfit, truthy, argsBack]
  · rw [if_neg hc]
    obtain ⟨h2, h3⟩ := not_or.mp hc
    have sm : small ((mixed + (turn + 1) * 104729).fmod 998244353) = true := by
      have a1 := Int.fmod_nonneg_of_pos (mixed + (turn + 1) * 104729) (show (0 : Int) < 998244353 by decide)
      have a2 := Int.fmod_lt_of_pos (mixed + (turn + 1) * 104729) (show (0 : Int) < 998244353 by decide)
      unfold small
      simp only [Bool.and_eq_true, decide_eq_true_eq]
      omega
    have s1 : small 104729 = true := by decide
    have s2 : small 17 = true := by decide
    have hm : many ≠ 0 := by omega
    simp [h2, h3, execs, exec, ev, evX, evT, evs, evSs, evS, evSt, ofBl, isBl, src, slot, fn1, fn2, gI, gInt, get1, keyOf, dget, orStuck, Out.bind, Out.run, modAt, isL, change, dput, orStop, bindP, asT, n1, n2, n3, n4, n5, n6, cSet, joinD, line, v, truthy, argsBack, sm, s1, s2, hm, lower]
/-- loops over what a list holds -/
theorem fLoop_inv {bind : PV → Rho → Option Rho} {body : Rho → SOut} (I : List PV → Rho → Prop) : ∀ {xs : List PV} {ρ : Rho}, I xs ρ → (∀ x r ρ, I (x :: r) ρ → ∃ ρ1 ρ2, bind x ρ = some ρ1 ∧ (body ρ1 = .nx ρ2 ∨ body ρ1 = .ct ρ2) ∧ I r ρ2) → ∃ ρ', fLoop bind body xs ρ = .nx ρ' ∧ I [] ρ'
  | [], ρ, h, _ => ⟨ρ, rfl, h⟩
  | x :: r, ρ, h, st => by
    obtain ⟨ρ1, ρ2, e1, e2, e3⟩ := st x r ρ h
    obtain ⟨ρ', e4, e5⟩ := fLoop_inv I e3 st
    refine ⟨ρ', ?_, e5⟩
    unfold fLoop
    rw [e1]
    rcases e2 with e2 | e2
    · simp only [orStop, e2, e4]
    · simp only [orStop, e2, e4]
/-- the script's cells, read -/
def mixF (ns : List Int) (m : Int) : Int := ns.foldl (fun m c => (m * 69069 + c * 31 + 5).fmod 2147483629) m
def absI (c : Int) : Int := if c < 0 then -c else c
/-- a comprehension whose turns leave the slots as they were -/
theorem lc_fm {bind : PV → Rho → Option Rho} {test : Rho → Out Bool} {elt : Rho → Out Arg} {own : List Nat} {ρ0 : Rho} (b : PV → Bool) (f : PV → Arg) : ∀ (xs : List PV) (acc : List Arg), acc.length + xs.length ≤ sizeLine →
    (∀ x ∈ xs, ∃ ρ1 ρ2, bind x ρ0 = some ρ1 ∧ test ρ1 = .ok (b x) ρ2 ∧ (if b x then ∃ ρ3, elt ρ2 = .ok (f x) ρ3 ∧ wipe ρ3 own = ρ0 else wipe ρ2 own = ρ0)) →
    lcLoop bind test elt own xs acc ρ0 = .ok (acc ++ (xs.filter b).map f) ρ0
  | [], acc, _, _ => by simp [lcLoop]
  | x :: xs, acc, hl, h => by
    obtain ⟨ρ1, ρ2, e1, e2, e3⟩ := h x List.mem_cons_self
    have h' := fun y hy => h y (List.mem_cons_of_mem x hy)
    rw [List.length_cons] at hl
    unfold lcLoop
    rw [e1]
    simp only [orStuck]
    rw [e2]
    simp only [Out.bind]
    cases hb : b x with
    | true =>
      rw [hb] at e3
      simp only [if_true] at e3 ⊢
      obtain ⟨ρ3, e4, e5⟩ := e3
      have hlt : acc.length < sizeLine := by omega
      rw [e4]
      simp only [hlt, if_true]
      rw [e5, lc_fm b f xs (acc ++ [f x]) (by rw [List.length_append]; simp; omega) h']
      simp [hb]
    | false =>
      rw [hb] at e3
      simp only [Bool.false_eq_true, if_false] at e3 ⊢
      rw [e3, lc_fm b f xs acc (by omega) h']
      simp [hb]
def absP : PV → Arg
  | .int c => (.int (absI c), 0)
  | _ => (.non, 0)
theorem minD_scal : ∀ {as : List Arg}, (∀ a ∈ as, isL a.1 = false) → minD as = none
  | [], _ => rfl
  | (x, d) :: r, h => by
    have h1 := h _ List.mem_cons_self
    unfold minD
    rw [if_neg (by simpa using h1)]
    exact minD_scal fun a ha => h a (List.mem_cons_of_mem _ ha)
theorem source_ev {G : Cfg} {ns : List Int} (hl : ns.length ≤ 63) :
    runDef G dSource [true] [(.scr ns, 0)] = .ok ((⟨ns.map absI, 1, mixF ns 11, 0⟩ : St).pv, 2) [(.scr ns, 0)] := by
  have s1 : small 69069 = true := by decide
  have s2 : small 31 = true := by decide
  obtain ⟨ρ', e1, j, e2⟩ := fLoop_inv (bind := fun x ρ => bindP (.name 2) (x, 0) ρ) (body := execs G [.asg (.name 1) (.s (SE.ap2 .mod (SE.ap1 .int (SE.ap2 .add (SE.ap2 .add (SE.ap2 .mul (v 1) (SE.int 69069)) (SE.ap2 .mul (v 2) (SE.int 31))) (SE.int 5))) (SE.int 2147483629)))])
    (fun xs ρ => ∃ r j, xs = r.map PV.int ∧ (j = none ∨ ∃ c, j = some (.int c, 0)) ∧ ∃ p, ns = p ++ r ∧ ρ = [some (.scr ns, 0), some (.int (mixF p 11), 0), j]) (xs := ns.map PV.int) (ρ := [some (.scr ns, 0), some (.int 11, 0), none]) ⟨ns, none, rfl, .inl rfl, [], rfl, rfl⟩ (by
      rintro x xr ρ ⟨r, j, e, _, p, hp, rfl⟩
      cases r with
      | nil => cases e
      | cons c r =>
        cases e
        refine ⟨_, _, rfl, .inl ?_, r, some (.int c, 0), rfl, .inr ⟨c, rfl⟩, p ++ [c], by simp [hp], rfl⟩
        simp [execs, exec, ev, evX, evS, v, slot, fn1, fn2, gI, gInt, s1, s2, orStuck, isL, Out.run, orStop, bindP, mixF])
  obtain ⟨jj, e3, hjj, p, hp, rfl⟩ := e2
  have hr : j = [] := by cases j <;> first | rfl | cases e3
  subst hr
  rw [List.append_nil] at hp
  subst hp
  have lc := lc_fm (bind := fun x ρ => bindP (.name 2) (x, 0) ρ) (test := evIfs G []) (elt := evX G false (.s (SE.ap1 .abs (v 2)))) (own := [2]) (ρ0 := [some (.scr ns, 0), some (.int (mixF ns 11), 0), none]) (fun _ => true) absP (ns.map PV.int) [] (by rw [line]; simp; omega) (by
    rintro x hx
    obtain ⟨c, _, rfl⟩ := List.mem_map.mp hx
    refine ⟨_, _, rfl, rfl, ?_⟩
    rw [if_pos rfl]
    exact ⟨_, rfl, rfl⟩)
  have nd4 := nd [] 0 0 0
  unfold runDef
  rw [if_pos ⟨rfl, rfl⟩]
  unfold dSource
  simp only [List.map, List.replicate, Nat.reduceSub, List.cons_append, List.nil_append]
  rw [execs, show exec G (.asg (.name 1) (.s (SE.int 11))) [some (.scr ns, 0), none, none] = .nx [some (.scr ns, 0), some (.int 11, 0), none] from rfl]
  simp only
  rw [execs, show exec G (.for_ (.name 2) .seq [(V 0)] [.asg (.name 1) (.s (SE.ap2 .mod (SE.ap1 .int (SE.ap2 .add (SE.ap2 .add (SE.ap2 .mul (v 1) (SE.int 69069)) (SE.ap2 .mul (v 2) (SE.int 31))) (SE.int 5))) (SE.int 2147483629)))]) [some (.scr ns, 0), some (.int 11, 0), none] = .nx [some (.scr ns, 0), some (.int (mixF ns 11), 0), jj] from e1]
  simp only
  rw [execs]
  have low : ∀ d, lower 2 d [some (.scr ns, 0), some (.int (mixF ns 11), 0), jj] = [some (.scr ns, 0), some (.int (mixF ns 11), 0), jj] := fun d => by
    rcases hjj with rfl | ⟨c, rfl⟩ <;> rfl
  have e5 : evX G false (.lc [2] (.name 2) .seq [(V 0)] [] (.s (SE.ap1 .abs (v 2)))) [some (.scr ns, 0), some (.int (mixF ns 11), 0), jj] = .ok (.lst ((ns.map absI).map .int), 1) [some (.scr ns, 0), some (.int (mixF ns 11), 0), jj] := by
    have low0 : ∀ d, lower 0 d [some (.scr ns, 0), some (.int (mixF ns 11), 0), jj] = [some (.scr ns, 0), some (.int (mixF ns 11), 0), jj] := fun d => rfl
    unfold evX
    simp only [evo, opd, V, slot, List.getElem?_cons_zero, Option.bind, id, orStuck, Out.bind, valsO, valO, Option.map, iter, iter1, items, lowerO, List.map, low0, low, wipe, List.set, lc]
    have hf : ((ns.map PV.int).filter fun _ => true) = ns.map PV.int := List.filter_eq_self.mpr fun _ _ => rfl
    simp only [noEx, Out.bind, hf, List.nil_append, asT, Bool.false_eq_true, if_false]
    have e6 : unwipe [2] [some (.scr ns, 0), some (.int (mixF ns 11), 0), jj] [some (.scr ns, 0), some (.int (mixF ns 11), 0), none] = [some (.scr ns, 0), some (.int (mixF ns 11), 0), jj] := by
      rcases hjj with rfl | ⟨c, rfl⟩ <;> rfl
    have e7 : minD ((ns.map PV.int).map absP) = none := minD_scal fun a ha => by
      obtain ⟨x, hx, rfl⟩ := List.mem_map.mp ha
      obtain ⟨c, _, rfl⟩ := List.mem_map.mp hx
      rfl
    rw [e6]
    simp only [freshD]
    rw [e7]
    simp only [List.map_map]
    rfl
  generalize he : (ME.lc [2] (.name 2) .seq [(V 0)] [] (.s (SE.ap1 .abs (v 2)))) = m at e5
  have e8 : evX G false (.apA .rev [m]) [some (.scr ns, 0), some (.int (mixF ns 11), 0), jj] = .ok (.lst ((ns.map absI).reverse.map .int), 1) [some (.scr ns, 0), some (.int (mixF ns 11), 0), jj] := by
    have eo : opd m [some (.scr ns, 0), some (.int (mixF ns 11), 0), jj] (evX G false m [some (.scr ns, 0), some (.int (mixF ns 11), 0), jj]) = .ok (.val (.lst ((ns.map absI).map .int), 1)) [some (.scr ns, 0), some (.int (mixF ns 11), 0), jj] := by
      rw [e5, ← he]; rfl
    unfold evX
    simp only [evo]
    rw [eo]
    simp [Out.bind, valsO, valO, orStuck, fa, fa1, gRev, lowerO, asT, isL, List.map_reverse]
  generalize (ME.apA .rev [m]) = m2 at e8 ⊢
  have e9 : evX G false (.dct [(SE.str "cells"), (SE.str "left"), (SE.str "mixed"), (SE.str "turn")] [m2, (.s (SE.int 1)), (V 1), (.s (SE.int 0))]) [some (.scr ns, 0), some (.int (mixF ns 11), 0), jj] = .ok (src (ns.map absI).reverse 1 (mixF ns 11) 0, 2) [some (.scr ns, 0), some (.int (mixF ns 11), 0), jj] := by
    unfold evX
    simp only [evD, evS, keyOf, Option.bind, orStuck, e8, Out.bind]
    simp only [evX, evS, isL, V, slot, List.getElem?_cons_succ, List.getElem?_cons_zero, Option.bind, id, orStuck, Out.bind, lower, if_true, if_false, Bool.false_eq_true, List.isEmpty]
    simp [nd4, asT, n1, n2, n3, n4, n5, n6, src, freshD, minD, isL]
  have e10 : exec G (.ret (.dct [(SE.str "cells"), (SE.str "left"), (SE.str "mixed"), (SE.str "turn")] [m2, (.s (SE.int 1)), (V 1), (.s (SE.int 0))])) [some (.scr ns, 0), some (.int (mixF ns 11), 0), jj] = .rt (src (ns.map absI).reverse 1 (mixF ns 11) 0, 2) [some (.scr ns, 0), some (.int (mixF ns 11), 0), jj] := by
    unfold exec ev
    rw [e9]
    rfl
  rw [e10]
  simp [argsBack, St.pv]
end Sce
end Mi
end
section
set_option linter.all false
/-! Pck: a draw stays in its range, the source grows no cells. -/
namespace Mi
namespace Sce
theorem fmod_rng {a b : Int} (h : 0 < b) : 0 ≤ a.fmod b ∧ a.fmod b < b := ⟨Int.fmod_nonneg_of_pos a h, Int.fmod_lt_of_pos a h⟩
theorem pick_rng (s : St) {many : Int} : 0 ≤ (pickF s many).1 ∧ (pickF s many).1 < max 1 many := by
  have hd : (if (1 : Int) < many then many else 1) = max 1 many := by split <;> omega
  unfold pickF
  generalize (if 1 < many then drawn s.cells s.left else (s.cells, s.left)) = p
  dsimp only
  rw [hd]
  split
  · exact fmod_rng (by omega)
  · next h =>
    obtain ⟨h2, _⟩ := not_or.mp h
    have := fmod_rng (a := ((((s.mixed + (s.turn + 1) * 104729).fmod 998244353) * ((s.mixed + (s.turn + 1) * 104729).fmod 998244353) + (s.turn + 1) * 17).fmod 2147483647).fdiv 16) (b := many) (by omega)
    dsimp only
    exact ⟨this.1, by omega⟩
theorem drawn_len : ∀ (c : List Int) (l : Int), (drawn c l).1.length ≤ c.length
  | [], l => Nat.le_refl _
  | x :: c, l => by
    unfold drawn
    split
    · have := drawn_len c x
      simp only [List.length_cons]; omega
    · exact Nat.le_refl _
theorem pick_len (s : St) (many : Int) : (pickF s many).2.cells.length ≤ s.cells.length := by
  have h : (if 1 < many then drawn s.cells s.left else (s.cells, s.left)).1.length ≤ s.cells.length := by
    split
    · exact drawn_len _ _
    · exact Nat.le_refl _
  unfold pickF
  generalize (if 1 < many then drawn s.cells s.left else (s.cells, s.left)) = p at h
  dsimp only
  split
  · exact h
  · exact h
end Sce
end Mi
end
section
set_option linter.all false
/-! Pln: defs by their place. -/
namespace Mi
open PySem
theorem mkC_app (K : Nat) (par : List Ecl) : ∀ (xs ys : List (Def × List Bool)) (acc : List Fun0), mkC K par (xs ++ ys) acc = mkC K par ys (mkC K par xs acc)
  | [], _, _ => rfl
  | (d, b) :: xs, ys, acc => mkC_app K par xs ys _
theorem lawAt_last {K : Nat} {par : List Ecl} {ds : List (Def × List Bool)} {d : Def} {b : List Bool} {ns : List Int} : lawAt K par (ds ++ [(d, b)]) ns = runDef ⟨mkC K par ds [], K, par⟩ d b [(.scr ns, 0)] := by
  unfold lawAt
  rw [mkC_app]
  show (match (mkC K par ds [] ++ [(⟨runDef ⟨mkC K par ds [], K, par⟩ d b, b⟩ : Fun0)]).getLast? with
    | some F => F.sem [(.scr ns, 0)]
    | none => .stuck) = _
  rw [List.getLast?_append]
  rfl
theorem mkC_len (K : Nat) (par : List Ecl) : ∀ (xs : List (Def × List Bool)) (acc : List Fun0), (mkC K par xs acc).length = acc.length + xs.length
  | [], acc => rfl
  | (d, b) :: xs, acc => by
    show (mkC K par xs (acc ++ [_])).length = _
    rw [mkC_len K par xs]
    simp
    omega
theorem mkC_keep (K : Nat) (par : List Ecl) : ∀ (xs : List (Def × List Bool)) (acc : List Fun0) (j : Nat), j < acc.length → (mkC K par xs acc)[j]? = acc[j]?
  | [], acc, j, _ => rfl
  | (d, b) :: xs, acc, j, h => by
    show (mkC K par xs (acc ++ [_]))[j]? = _
    rw [mkC_keep K par xs _ j (by simp; omega), List.getElem?_append_left h]
/-- a def stands over those ahead of it -/
theorem mkC_at {K : Nat} {par : List Ecl} {xs ys : List (Def × List Bool)} {d : Def} {b : List Bool} {j : Nat} (h : xs.length = j) : (mkC K par (xs ++ (d, b) :: ys) [])[j]? = some ⟨runDef ⟨mkC K par xs [], K, par⟩ d b, b⟩ := by
  rw [mkC_app]
  show (mkC K par ys (mkC K par xs [] ++ [_]))[j]? = _
  have hl := mkC_len K par xs []
  simp only [List.length_nil, Nat.zero_add] at hl
  rw [mkC_keep K par ys _ j (by simp; omega), List.getElem?_append_right (by omega), hl, h, Nat.sub_self]
  rfl
theorem execs_app {G : Cfg} : ∀ (xs ys : List MS) (ρ : Rho), execs G (xs ++ ys) ρ = (match execs G xs ρ with | .nx ρ => execs G ys ρ | o => o)
  | [], ys, ρ => by rw [execs]; rfl
  | x :: xs, ys, ρ => by
    rw [List.cons_append, execs, execs]
    cases exec G x ρ with
    | nx ρ' => exact execs_app xs ys ρ'
    | rt a ρ' => rfl
    | br ρ' => rfl
    | ct ρ' => rfl
    | ex c xs ρ' => rfl
    | stuck => rfl
theorem mkC_next {K : Nat} {par : List Ecl} {xs : List (Def × List Bool)} {d : Def} {b : List Bool} {C : List Fun0} {f : List Arg → COut} (h : mkC K par xs [] = C) (e : runDef ⟨C, K, par⟩ d b = f) : mkC K par (xs ++ [(d, b)]) [] = C ++ [⟨f, b⟩] := by
  rw [mkC_app, h, ← e]
  rfl
theorem execs_one {G : Cfg} {s : MS} {ρ : Rho} : execs G [s] ρ = (match exec G s ρ with | .nx ρ => .nx ρ | o => o) := by
  rw [execs]
  cases exec G s ρ <;> rfl
end Mi
end
section
set_option linter.all false
set_option maxRecDepth 100000
/-! Shl: the evaluator's equations, by functions (to unfold a mini text). -/
namespace Mi
open PySem
section
variable (G : Cfg)
theorem sS_var (i : Nat) : evS (.var i) = fun ρ => (slot ρ i).map (·.1) := rfl
theorem sS_int (i : Int) : evS (.int i) = fun _ => some (.int i) := rfl
theorem sS_bl (i : Bool) : evS (.bl i) = fun _ => some (.bl i) := rfl
theorem sS_non : evS .non = fun _ => some .non := rfl
theorem sS_str (i : Str) : evS (.str i) = fun _ => some (.str i) := rfl
theorem sS_ap1 (f : Fn) (a : SE) : evS (.ap1 f a) = fun ρ => (evS a ρ).bind (fn1 f) := rfl
theorem sS_ap2 (f : Fn) (a b : SE) : evS (.ap2 f a b) = fun ρ => (evS a ρ).bind fun x => (evS b ρ).bind (fn2 f x) := rfl
theorem sS_chain (f g : Fn) (a b c : SE) : evS (.chain f g a b c) = fun ρ => (evS a ρ).bind fun x => (evS b ρ).bind fun y => (fn2 f x y).bind fun r => (isBl r).bind fun t => if t then (evS c ρ).bind (fn2 g y) else some (.bl false) := rfl
theorem sS_not (a : SE) : evS (.not a) = fun ρ => (evS a ρ).bind fun x => (truthy x).map fun b => .bl (!b) := rfl
theorem sS_and (a b : SE) : evS (.and a b) = fun ρ => (evS a ρ).bind fun x => (isBl x).bind fun t => if t then evS b ρ else some (.bl false) := rfl
theorem sS_or (a b : SE) : evS (.or a b) = fun ρ => (evS a ρ).bind fun x => (isBl x).bind fun t => if t then some (.bl true) else evS b ρ := rfl
theorem sS_ite (t a b : SE) : evS (.ite t a b) = fun ρ => (evSt t ρ).bind fun c => if c then evS a ρ else evS b ρ := rfl
theorem sT_var (i : Nat) : evSt (.var i) = fun ρ => (slot ρ i).bind fun a => truthy a.1 := rfl
theorem sT_int (i : Int) : evSt (.int i) = fun _ => some (i != 0) := rfl
theorem sT_bl (i : Bool) : evSt (.bl i) = fun _ => some i := rfl
theorem sT_ap1 (f : Fn) (a : SE) : evSt (.ap1 f a) = fun ρ => (evS a ρ).bind fun x => (fn1 f x).bind truthy := rfl
theorem sT_ap2 (f : Fn) (a b : SE) : evSt (.ap2 f a b) = fun ρ => (evS a ρ).bind fun x => (evS b ρ).bind fun y => (fn2 f x y).bind truthy := rfl
theorem sT_chain (f g : Fn) (a b c : SE) : evSt (.chain f g a b c) = fun ρ => (evS a ρ).bind fun x => (evS b ρ).bind fun y => (fn2 f x y).bind fun r => (isBl r).bind fun t => if t then (evS c ρ).bind fun z => (fn2 g y z).bind truthy else some false := rfl
theorem sT_not (a : SE) : evSt (.not a) = fun ρ => (evSt a ρ).map (!·) := rfl
theorem sT_and (a b : SE) : evSt (.and a b) = fun ρ => (evSt a ρ).bind fun t => if t then evSt b ρ else some false := rfl
theorem sT_or (a b : SE) : evSt (.or a b) = fun ρ => (evSt a ρ).bind fun t => if t then some true else evSt b ρ := rfl
theorem sT_ite (t a b : SE) : evSt (.ite t a b) = fun ρ => (evSt t ρ).bind fun c => if c then evSt a ρ else evSt b ρ := rfl
theorem sSs_nil : evSs [] = fun _ => some [] := rfl
theorem sSs_cons (e : SE) (es : List SE) : evSs (e :: es) = fun ρ => (evS e ρ).bind fun x => (evSs es ρ).map (x :: ·) := rfl
theorem sSo_none : evSo none = fun _ => some none := rfl
theorem sSo_some (e : SE) : evSo (some e) = fun ρ => match evS e ρ with
    | some (.int i) => if wide i then some (some i) else none
    | _ => none := rfl
theorem xF_s (e : SE) : evX G false (.s e) = fun ρ => orStuck (evS e ρ) fun x => if isL x then .stuck else .ok (x, 0) ρ := rfl
theorem xT_s (e : SE) : evX G true (.s e) = fun ρ => orStuck (evSt e ρ) fun b => .ok (.bl b, 0) ρ := rfl
theorem xF_var (i : Nat) : evX G false (.var i) = fun ρ => orStuck (slot ρ i) fun a => .ok (a.1, 0) (lower i 0 ρ) := rfl
theorem xT_var (i : Nat) : evX G true (.var i) = fun ρ => orStuck ((slot ρ i).bind fun a => truthy a.1) fun b => .ok (.bl b, 0) ρ := rfl
theorem x_elem (t : Bool) (i : Nat) (k : SE) : evX G t (.elem i k) = fun ρ => asT t (orStuck (slot ρ i) fun a => orStuck (evS k ρ) fun y => orStuck (get1 a.1 y) fun x => .ok (x, 0) (if isL x then lower i 1 ρ else ρ)) := rfl
theorem x_tup (t : Bool) (es : List ME) : evX G t (.tup es) = fun ρ => asT t ((evs G es ρ).bind fun as ρ => .ok (.tup (as.map (·.1)), 0) ρ) := rfl
theorem x_lst (t : Bool) (es : List ME) : evX G t (.lst es) = fun ρ => asT t ((evs G es ρ).bind fun as ρ => .ok (.lst (as.map (·.1)), freshD as) ρ) := rfl
theorem x_dct (t : Bool) (ks : List SE) (es : List ME) : evX G t (.dct ks es) = fun ρ => asT t ((evD G es ks ρ).bind fun ps ρ => if (ps.map (·.1)).Nodup ∧ ps.length ≤ 15 then .ok (.dct (ps.map fun p => (p.1, p.2.1)), freshD (ps.map (·.2))) ρ else .stuck) := rfl
theorem x_ap (t : Bool) (f : Fn) (es : List ME) : evX G t (.ap f es) = fun ρ => asT t ((evo G es ρ).bind fun os ρ => orStuck (valsO ρ os) fun xs => orStuck (fn f xs) fun x => .ok (x, 0) (if isL x then lowerO 1 os ρ else ρ)) := rfl
theorem x_apA (t : Bool) (f : Fa) (es : List ME) : evX G t (.apA f es) = fun ρ => asT t ((evo G es ρ).bind fun os ρ => orStuck (valsO ρ os) fun xs => orStuck (fa f xs) fun x => .ok (x, if isL x then 1 else 0) (lowerO 1 os ρ)) := rfl
theorem x_slice (t : Bool) (a : ME) (lo hi : Option SE) : evX G t (.slice a lo hi) = fun ρ => asT t ((opd a ρ (evX G false a ρ)).bind fun o ρ => orStuck (evSo lo ρ) fun l => orStuck (evSo hi ρ) fun h => orStuck (valO ρ o) fun x => orStuck (fslice x l h) fun y => .ok (y, if isL y then 1 else 0) (lowerO 1 [o] ρ)) := rfl
/-- a call's run -/
def runF (F : Fun0) (os : List Opd) (ρ : Rho) : Out Arg := orStuck (handOn os F.br ρ) fun p => match F.sem p.1 with
      | .ok r as' => orStuck (backTo os F.br as' p.2) fun ρ => .ok r ρ
      | .ex c xs as' => orStuck (backTo os F.br as' p.2) fun ρ => .ex c xs ρ
      | .stuck => .stuck
theorem x_call (t : Bool) (j : Nat) (es : List ME) : evX G t (.call j es) = fun ρ => asT t ((evo G es ρ).bind fun os ρ => orStuck (G.C[j]?) fun F => runF F os ρ) := rfl
theorem x_lc (t : Bool) (own : List Nat) (p : Pat) (k : Ik) (es ifs : List ME) (e : ME) : evX G t (.lc own p k es ifs e) = fun ρ => asT t (noEx ((evo G es ρ).bind fun os ρ => orStuck (valsO ρ os) fun xs => orStuck (iter k xs) fun items =>
      (lcLoop (fun x ρ => bindP p (x, 0) ρ) (evIfs G ifs) (evX G false e) own items [] (wipe (lowerO 0 (own.map Opd.var) (lowerO 0 os ρ)) own)).bind fun as ρ' => .ok (.lst (as.map (·.1)), freshD as) (unwipe own (lowerO 0 (own.map Opd.var) (lowerO 0 os ρ)) ρ'))) := rfl
theorem x_mut (t : Bool) (o : Mo) (r : Nat) (path : List SE) (es : List ME) : evX G t (.mut o r path es) = fun ρ => asT t (orStuck (evSs path ρ) fun ks => orStuck (slot ρ r) fun x0 => if recvOk o ks x0.1 then
      (evs G es ρ).bind fun as ρ => orStuck (slot ρ r) fun x => orStuck (modAt (change o as) ks x.1 x.2) fun u => .ok u.1 (ρ.set r (some u.2)) else .stuck) := rfl
theorem x_ite (t : Bool) (c a b : ME) : evX G t (.ite c a b) = fun ρ => (ofBl (evX G true c ρ)).bind fun c ρ => if c then evX G t a ρ else evX G t b ρ := rfl
theorem x_and (t : Bool) (a b : ME) : evX G t (.and a b) = fun ρ => (ofBl (evX G t a ρ)).bind fun c ρ => if c then evX G t b ρ else .ok (.bl false, 0) ρ := rfl
theorem x_or (t : Bool) (a b : ME) : evX G t (.or a b) = fun ρ => (ofBl (evX G t a ρ)).bind fun c ρ => if c then .ok (.bl true, 0) ρ else evX G t b ρ := rfl
theorem xT_not (a : ME) : evX G true (.not a) = fun ρ => (ofBl (evX G true a ρ)).bind fun b ρ => .ok (.bl (!b), 0) ρ := rfl
theorem xF_not (a : ME) : evX G false (.not a) = fun ρ => (opd a ρ (evX G false a ρ)).bind fun o ρ => orStuck ((valO ρ o).bind truthy) fun b => .ok (.bl (!b), 0) ρ := rfl
theorem x_no (t : Bool) : evX G t .no = fun _ => .stuck := rfl
theorem x_starT (t : Bool) (a b : ME) : evX G t (.starT a b) = fun ρ => asT t ((evX G false a ρ).bind fun x ρ => match x.1 with
    | .tup xs => (evX G false b ρ).bind fun y ρ => if xs.length < sizeLine then .ok (.tup (xs ++ [y.1]), 0) ρ else .stuck
    | _ => .stuck) := rfl
theorem x_upd (t : Bool) (i : Nat) (e : ME) : evX G t (.upd i e) = fun ρ => asT t (match slot ρ i with
    | some (.dct _, _ + 1) => (evX G false e ρ).bind fun a ρ => (match slot ρ i, a.1 with
      | some (.dct kvs, d + 1), .dct ms => orStuck (updD kvs ms) fun r => .ok (.non, 0) (ρ.set i (some (.dct r, d + 1)))
      | _, _ => .stuck)
    | _ => .stuck) := rfl
theorem x_cmpE (t : Bool) (f : Fn) (e : SE) : evX G t (.cmpE f e) = fun ρ => asT t (orStuck (evS e ρ) fun x => orStuck (fn2 f x (.lst [])) fun z => if isL z then .stuck else .ok (z, 0) ρ) := rfl
theorem o_nil : evo G [] = fun ρ => .ok [] ρ := rfl
theorem o_cons (e : ME) (es : List ME) : evo G (e :: es) = fun ρ => (opd e ρ (evX G false e ρ)).bind fun o ρ => (evo G es ρ).bind fun os ρ => .ok (o :: os) ρ := rfl
theorem s_nil : evs G [] = fun ρ => .ok [] ρ := rfl
theorem s_cons (e : ME) (es : List ME) : evs G (e :: es) = fun ρ => (evX G false e ρ).bind fun a ρ => (evs G es ρ).bind fun as ρ => .ok (a :: as) ρ := rfl
theorem d_nil : evD G [] [] = fun ρ => .ok [] ρ := rfl
theorem d_cons (e : ME) (es : List ME) (k : SE) (ks : List SE) : evD G (e :: es) (k :: ks) = fun ρ => orStuck ((evS k ρ).bind keyOf) fun q => (evX G false e ρ).bind fun a ρ => (evD G es ks ρ).bind fun r ρ => .ok ((q, a) :: r) ρ := rfl
theorem i_nil : evIfs G [] = fun ρ => .ok true ρ := rfl
theorem i_cons (e : ME) (es : List ME) : evIfs G (e :: es) = fun ρ => (ofBl (evX G true e ρ)).bind fun t ρ => if t then evIfs G es ρ else .ok false ρ := rfl
theorem op_var (i : Nat) (ρ : Rho) (o : Out Arg) : opd (.var i) ρ o = orStuck (slot ρ i) fun _ => .ok (.var i) ρ := rfl
/-- an operand that is a value -/
def opv (o : Out Arg) : Out Opd := o.bind fun a ρ => .ok (.val a) ρ
theorem op_s (e : SE) (ρ : Rho) (o : Out Arg) : opd (.s e) ρ o = opv o := rfl
theorem op_elem (i : Nat) (k : SE) (ρ : Rho) (o : Out Arg) : opd (.elem i k) ρ o = opv o := rfl
theorem op_tup (es : List ME) (ρ : Rho) (o : Out Arg) : opd (.tup es) ρ o = opv o := rfl
theorem op_lst (es : List ME) (ρ : Rho) (o : Out Arg) : opd (.lst es) ρ o = opv o := rfl
theorem op_dct (ks : List SE) (es : List ME) (ρ : Rho) (o : Out Arg) : opd (.dct ks es) ρ o = opv o := rfl
theorem op_ap (f : Fn) (es : List ME) (ρ : Rho) (o : Out Arg) : opd (.ap f es) ρ o = opv o := rfl
theorem op_apA (f : Fa) (es : List ME) (ρ : Rho) (o : Out Arg) : opd (.apA f es) ρ o = opv o := rfl
theorem op_slice (a : ME) (l h : Option SE) (ρ : Rho) (o : Out Arg) : opd (.slice a l h) ρ o = opv o := rfl
theorem op_call (j : Nat) (es : List ME) (ρ : Rho) (o : Out Arg) : opd (.call j es) ρ o = opv o := rfl
theorem op_lc (own : List Nat) (p : Pat) (k : Ik) (es ifs : List ME) (e : ME) (ρ : Rho) (o : Out Arg) : opd (.lc own p k es ifs e) ρ o = opv o := rfl
theorem op_mut (m : Mo) (r : Nat) (path : List SE) (es : List ME) (ρ : Rho) (o : Out Arg) : opd (.mut m r path es) ρ o = opv o := rfl
theorem op_ite (c a b : ME) (ρ : Rho) (o : Out Arg) : opd (.ite c a b) ρ o = opv o := rfl
theorem op_and (a b : ME) (ρ : Rho) (o : Out Arg) : opd (.and a b) ρ o = opv o := rfl
theorem op_or (a b : ME) (ρ : Rho) (o : Out Arg) : opd (.or a b) ρ o = opv o := rfl
theorem op_not (a : ME) (ρ : Rho) (o : Out Arg) : opd (.not a) ρ o = opv o := rfl
theorem op_starT (a b : ME) (ρ : Rho) (o : Out Arg) : opd (.starT a b) ρ o = opv o := rfl
theorem op_cmpE (f : Fn) (a : SE) (ρ : Rho) (o : Out Arg) : opd (.cmpE f a) ρ o = opv o := rfl
theorem b_name (i : Nat) (a : Arg) (ρ : Rho) : bindP (.name i) a ρ = if i < ρ.length then some (ρ.set i (some a)) else none := rfl
theorem b_tup (ps : List Pat) (a : Arg) (ρ : Rho) : bindP (.tup ps) a ρ = (elems a.1).bind fun xs => bindPs ps xs ρ := rfl
theorem b_st1 (r : Nat) (l : SE) (a : Arg) (ρ : Rho) : bindP (.st r [l]) a ρ = (evS l ρ).bind fun k => (slot ρ r).bind fun x => (modAt (fun x d => change .set [(k, 0), a] x d) [] x.1 x.2).map fun t => ρ.set r (some t.2) := rfl
theorem b_st2 (r : Nat) (q l : SE) (a : Arg) (ρ : Rho) : bindP (.st r [q, l]) a ρ = (evS q ρ).bind fun q => (evS l ρ).bind fun k => (slot ρ r).bind fun x => (modAt (fun x d => change .set [(k, 0), a] x d) [q] x.1 x.2).map fun t => ρ.set r (some t.2) := by
  show ((evS q ρ).bind fun x => (some ([] : List PV)).map (x :: ·)).bind _ = _
  cases evS q ρ <;> rfl
theorem m_asg (p : Pat) (e : ME) : exec G (.asg p e) = fun ρ => (evX G false e ρ).run fun a ρ => orStop (bindP p a ρ) .nx := rfl
theorem m_asgs (ps : List Pat) (es : List ME) : exec G (.asgs ps es) = fun ρ => (evs G es ρ).run fun as ρ => orStop (bindAs ps as ρ) .nx := rfl
theorem m_ex (e : ME) : exec G (.ex e) = fun ρ => (evX G false e ρ).run fun _ ρ => .nx ρ := rfl
theorem m_ifs (t : ME) (a b : List MS) : exec G (.ifs t a b) = fun ρ => (ofBl (evX G true t ρ)).run fun c ρ => if c then execs G a ρ else execs G b ρ := rfl
theorem m_whl (t : ME) (b : List MS) : exec G (.whl t b) = wLoop (fun ρ => ofBl (evX G true t ρ)) (execs G b) G.K := rfl
theorem m_for (p : Pat) (k : Ik) (es : List ME) (b : List MS) : exec G (.for_ p k es b) = fun ρ => (evo G es ρ).run fun os ρ => orStop (valsO ρ os) fun xs => orStop (iter k xs) fun items => fLoop (fun x ρ => bindP p (x, 0) ρ) (execs G b) items (lowerO 0 os ρ) := rfl
theorem m_ret (e : ME) : exec G (.ret e) = fun ρ => (evX G false e ρ).run fun a ρ => .rt a ρ := rfl
theorem m_retv (i : Nat) : exec G (.retv i) = fun ρ => orStop (slot ρ i) fun a => .rt a (ρ.set i none) := rfl
theorem m_retN : exec G .retN = fun ρ => .rt (.non, 0) ρ := rfl
theorem m_brk : exec G .brk = fun ρ => .br ρ := rfl
theorem m_cont : exec G .cont = fun ρ => .ct ρ := rfl
theorem m_pass : exec G .pass = fun ρ => .nx ρ := rfl
theorem m_no : exec G .no = fun _ => .stuck := rfl
/-- one statement behind another -/
def SOut.andThen (o : SOut) (f : Rho → SOut) : SOut := match o with
  | .nx ρ => f ρ
  | o => o
theorem ms_nil : execs G [] = fun ρ => .nx ρ := rfl
theorem ms_cons (s : MS) (r : List MS) : execs G (s :: r) = fun ρ => (exec G s ρ).andThen (execs G r) := by
  funext ρ
  rw [execs]
  cases exec G s ρ <;> rfl
/-- a def's end -/
def endDef (br : List Bool) : SOut → COut
  | .rt a ρ => (match argsBack br ρ with | some as => .ok a as | none => .stuck)
  | .nx ρ => (match argsBack br ρ with | some as => .ok (.non, 0) as | none => .stuck)
  | .ex c xs ρ => (match argsBack br ρ with | some as => .ex c xs as | none => .stuck)
  | _ => .stuck
theorem run_eq (G : Cfg) (np ns : Nat) (body : List MS) (br : List Bool) : runDef G ⟨np, ns, body⟩ br = fun as => if as.length = np ∧ br.length = np then endDef br (execs G body (as.map some ++ List.replicate (ns - np) none)) else .stuck := by
  funext as
  unfold runDef
  dsimp only
  split
  · cases execs G body (as.map some ++ List.replicate (ns - np) none) <;> rfl
  · rfl
end
end Mi
namespace Mi
open PySem
theorem z_asT (o : Out Arg) : asT false o = o := rfl
theorem z_ok {α β : Type} (a : α) (ρ : Rho) (f : α → Rho → Out β) : (Out.ok a ρ).bind f = f a ρ := rfl
theorem z_okr {α : Type} (a : α) (ρ : Rho) (f : α → Rho → SOut) : (Out.ok a ρ).run f = f a ρ := rfl
theorem z_some {α β : Type} (a : α) (f : α → Out β) : orStuck (some a) f = f a := rfl
theorem z_stop {α : Type} (a : α) (f : α → SOut) : orStop (some a) f = f a := rfl
theorem z_bind {α β : Type} (a : α) (f : α → Option β) : (some a).bind f = f a := rfl
theorem z_map {α β : Type} (a : α) (f : α → β) : (some a).map f = some (f a) := rfl
theorem z_st {α β γ : Type} (o : Option α) (f : α → Out β) (g : β → Rho → Out γ) : (orStuck o f).bind g = orStuck o fun a => (f a).bind g := by cases o <;> rfl
theorem z_as {α β γ : Type} (o : Out α) (f : α → Rho → Out β) (g : β → Rho → Out γ) : (o.bind f).bind g = o.bind fun a ρ => (f a ρ).bind g := by cases o <;> rfl
theorem z_str {α β : Type} (o : Option α) (f : α → Out β) (g : β → Rho → SOut) : (orStuck o f).run g = orStop o fun a => (f a).run g := by cases o <;> rfl
theorem z_asr {α β : Type} (o : Out α) (f : α → Rho → Out β) (g : β → Rho → SOut) : (o.bind f).run g = o.run fun a ρ => (f a ρ).run g := by cases o <;> rfl
theorem z_opk (a : Arg) (ρ : Rho) : opv (.ok a ρ) = .ok (.val a) ρ := rfl
theorem z_ops {α : Type} (o : Option α) (f : α → Out Arg) : opv (orStuck o f) = orStuck o fun a => opv (f a) := by cases o <;> rfl
theorem z_opb {α : Type} (o : Out α) (f : α → Rho → Out Arg) : opv (o.bind f) = o.bind fun a ρ => opv (f a ρ) := by cases o <;> rfl
theorem z_v0 (ρ : Rho) : valsO ρ [] = some [] := rfl
theorem z_v1 (ρ : Rho) (a : Arg) (os : List Opd) : valsO ρ (.val a :: os) = (valsO ρ os).map (a.1 :: ·) := rfl
theorem z_v2 (ρ : Rho) (i : Nat) (os : List Opd) : valsO ρ (.var i :: os) = ((slot ρ i).map (·.1)).bind fun x => (valsO ρ os).map (x :: ·) := rfl
theorem z_o0 (ρ : Rho) (m : Nat) : lowerO m [] ρ = ρ := rfl
theorem z_o1 (ρ : Rho) (m : Nat) (a : Arg) (os : List Opd) : lowerO m (.val a :: os) ρ = lowerO m os ρ := rfl
theorem z_o2 (ρ : Rho) (m i : Nat) (os : List Opd) : lowerO m (.var i :: os) ρ = lowerO m os (lower i m ρ) := rfl
theorem z_m0 {α β : Type} (f : α → β) : [].map f = [] := rfl
theorem z_m1 {α β : Type} (f : α → β) (a : α) (l : List α) : (a :: l).map f = f a :: l.map f := rfl
theorem z_bl (b : Bool) (ρ : Rho) : ofBl (.ok (.bl b, 0) ρ) = .ok b ρ := rfl
theorem z_bls {α : Type} (o : Option α) (f : α → Out Arg) : ofBl (orStuck o f) = orStuck o fun a => ofBl (f a) := by cases o <;> rfl
theorem z_blb {α : Type} (o : Out α) (f : α → Rho → Out Arg) : ofBl (o.bind f) = o.bind fun a ρ => ofBl (f a ρ) := by cases o <;> rfl
theorem z_f1 (f : Fn) (x : PV) : fn f [x] = fn1 f x := rfl
theorem z_f2 (f : Fn) (x y : PV) : fn f [x, y] = fn2 f x y := rfl
theorem z_a1 (f : Fa) (x : PV) : fa f [x] = fa1 f x := rfl
theorem z_a2 (f : Fa) (x y : PV) : fa f [x, y] = fa2 f x y := rfl
theorem z_i1 (k : Ik) (x : PV) : iter k [x] = iter1 k x := rfl
theorem z_i2 (k : Ik) (x y : PV) : iter k [x, y] = iter2 k x y := rfl
theorem z_p0 (ρ : Rho) : bindPs [] [] ρ = some ρ := rfl
theorem z_mb {α β γ : Type} (o : Option α) (f : α → β) (g : β → Option γ) : (o.map f).bind g = o.bind fun a => g (f a) := by cases o <;> rfl
theorem z_bb {α β γ : Type} (o : Option α) (f : α → Option β) (g : β → Option γ) : (o.bind f).bind g = o.bind fun a => (f a).bind g := by cases o <;> rfl
theorem z_mm {α β γ : Type} (o : Option α) (f : α → β) (g : β → γ) : (o.map f).map g = o.map fun a => g (f a) := by cases o <;> rfl
end Mi
end
section
set_option linter.all false
/-! Fst: the functions on values, by cheaper roads for whole numbers (the kernel counts with them). -/
namespace Mi
open PySem
theorem peq_ii (a b : Int) : peq (.int a) (.int b) = some (decide (a = b)) := by
  unfold peq
  simp [toD, okD, PyData.canLay0, PyData.depth, PyData.eqv]
  rfl
theorem toDs_ints : ∀ {xs : List PV} {is : List Int}, intsOf xs = some is → toDs xs = some (is.map PyData.int)
  | [], _, h => by cases h; rfl
  | .int i :: r, is, h => by
    unfold intsOf at h
    cases hr : intsOf r with
    | none => rw [hr] at h; cases h
    | some js =>
      rw [hr] at h; cases h
      simp [toDs, toD, toDs_ints hr]
  | .non :: r, is, h => by unfold intsOf at h; cases h
  | .bl _ :: r, is, h => by unfold intsOf at h; cases h
  | .str _ :: r, is, h => by unfold intsOf at h; cases h
  | .tup _ :: r, is, h => by unfold intsOf at h; cases h
  | .lst _ :: r, is, h => by unfold intsOf at h; cases h
  | .dct _ :: r, is, h => by unfold intsOf at h; cases h
  | .exc _ _ :: r, is, h => by unfold intsOf at h; cases h
  | .scr _ :: r, is, h => by unfold intsOf at h; cases h
theorem lay_ints : ∀ is : List Int, PyData.canLayAll0 (is.map PyData.int) = true
  | [] => by simp [PyData.canLayAll0]
  | i :: r => by simp [PyData.canLayAll0, PyData.canLay0, lay_ints r]
theorem dep_ints : ∀ is : List Int, PyData.depthAll (is.map PyData.int) ≤ 1
  | [] => by simp [PyData.depthAll]
  | i :: r => by
    have := dep_ints r
    simp only [List.map_cons, PyData.depthAll, PyData.depth]
    omega
def eqL : List Int → List Int → Bool
  | [], [] => true
  | x :: xs, y :: ys => match decide (x = y) with
    | true => eqL xs ys
    | false => false
  | _, _ => false
theorem eqv_ints : ∀ is js : List Int, PyData.eqvAll (is.map PyData.int) (js.map PyData.int) = eqL is js
  | [], [] => by simp [PyData.eqvAll, eqL]
  | [], j :: js => by simp [PyData.eqvAll, eqL]
  | i :: is, [] => by simp [PyData.eqvAll, eqL]
  | i :: is, j :: js => by
    simp only [List.map_cons, PyData.eqvAll, PyData.eqv, eqv_ints is js, eqL]
    by_cases h : i = j
    · simp [h]
    · simp [h]
theorem ok_tup (is : List Int) : okD (.tuple (is.map PyData.int)) = true := by
  have h1 := lay_ints is
  have h2 := dep_ints is
  have h3 : PyData.depth (.tuple (is.map PyData.int)) ≤ 63 := by
    rw [PyData.depth]
    omega
  simp only [okD, PyData.canLay0, h1, Bool.true_and, decide_eq_true_eq]
  exact h3
theorem ok_lst (is : List Int) : okD (.list (is.map PyData.int)) = true := by
  have h1 := lay_ints is
  have h2 := dep_ints is
  have h3 : PyData.depth (.list (is.map PyData.int)) ≤ 63 := by
    rw [PyData.depth]
    omega
  simp only [okD, PyData.canLay0, h1, Bool.true_and, decide_eq_true_eq]
  exact h3
/-- x == y -/
def peqF (x y : PV) : Option Bool := match x, y with
  | .int a, .int b => some (decide (a = b))
  | .tup xs, .tup ys => (match intsOf xs, intsOf ys with
    | some a, some b => some (eqL a b)
    | _, _ => peq (.tup xs) (.tup ys))
  | .lst xs, .lst ys => (match intsOf xs, intsOf ys with
    | some a, some b => some (eqL a b)
    | _, _ => peq (.lst xs) (.lst ys))
  | x, y => peq x y
theorem peq_F (x y : PV) : peq x y = peqF x y := by
  unfold peqF
  split
  · exact peq_ii _ _
  · split
    · next a b ha hb => simp [peq, toD, toDs_ints ha, toDs_ints hb, ok_tup, PyData.eqv, eqv_ints]
    · rfl
  · split
    · next a b ha hb => simp [peq, toD, toDs_ints ha, toDs_ints hb, ok_lst, PyData.eqv, eqv_ints]
    · rfl
  · rfl
def memF (x : PV) : List PV → Option Bool
  | [] => (peqF x x).map fun _ => false
  | y :: ys => match peqF y x with
    | some a => (match memF x ys with
      | some b => some (a || b)
      | none => none)
    | none => none
theorem mem_F (x : PV) : ∀ ys, memB x ys = memF x ys
  | [] => by unfold memB memF; rw [peq_F]
  | y :: ys => by
    unfold memB memF
    rw [peq_F, mem_F x ys]
    cases peqF y x <;> cases memF x ys <;> rfl
def inF (x y : PV) : Option Bool := match y with
  | .lst ys => memF x ys
  | .tup ys => memF x ys
  | y => inB x y
theorem in_F (x y : PV) : inB x y = inF x y := by
  unfold inF
  split
  · exact mem_F _ _
  · exact mem_F _ _
  · rfl
/-- the element at a place -/
def nth : List PV → Nat → Option PV
  | [], _ => none
  | a :: _, 0 => some a
  | _ :: r, k + 1 => nth r k
theorem nth_eq : ∀ (xs : List PV) (k : Nat), nth xs k = xs[k]?
  | [], _ => rfl
  | a :: _, 0 => rfl
  | _ :: r, k + 1 => by rw [nth, nth_eq r k]; rfl
def atF (xs : List PV) (i : Int) : Option PV := match i with
  | .ofNat k => nth xs k
  | i => atI xs i
theorem at_F (xs : List PV) (i : Int) : atI xs i = atF xs i := by
  unfold atF
  split
  · next k =>
    rw [nth_eq]
    unfold atI ixN
    have h0 : (0 : Int) ≤ Int.ofNat k := Int.natCast_nonneg k
    rw [if_pos h0]
    by_cases h : k < xs.length
    · have : Int.ofNat k < (xs.length : Int) := by simpa using h
      rw [if_pos this]
      rfl
    · have : ¬ (Int.ofNat k < (xs.length : Int)) := by simpa using h
      rw [if_neg this, List.getElem?_eq_none (by omega)]
      rfl
  · rfl
def getF (x y : PV) : Option PV := match x, y with
  | .lst xs, .int i => atF xs i
  | .tup xs, .int i => atF xs i
  | x, y => get1 x y
theorem get_F (x y : PV) : get1 x y = getF x y := by
  unfold getF
  split
  · exact at_F _ _
  · exact at_F _ _
  · rfl
def fn2F (f : Fn) (x y : PV) : Option PV := match f with
  | .eq => (peqF x y).map .bl
  | .ne => (peqF x y).map fun b => .bl (!b)
  | .in_ => (inF x y).map .bl
  | .notin => (inF x y).map fun b => .bl (!b)
  | .get => getF x y
  | f => fn2 f x y
theorem fn2_F : @fn2 = fn2F := by
  funext f x y
  unfold fn2F
  split <;> simp only [fn2, peq_F, in_F, get_F]
theorem get1_F : @get1 = getF := by funext x y; exact get_F x y
/-- what a slot holds -/
noncomputable def slotF (ρ : List (Option Arg)) (i : Nat) : Option Arg := List.rec (motive := fun _ => Nat → Option Arg) (fun _ => none) (fun a _ ih i => Nat.rec (motive := fun _ => Option Arg) a (fun i _ => ih i) i) ρ i
theorem slot_eq : ∀ (ρ : Rho) (k : Nat), slot ρ k = slotF ρ k
  | [], _ => rfl
  | a :: _, 0 => rfl
  | _ :: r, k + 1 => slot_eq r k
theorem slot_F : @slot = slotF := by funext ρ i; exact slot_eq ρ i
/-- a slot filled -/
noncomputable def setF (ρ : List (Option Arg)) (i : Nat) (x : Option Arg) : List (Option Arg) := List.rec (motive := fun _ => Nat → List (Option Arg)) (fun _ => []) (fun a r ih i => Nat.rec (motive := fun _ => List (Option Arg)) (x :: r) (fun i _ => a :: ih i) i) ρ i
theorem set_eq : ∀ (ρ : Rho) (k : Nat) (x : Option Arg), ρ.set k x = setF ρ k x
  | [], _, _ => rfl
  | a :: _, 0, _ => rfl
  | a :: r, k + 1, x => by
    show a :: r.set k x = a :: setF r k x
    rw [set_eq r k x]
theorem f_get : fn2F .get = getF := rfl
theorem f_eq : fn2F .eq = fun x y => (peqF x y).map .bl := rfl
theorem f_ne : fn2F .ne = fun x y => (peqF x y).map fun b => .bl (!b) := rfl
theorem f_in : fn2F .in_ = fun x y => (inF x y).map .bl := rfl
theorem f_notin : fn2F .notin = fun x y => (inF x y).map fun b => .bl (!b) := rfl
theorem f_add : fn2F .add = gI (fun i j => some (.int (i + j))) := rfl
theorem f_sub : fn2F .sub = gI (fun i j => some (.int (i - j))) := rfl
theorem f_lt : fn2F .lt = gI (fun i j => some (.bl (decide (i < j)))) := rfl
theorem f_le : fn2F .le = gI (fun i j => some (.bl (decide (i ≤ j)))) := rfl
theorem f_gt : fn2F .gt = gI (fun i j => some (.bl (decide (j < i)))) := rfl
theorem f_ge : fn2F .ge = gI (fun i j => some (.bl (decide (j ≤ i)))) := rfl
end Mi
end
section
set_option linter.all false
set_option maxRecDepth 100000
set_option maxHeartbeats 4000000
/-! P1: typed values for the plain laws; steps by simp. -/
namespace Mi
open PySem
def pN (k : Nat) : PV := .int (k : Int)
def tN (xs : List Nat) : PV := .tup (xs.map pN)
def lN (xs : List Nat) : PV := .lst (xs.map pN)
/-- n numbers told by a function -/
def tF (n : Nat) (f : Nat → Int) : PV := .tup ((List.range n).map fun v => .int (f v))
def lF (n : Nat) (f : Nat → Int) : PV := .lst ((List.range n).map fun v => .int (f v))
def tab (n : Nat) (J : Nat → Nat → Int) : PV := .lst ((List.range n).map fun v => lF n (J v))
def road (p : Nat × Nat) : PV := .tup [pN p.1, pN p.2]
structure Web where
  n : Nat
  roads : List (Nat × Nat)
  turns : List (List Nat)
def Web.pv (w : Web) : PV := .tup [pN w.n, .tup (w.roads.map road), .tup (w.turns.map tN)]
def upd {α : Type} (f : Nat → α) (v : Nat) (y : α) : Nat → α := fun i => if i = v then y else f i
def S (n : Nat) (f : Nat → Int) : Int := ((List.range n).map f).sum

/-! slots -/
theorem sl0 (a : Option Arg) (r : Rho) : slotF (a :: r) 0 = a := rfl
theorem slS (a : Option Arg) (r : Rho) (k : Nat) : slotF (a :: r) (k + 1) = slotF r k := rfl
theorem st0 (a x : Option Arg) (r : Rho) : setF (a :: r) 0 x = x :: r := rfl
theorem stS (a x : Option Arg) (r : Rho) (k : Nat) : setF (a :: r) (k + 1) x = a :: setF r k x := rfl
theorem lw0 (x : PV) (d m : Nat) (r : Rho) : lower 0 m (some (x, d) :: r) = (if isL x then some (x, min d m) :: r else some (x, d) :: r) := rfl
theorem lwN (m : Nat) (r : Rho) : lower 0 m (none :: r) = none :: r := rfl
theorem lwM {α : Type} (o : Option α) (f : α → PV) (m : Nat) (r : Rho) (h : ∀ a, isL (f a) = false) : lower 0 m (Option.map (fun a => (f a, 0)) o :: r) = Option.map (fun a => (f a, 0)) o :: r := by
  cases o with
  | none => rfl
  | some a => rw [Option.map_some, lw0, if_neg (by rw [h]; decide)]
theorem lwS (a : Option Arg) (i m : Nat) (r : Rho) : lower (i + 1) m (a :: r) = a :: lower i m r := by
  unfold lower
  show (match slot (a :: r) (i + 1) with | some (x, d) => _ | none => _) = _
  rw [show slot (a :: r) (i + 1) = slot r i from rfl]
  cases slot r i with
  | none => rfl
  | some p =>
    obtain ⟨x, d⟩ := p
    dsimp only
    split <;> rfl
/-! calls -/
def notIn (i : Nat) : List Opd → Bool
  | [] => true
  | .val _ :: os => notIn i os
  | .var j :: os => (i != j) && notIn i os
theorem notIn_eq (i : Nat) : ∀ os : List Opd, (os.all (fun o => match o with | .var j => i != j | .val _ => true)) = notIn i os
  | [] => rfl
  | .val _ :: os => by rw [List.all_cons, notIn_eq i os]; rfl
  | .var j :: os => by rw [List.all_cons, notIn_eq i os]; rfl
theorem hdT (i : Nat) (os : List Opd) (br : List Bool) : handed i os (true :: br) = notIn i os := by
  exact notIn_eq i os
theorem hdF (i : Nat) (os : List Opd) (br : List Bool) : handed i os (false :: br) = false := rfl
theorem nI0 (i : Nat) : notIn i [] = true := rfl
theorem nI1 (i : Nat) (a : Arg) (os : List Opd) : notIn i (.val a :: os) = notIn i os := rfl
theorem nI2 (i j : Nat) (os : List Opd) : notIn i (.var j :: os) = ((i != j) && notIn i os) := rfl
theorem ho0 (br : List Bool) (ρ : Rho) : handOn [] br ρ = some ([], ρ) := rfl
theorem ho1 (a : Arg) (os : List Opd) (b : Bool) (br : List Bool) (ρ : Rho) : handOn (.val a :: os) (b :: br) ρ = (handOn os br ρ).map fun p => (a :: p.1, p.2) := rfl
theorem ho2 (i : Nat) (os : List Opd) (b : Bool) (br : List Bool) (ρ : Rho) : handOn (.var i :: os) (b :: br) ρ = (slotF ρ i).bind fun a => if handed i os (b :: br) then (handOn os br (setF ρ i none)).map fun p => (a :: p.1, p.2)
      else (slotF (lower i 0 ρ) i).bind fun a => (handOn os br (lower i 0 ρ)).map fun p => (a :: p.1, p.2) := by
  rw [← slot_F, ← set_eq]; rfl
theorem bt0 (br : List Bool) (ρ : Rho) : backTo [] br [] ρ = some ρ := rfl
theorem bt1 (a x : Arg) (os : List Opd) (b : Bool) (br : List Bool) (as : List Arg) (ρ : Rho) : backTo (.val a :: os) (b :: br) (x :: as) ρ = backTo os br as ρ := rfl
theorem bt2 (i : Nat) (x : Arg) (os : List Opd) (b : Bool) (br : List Bool) (as : List Arg) (ρ : Rho) : backTo (.var i :: os) (b :: br) (x :: as) ρ = if handed i os (b :: br) then (if i < ρ.length then backTo os br as (setF ρ i (some x)) else none) else backTo os br as ρ := by
  rw [← set_eq]; rfl
theorem runOk {F : Fun0} {os : List Opd} {ρ : Rho} : runF F os ρ = orStuck (handOn os F.br ρ) fun p => match F.sem p.1 with
      | .ok r as' => orStuck (backTo os F.br as' p.2) fun ρ => .ok r ρ
      | .ex c xs as' => orStuck (backTo os F.br as' p.2) fun ρ => .ex c xs ρ
      | .stuck => .stuck := rfl
theorem ab0 (ρ : Rho) : argsBack [] ρ = some [] := rfl
theorem ab1 (bs : List Bool) (a : Arg) (ρ : Rho) : argsBack (true :: bs) (some a :: ρ) = (argsBack bs ρ).map (a :: ·) := rfl
theorem ab2 (bs : List Bool) (a : Option Arg) (ρ : Rho) : argsBack (false :: bs) (a :: ρ) = (argsBack bs ρ).map ((.non, 0) :: ·) := rfl
theorem wp0 (ρ : Rho) : wipe ρ [] = ρ := rfl
theorem wp1 (ρ : Rho) (v : Nat) (vs : List Nat) : wipe ρ (v :: vs) = setF (wipe ρ vs) v none := by
  rw [← set_eq]; rfl
theorem uw0 (old new : Rho) : unwipe [] old new = new := rfl
theorem uw1 (v : Nat) (vs : List Nat) (old new : Rho) : unwipe (v :: vs) old new = unwipe vs old (setF new v (slotF old v)) := by
  rw [← set_eq, ← slot_F]
  show unwipe vs old (new.set v ((old[v]?).getD none)) = _
  have : (old[v]?).getD none = slot old v := by
    unfold slot
    cases old[v]? <;> rfl
  rw [this]
theorem aN (ρ : Rho) (f : Rho → SOut) : (SOut.nx ρ).andThen f = f ρ := rfl
theorem aR (a : Arg) (ρ : Rho) (f : Rho → SOut) : (SOut.rt a ρ).andThen f = .rt a ρ := rfl
theorem aB (ρ : Rho) (f : Rho → SOut) : (SOut.br ρ).andThen f = .br ρ := rfl
theorem aC (ρ : Rho) (f : Rho → SOut) : (SOut.ct ρ).andThen f = .ct ρ := rfl
theorem endR (br : List Bool) (a : Arg) (ρ : Rho) : endDef br (.rt a ρ) = (match argsBack br ρ with | some as => .ok a as | none => .stuck) := rfl
theorem endN (br : List Bool) (ρ : Rho) : endDef br (.nx ρ) = (match argsBack br ρ with | some as => .ok (.non, 0) as | none => .stuck) := rfl
theorem asF (o : Out Arg) : asT false o = o := rfl
theorem asTT (a : Arg) (ρ : Rho) : asT true (.ok a ρ) = orStuck (truthy a.1) fun b => .ok (.bl b, 0) ρ := rfl
theorem nE {α : Type} (a : α) (ρ : Rho) : noEx (.ok a ρ) = .ok a ρ := rfl
theorem ba0 (ρ : Rho) : bindAs [] [] ρ = some ρ := rfl
theorem ba1 (i : Nat) (ps : List Pat) (x : Arg) (xs : List Arg) (ρ : Rho) : bindAs (.name i :: ps) (x :: xs) ρ = if i < ρ.length then bindAs ps xs (setF ρ i (some x)) else none := by
  rw [← set_eq]
  show ((if i < ρ.length then some (ρ.set i (some x)) else none).bind fun ρ => bindAs ps xs ρ) = _
  split <;> rfl
theorem bp0 (ρ : Rho) : bindPs [] [] ρ = some ρ := rfl
theorem bp1 (i : Nat) (ps : List Pat) (x : PV) (xs : List PV) (ρ : Rho) : bindPs (.name i :: ps) (x :: xs) ρ = if i < ρ.length then bindPs ps xs (setF ρ i (some (x, 0))) else none := by
  rw [← set_eq]
  show ((if i < ρ.length then some (ρ.set i (some (x, 0))) else none).bind fun ρ => bindPs ps xs ρ) = _
  split <;> rfl
theorem trB (b : Bool) : truthy (.bl b) = some b := rfl
theorem isB (b : Bool) : isBl (.bl b) = some b := rfl
theorem elT (xs : List PV) : elems (.tup xs) = some xs := rfl
theorem elL (xs : List PV) : elems (.lst xs) = some xs := rfl
theorem mn0 : minD [] = none := rfl
theorem mnF (x : PV) (d : Nat) (r : List Arg) (h : isL x = false) : minD ((x, d) :: r) = minD r := by
  show (if isL x then _ else minD r) = _
  rw [h]; rfl
theorem mnT (x : PV) (d : Nat) (r : List Arg) (h : isL x = true) : minD ((x, d) :: r) = some (match minD r with | some e => min d e | none => d) := by
  show (if isL x then _ else minD r) = _
  rw [h]
  cases minD r <;> rfl
theorem fr (as : List Arg) : freshD as = 1 + (minD as).getD 0 := rfl
theorem fr0 : freshD [] = 1 := rfl
theorem minD_c {α : Type} (f : α → PV) (d : Nat) : ∀ (xs : List α), (∀ x ∈ xs, isL (f x) = false) → minD (xs.map fun x => (f x, d)) = none
  | [], _ => rfl
  | x :: xs, h => by
    rw [List.map_cons, mnF _ _ _ (h x List.mem_cons_self)]
    exact minD_c f d xs fun y hy => h y (List.mem_cons_of_mem _ hy)
theorem fresh_c {α : Type} (f : α → PV) (d : Nat) (xs : List α) (h : ∀ x ∈ xs, isL (f x) = false) : freshD (xs.map fun x => (f x, d)) = 1 := by
  rw [fr, minD_c f d xs h]; rfl
theorem minD_l {α : Type} (f : α → PV) (d : Nat) : ∀ (xs : List α), xs ≠ [] → (∀ x ∈ xs, isL (f x) = true) → minD (xs.map fun x => (f x, d)) = some d
  | [], h, _ => absurd rfl h
  | [x], _, h => by
    rw [List.map_cons, mnT _ _ _ (h x List.mem_cons_self)]; rfl
  | x :: y :: xs, _, h => by
    rw [List.map_cons, mnT _ _ _ (h x List.mem_cons_self), minD_l f d (y :: xs) (by simp) fun z hz => h z (List.mem_cons_of_mem _ hz)]
    simp
theorem fresh_l {α : Type} (f : α → PV) (d : Nat) (xs : List α) (h0 : xs ≠ []) (h : ∀ x ∈ xs, isL (f x) = true) : freshD (xs.map fun x => (f x, d)) = 1 + d := by
  rw [fr, minD_l f d xs h0 h]; rfl
/-! what is a list -/
theorem iT (xs : List PV) : isL (.tup xs) = false := rfl
theorem iL (xs : List PV) : isL (.lst xs) = true := rfl
theorem iI (i : Int) : isL (.int i) = false := rfl
theorem iB (b : Bool) : isL (.bl b) = false := rfl
theorem iO : isL .non = false := rfl
theorem iS (x : Str) : isL (.str x) = false := rfl
theorem iW (w : Web) : isL w.pv = false := rfl
theorem iN (k : Nat) : isL (pN k) = false := rfl
theorem iR (p : Nat × Nat) : isL (road p) = false := rfl
theorem itN (xs : List Nat) : isL (tN xs) = false := rfl
theorem ilN (xs : List Nat) : isL (lN xs) = true := rfl
theorem itF (n : Nat) (f : Nat → Int) : isL (tF n f) = false := rfl
theorem ilF (n : Nat) (f : Nat → Int) : isL (lF n f) = true := rfl
theorem itb (n : Nat) (f : Nat → Nat → Int) : isL (tab n f) = true := rfl
theorem iSr (s : Sce.St) : isL s.pv = true := rfl
/-! reads -/
theorem g0 (a : PV) (xs : List PV) : getF (.tup (a :: xs)) (.int 0) = some a := rfl
theorem g1 (a b : PV) (xs : List PV) : getF (.tup (a :: b :: xs)) (.int 1) = some b := rfl
theorem g2 (a b c : PV) (xs : List PV) : getF (.tup (a :: b :: c :: xs)) (.int 2) = some c := rfl
theorem gL0 (a : PV) (xs : List PV) : getF (.lst (a :: xs)) (.int 0) = some a := rfl
theorem gL1 (a b : PV) (xs : List PV) : getF (.lst (a :: b :: xs)) (.int 1) = some b := rfl
theorem gLn (xs : List PV) (k : Nat) : getF (.lst xs) (pN k) = xs[k]? := nth_eq xs k
theorem gTn (xs : List PV) (k : Nat) : getF (.tup xs) (pN k) = xs[k]? := nth_eq xs k
theorem web0 (w : Web) : getF w.pv (.int 0) = some (pN w.n) := rfl
theorem web1 (w : Web) : getF w.pv (.int 1) = some (.tup (w.roads.map road)) := rfl
theorem web2 (w : Web) : getF w.pv (.int 2) = some (.tup (w.turns.map tN)) := rfl
theorem rd0 (p : Nat × Nat) : getF (road p) (.int 0) = some (pN p.1) := rfl
theorem rd1 (p : Nat × Nat) : getF (road p) (.int 1) = some (pN p.2) := rfl
theorem rdE (p : Nat × Nat) : elems (road p) = some [pN p.1, pN p.2] := rfl
theorem rng (n k : Nat) (f : Nat → PV) (h : k < n) : ((List.range n).map f)[k]? = some (f k) := by
  rw [List.getElem?_map, List.getElem?_range h]; rfl
theorem gtF (n k : Nat) (f : Nat → Int) (h : k < n) : getF (tF n f) (pN k) = some (.int (f k)) := by
  unfold tF; rw [gTn, rng n k _ h]
theorem glF (n k : Nat) (f : Nat → Int) (h : k < n) : getF (lF n f) (pN k) = some (.int (f k)) := by
  unfold lF; rw [gLn, rng n k _ h]
theorem gtb (n k : Nat) (J : Nat → Nat → Int) (h : k < n) : getF (tab n J) (pN k) = some (lF n (J k)) := by
  unfold tab; rw [gLn, rng n k _ h]
theorem gtN (xs : List Nat) (k : Nat) (h : k < xs.length) : getF (tN xs) (pN k) = some (pN xs[k]) := by
  unfold tN; rw [gTn, List.getElem?_map, List.getElem?_eq_getElem h]; rfl
theorem glN (xs : List Nat) (k : Nat) (h : k < xs.length) : getF (lN xs) (pN k) = some (pN xs[k]) := by
  unfold lN; rw [gLn, List.getElem?_map, List.getElem?_eq_getElem h]; rfl
theorem f2g (x y : PV) : fn2 .get x y = getF x y := by rw [fn2_F]; rfl
/-! walks -/
theorem upto_rng : ∀ (n k : Nat), upto (k : Int) n = (List.range' k n).map pN
  | 0, k => rfl
  | n + 1, k => by
    have := upto_rng n (k + 1)
    rw [upto, List.range'_succ, List.map_cons, ← this]
    rfl
theorem wideN (n : Nat) (h : n < 1000000) : wide (n : Int) = true := by
  unfold wide
  simp only [Bool.and_eq_true, decide_eq_true_eq]
  omega
theorem w1 (n : Nat) (h : n < 1000000) : iter1 .range1 (pN n) = some ((List.range n).map pN) := by
  show itR1 (.int n) = _
  have := upto_rng n 0
  simp only [itR1, wideN n h, if_true, Int.toNat_natCast, List.range_eq_range']
  rw [← this]; rfl
theorem wT (xs : List PV) : iter1 .seq (.tup xs) = some xs := rfl
theorem wL (xs : List PV) : iter1 .seq (.lst xs) = some xs := rfl
theorem wlN (xs : List Nat) : iter1 .seq (lN xs) = some (xs.map pN) := rfl
theorem wtN (xs : List Nat) : iter1 .seq (tN xs) = some (xs.map pN) := rfl
theorem wtb (n : Nat) (J : Nat → Nat → Int) : iter1 .seq (tab n J) = some ((List.range n).map fun v => lF n (J v)) := rfl
theorem wtF (n : Nat) (f : Nat → Int) : iter1 .seq (tF n f) = some ((List.range n).map fun v => .int (f v)) := rfl
theorem enum_eq {α : Type} (p : α → PV) : ∀ (xs : List α) (k : Nat), enumFrom' k (xs.map p) = (xs.zipIdx k).map fun q => .tup [pN q.2, p q.1]
  | [], k => rfl
  | x :: xs, k => by
    rw [List.map_cons, enumFrom', List.zipIdx_cons, List.map_cons, enum_eq p xs (k + 1)]; rfl
theorem enum_rng (p : Nat → PV) : ∀ (n k : Nat), enumFrom' k ((List.range' k n).map p) = (List.range' k n).map fun v => .tup [pN v, p v]
  | 0, k => rfl
  | n + 1, k => by
    rw [List.range'_succ, List.map_cons, enumFrom', List.map_cons, enum_rng p n (k + 1)]; rfl
theorem wetF (n : Nat) (f : Nat → Int) : iter1 .enum (tF n f) = some ((List.range n).map fun v => .tup [pN v, .int (f v)]) := by
  have := enum_rng (fun v => .int (f v)) n 0
  rw [← List.range_eq_range'] at this
  show some (enumFrom' 0 ((List.range n).map fun v => PV.int (f v))) = _
  rw [this]
theorem welF (n : Nat) (f : Nat → Int) : iter1 .enum (lF n f) = some ((List.range n).map fun v => .tup [pN v, .int (f v)]) := wetF n f
/-! reckoning -/
theorem line_eq : PySem.sizeLine = 16777216 := by decide
theorem fit_ok {xs : List PV} (h : xs.length ≤ 16777216) : fit xs = some xs := by
  unfold fit
  rw [if_pos (by rw [line_eq]; exact h)]
theorem catN (xs ys : List Nat) (h : xs.length + ys.length ≤ 16777216) : fa2 .cat (lN xs) (lN ys) = some (lN (xs ++ ys)) := by
  show (fit (xs.map pN ++ ys.map pN)).map PV.lst = _
  rw [fit_ok (by simpa using h)]
  simp [lN]
theorem catN2 (xs : List Nat) (a b : Nat) (h : xs.length + 2 ≤ 16777216) : fa2 .cat (lN xs) (.lst [pN a, pN b]) = some (lN (xs ++ [a, b])) := catN xs [a, b] h
theorem lenT (xs : List PV) : fn1 .len (.tup xs) = some (pN xs.length) := rfl
theorem lenL (xs : List PV) : fn1 .len (.lst xs) = some (pN xs.length) := rfl
theorem lenN (xs : List Nat) : fn1 .len (lN xs) = some (pN xs.length) := by
  show some (pN (xs.map pN).length) = _
  rw [List.length_map]
theorem lenTN (xs : List Nat) : fn1 .len (tN xs) = some (pN xs.length) := by
  show some (pN (xs.map pN).length) = _
  rw [List.length_map]
theorem lentF (n : Nat) (f : Nat → Int) : fn1 .len (tF n f) = some (pN n) := by
  show some (pN ((List.range n).map _).length) = _
  rw [List.length_map, List.length_range]
theorem lenlF (n : Nat) (f : Nat → Int) : fn1 .len (lF n f) = some (pN n) := lentF n f
theorem ints_map {α : Type} (f : α → Int) : ∀ xs : List α, intsOf (xs.map fun v => .int (f v)) = some (xs.map f)
  | [] => rfl
  | x :: xs => by
    rw [List.map_cons]
    show (intsOf (xs.map fun v => .int (f v))).map _ = _
    rw [ints_map f xs]; rfl
theorem sumlF (n : Nat) (f : Nat → Int) : fn1 .sum (lF n f) = some (.int (S n f)) := by
  show (intsOf ((List.range n).map fun v => .int (f v))).bind _ = _
  rw [ints_map]; rfl
theorem sumtF (n : Nat) (f : Nat → Int) : fn1 .sum (tF n f) = some (.int (S n f)) := sumlF n f
theorem sumMap {α : Type} (xs : List α) (f : α → Int) : fn1 .sum (.lst (xs.map fun v => .int (f v))) = some (.int (xs.map f).sum) := by
  show (intsOf (xs.map fun v => .int (f v))).bind _ = _
  rw [ints_map]; rfl
theorem toTlF (n : Nat) (f : Nat → Int) : fa1 .toT (lF n f) = some (tF n f) := rfl
theorem toTlN (xs : List Nat) : fa1 .toT (lN xs) = some (tN xs) := rfl
theorem toTL (xs : List PV) : fa1 .toT (.lst xs) = some (.tup xs) := rfl
theorem toLtF (n : Nat) (f : Nat → Int) : fa1 .toL (tF n f) = some (lF n f) := rfl
theorem toLT (xs : List PV) : fa1 .toL (.tup xs) = some (.lst xs) := rfl
theorem toLlN (xs : List Nat) : fa1 .toL (lN xs) = some (lN xs) := rfl
theorem toLtN (xs : List Nat) : fa1 .toL (tN xs) = some (lN xs) := rfl
theorem rep1 (n : Nat) (x : PV) (h : n < 1000000) : fa2 .rep (.lst [x]) (pN n) = some (.lst ((List.range n).map fun _ => x)) := by
  show (if wide (n : Int) && decide ([x].length * (n : Int).toNat ≤ sizeLine) then some (PV.lst (List.replicate (n : Int).toNat [x]).flatten) else none) = _
  have e : (List.replicate (n : Int).toNat [x]).flatten = (List.range n).map fun _ => x := by
    rw [Int.toNat_natCast]
    apply List.ext_getElem?
    intro i
    by_cases hi : i < n
    · simp [hi, List.getElem?_replicate, List.getElem?_range hi]
    · simp [hi, List.getElem?_replicate, List.getElem?_eq_none (l := List.range n) (i := i) (by simpa using hi)]
  rw [e, wideN n h, line_eq, if_pos (by simp; omega)]
theorem rep0 (n : Nat) (i : Int) (h : n < 1000000) : fa2 .rep (.lst [.int i]) (pN n) = some (lF n fun _ => i) := rep1 n _ h
theorem set1 {n v : Nat} {f : Nat → Int} {y : Int} {d : Nat} (h : v < n) (hd : 1 ≤ d) : modAt (fun x d => change .set [(pN v, 0), (.int y, 0)] x d) [] (lF n f) d = some ((.non, 0), lF n (upd f v y), d) := by
  have e : ixN (List.map (fun v => PV.int (f v)) (List.range n)).length (v : Int) = some v := by
    unfold ixN
    rw [List.length_map, List.length_range, if_pos (by omega), if_pos (by omega)]; simp
  have e2 : (List.map (fun v => PV.int (f v)) (List.range n)).set v (.int y) = List.map (fun i => PV.int (upd f v y i)) (List.range n) := by
    apply List.ext_getElem?
    intro i
    rw [List.getElem?_set]
    by_cases hi : v = i
    · subst hi
      simp [upd, h, List.getElem?_range h]
    · rw [if_neg hi, List.getElem?_map, List.getElem?_map]
      by_cases hn : i < n
      · simp [List.getElem?_range hn, upd, Ne.symm hi]
      · rw [List.getElem?_eq_none (by simp; omega)]; rfl
  unfold modAt
  rw [if_pos (by rw [ilF]; simpa using hd)]
  show (ixN _ (v : Int)).map _ = _
  rw [e, Option.map_some, e2]
  rfl
theorem put2 {n v : Nat} {J : Nat → Nat → Int} {g : Nat → Int} (h : v < n) : put1 (tab n J) (pN v) (lF n g) = some (tab n (upd J v g)) := by
  have e : ixN (List.map (fun v => lF n (J v)) (List.range n)).length (v : Int) = some v := by
    unfold ixN
    rw [List.length_map, List.length_range, if_pos (by omega), if_pos (by omega)]; simp
  have e2 : (List.map (fun v => lF n (J v)) (List.range n)).set v (lF n g) = List.map (fun i => lF n (upd J v g i)) (List.range n) := by
    apply List.ext_getElem?
    intro i
    rw [List.getElem?_set]
    by_cases hi : v = i
    · subst hi
      simp [upd, h, List.getElem?_range h]
    · rw [if_neg hi, List.getElem?_map, List.getElem?_map]
      by_cases hn : i < n
      · simp [List.getElem?_range hn, upd, Ne.symm hi]
      · rw [List.getElem?_eq_none (by simp; omega)]; rfl
  show (ixN _ (v : Int)).map _ = _
  rw [e, Option.map_some, e2]
  rfl
theorem set2 {n v u : Nat} {J : Nat → Nat → Int} {y : Int} (h : v < n) (h' : u < n) : modAt (fun x d => change .set [(pN u, 0), (.int y, 0)] x d) [pN v] (tab n J) 2 = some ((.non, 0), tab n (upd J v (upd (J v) u y)), 2) := by
  unfold modAt
  rw [get_F, gtb n v J h]
  simp only [ilF, Bool.true_and]
  rw [if_pos (by decide), set1 h' (by decide)]
  simp only [put2 h, Option.map_some]
  rfl
theorem peqN (a b : Nat) : peqF (pN a) (pN b) = some (decide (a = b)) := by
  show some (decide ((a : Int) = b)) = _
  congr 1
  exact decide_eq_decide.mpr (by omega)
theorem peqI (a b : Int) : peqF (.int a) (.int b) = some (decide (a = b)) := rfl
theorem gII (g : Int → Int → Option PV) (a b : Int) : gI g (.int a) (.int b) = g a b := rfl
theorem gNI (g : Int → Int → Option PV) (a : Nat) (b : Int) : gI g (pN a) (.int b) = g a b := rfl
theorem gIN (g : Int → Int → Option PV) (a : Int) (b : Nat) : gI g (.int a) (pN b) = g a b := rfl
theorem gNN (g : Int → Int → Option PV) (a b : Nat) : gI g (pN a) (pN b) = g a b := rfl
theorem mm {α : Type} (f : α → PV) (d : Nat) (xs : List α) : (xs.map fun x => (f x, d)).map (fun x => x.fst) = xs.map f := by
  simp [List.map_map, Function.comp_def]
theorem tabD (n : Nat) (J : Nat → Nat → Int) : PV.lst ((List.range n).map fun v => lF n (J v)) = tab n J := rfl
theorem lFD (n : Nat) (f : Nat → Int) : PV.lst ((List.range n).map fun v => .int (f v)) = lF n f := rfl
theorem tFD (n : Nat) (f : Nat → Int) : PV.tup ((List.range n).map fun v => .int (f v)) = tF n f := rfl
theorem lND (xs : List Nat) : PV.lst (xs.map pN) = lN xs := rfl
/-! loops over typed things -/
def SOut.go : SOut → SOut
  | .ct ρ => .nx ρ
  | o => o
/-- one turn of a loop -/
def fStep (bind : PV → Rho → Option Rho) (body : Rho → SOut) (x : PV) (ρ : Rho) : SOut := (orStop (bind x ρ) body).go
theorem fLoop_cons {bind : PV → Rho → Option Rho} {body : Rho → SOut} {x : PV} {xs : List PV} {ρ : Rho} : fLoop bind body (x :: xs) ρ = (match fStep bind body x ρ with
      | .nx ρ => fLoop bind body xs ρ
      | .br ρ => .nx ρ
      | o => o) := by
  rw [fLoop]
  unfold fStep
  cases bind x ρ with
  | none => rfl
  | some ρ1 =>
    simp only [orStop]
    cases body ρ1 <;> rfl
/-- a loop, by a typed state and what holds of it behind the things so far; it may end by a return -/
theorem fLoop_R {α σ : Type} {bind : PV → Rho → Option Rho} {body : Rho → SOut} (p : α → PV) (q : Option α → σ → Rho) (J : List α → σ → Prop) (R : List α → α → List α → Mi.Arg → Rho → Prop) :
    ∀ (xs pre : List α) (s : σ) (l : Option α), J pre s → (∀ pre' x post s l, xs = pre' ++ x :: post → J (pre ++ pre') s → (∃ s', fStep bind body (p x) (q l s) = .nx (q (some x) s') ∧ J (pre ++ pre' ++ [x]) s') ∨ ∃ a ρ, fStep bind body (p x) (q l s) = .rt a ρ ∧ R (pre ++ pre') x post a ρ) →
      (∃ s' l', fLoop bind body (xs.map p) (q l s) = .nx (q l' s') ∧ J (pre ++ xs) s') ∨ ∃ pre' x post a ρ, pre ++ xs = pre' ++ x :: post ∧ fLoop bind body (xs.map p) (q l s) = .rt a ρ ∧ R pre' x post a ρ
  | [], pre, s, l, hJ, _ => .inl ⟨s, l, rfl, by simpa using hJ⟩
  | x :: xs, pre, s, l, hJ, h => by
    have e2 := h [] x xs s l rfl (by simpa using hJ)
    rw [List.map_cons, fLoop_cons]
    rcases e2 with ⟨s1, e2, j1⟩ | ⟨a, ρ, e2, r⟩
    · have ih := fLoop_R p q J R xs (pre ++ [x]) s1 (some x) (by simpa using j1) (fun pre' y post s l e j => by
        have := h (x :: pre') y post s l (by rw [e]; rfl) (by simpa using j)
        simpa using this)
      have e5 : pre ++ [x] ++ xs = pre ++ x :: xs := by simp
      rw [e5] at ih
      simpa only [e2] using ih
    · refine .inr ⟨pre, x, xs, a, ρ, rfl, ?_, by simpa using r⟩
      simp only [e2]
theorem fLoop_J {α σ : Type} {bind : PV → Rho → Option Rho} {body : Rho → SOut} (p : α → PV) (q : Option α → σ → Rho) (J : List α → σ → Prop) (xs : List α) (s : σ) (l : Option α) (h0 : J [] s)
    (h : ∀ pre x post s l, xs = pre ++ x :: post → J pre s → ∃ s', fStep bind body (p x) (q l s) = .nx (q (some x) s') ∧ J (pre ++ [x]) s') :
      ∃ s' l', fLoop bind body (xs.map p) (q l s) = .nx (q l' s') ∧ J xs s' := by
  have := fLoop_R (bind := bind) (body := body) p q J (fun _ _ _ _ _ => False) xs [] s l h0 (fun pre' x post s l e j => .inl (by
    rw [List.nil_append] at j ⊢
    exact h pre' x post s l e j))
  rcases this with h | ⟨_, _, _, _, _, _, _, h⟩
  · simpa using h
  · exact h.elim
/-- a loop as a fold -/
theorem fLoop_F {α σ : Type} {bind : PV → Rho → Option Rho} {body : Rho → SOut} (p : α → PV) (q : Option α → σ → Rho) (f : σ → α → σ) (xs : List α) (s : σ) (l : Option α)
    (h : ∀ x s l, x ∈ xs → fStep bind body (p x) (q l s) = .nx (q (some x) (f s x))) :
      ∃ l', fLoop bind body (xs.map p) (q l s) = .nx (q l' (xs.foldl f s)) := by
  obtain ⟨s', l', e, rfl⟩ := fLoop_J (bind := bind) (body := body) p q (fun pre s' => s' = pre.foldl f s) xs s l rfl (fun pre x post s' l e j => ⟨f s' x, h x s' l (by rw [e]; simp), by rw [j]; simp⟩)
  exact ⟨l', e⟩
/-- one turn of a comprehension -/
def lcStep (bind : PV → Rho → Option Rho) (test : Rho → Out Bool) (elt : Rho → Out Mi.Arg) (own : List Nat) (x : PV) (ρ : Rho) : Out (Option Mi.Arg) :=
  orStuck (bind x ρ) fun ρ => (test ρ).bind fun b ρ => if b then (elt ρ).bind fun a ρ => .ok (some a) (wipe ρ own) else .ok none (wipe ρ own)
theorem lc_cons {bind : PV → Rho → Option Rho} {test : Rho → Out Bool} {elt : Rho → Out Mi.Arg} {own : List Nat} {x : PV} {xs : List PV} {acc : List Mi.Arg} {ρ ρ' : Rho} {o : Option Mi.Arg} (e : lcStep bind test elt own x ρ = .ok o ρ') (h : acc.length < 16777216) :
    lcLoop bind test elt own (x :: xs) acc ρ = lcLoop bind test elt own xs (acc ++ o.toList) ρ' := by
  conv => lhs; unfold lcLoop
  unfold lcStep at e
  cases hb : bind x ρ with
  | none => rw [hb] at e; cases e
  | some ρ1 =>
    rw [hb] at e
    simp only [orStuck] at e ⊢
    cases ht : test ρ1 with
    | stuck => rw [ht] at e; cases e
    | ex c ys ρ2 => rw [ht] at e; cases e
    | ok b ρ2 =>
      rw [ht] at e
      simp only [Out.bind] at e ⊢
      cases b with
      | false =>
        simp only [Bool.false_eq_true, if_false] at e ⊢
        injection e with e1 e2
        subst e1 e2
        simp
      | true =>
        simp only [if_true] at e ⊢
        cases he : elt ρ2 with
        | stuck => rw [he] at e; cases e
        | ex c ys ρ2 => rw [he] at e; cases e
        | ok a ρ3 =>
          rw [he] at e
          simp only at e ⊢
          injection e with e1 e2
          subst e1 e2
          rw [if_pos (by rw [line_eq]; exact h)]
          rfl
/-- a comprehension over typed things, by a typed state -/
theorem lc_J {α σ : Type} {bind : PV → Rho → Option Rho} {test : Rho → Out Bool} {elt : Rho → Out Mi.Arg} {own : List Nat} (p : α → PV) (q : σ → Rho) (J : List α → List Mi.Arg → σ → Prop) :
    ∀ (xs pre : List α) (acc : List Mi.Arg) (s : σ), J pre acc s → acc.length + xs.length ≤ 16777216 →
      (∀ pre' x post acc s, xs = pre' ++ x :: post → J (pre ++ pre') acc s → ∃ o s', lcStep bind test elt own (p x) (q s) = .ok o (q s') ∧ J (pre ++ pre' ++ [x]) (acc ++ o.toList) s') →
      ∃ acc' s', lcLoop bind test elt own (xs.map p) acc (q s) = .ok acc' (q s') ∧ J (pre ++ xs) acc' s'
  | [], pre, acc, s, hJ, _, _ => ⟨acc, s, rfl, by simpa using hJ⟩
  | x :: xs, pre, acc, s, hJ, hl, h => by
    rw [List.length_cons] at hl
    obtain ⟨o, s', e1, j⟩ := h [] x xs acc s rfl (by simpa using hJ)
    have ho : o.toList.length ≤ 1 := by cases o <;> simp
    obtain ⟨acc', s2, e6, j2⟩ := lc_J p q J xs (pre ++ [x]) (acc ++ o.toList) s' (by simpa using j) (by rw [List.length_append]; omega) (fun pre' y post acc s e j => by
        have := h (x :: pre') y post acc s (by rw [e]; rfl) (by simpa using j)
        simpa using this)
    exact ⟨acc', s2, by rw [List.map_cons, lc_cons e1 (by omega)]; exact e6, by simpa using j2⟩
/-- a comprehension that keeps some (filter and map), the state free to change -/
theorem lc_P {α σ : Type} {bind : PV → Rho → Option Rho} {test : Rho → Out Bool} {elt : Rho → Out Mi.Arg} {own : List Nat} (p : α → PV) (q : σ → Rho) (b : α → Bool) (f : α → PV) (d0 : Nat) (xs : List α) (s : σ) (hl : xs.length ≤ 16777216)
    (h : ∀ x s, x ∈ xs → ∃ s', lcStep bind test elt own (p x) (q s) = .ok (if b x then some (f x, d0) else none) (q s')) :
    ∃ s', lcLoop bind test elt own (xs.map p) [] (q s) = .ok ((xs.filter b).map fun x => (f x, d0)) (q s') := by
  obtain ⟨acc, s', e, rfl⟩ := lc_J (bind := bind) (test := test) (elt := elt) (own := own) p q (fun pre acc _ => acc = (pre.filter b).map fun x => (f x, d0)) xs [] [] s rfl (by simpa using hl) (by
    intro pre' x post acc s e hj
    rw [List.nil_append] at hj
    obtain ⟨s', e1⟩ := h x s (by rw [e]; simp)
    refine ⟨_, s', e1, ?_⟩
    rw [hj]
    cases hb : b x <;> simp [hb])
  exact ⟨s', by simpa using e⟩
/-- the same, nothing left out -/
theorem lc_M {α σ : Type} {bind : PV → Rho → Option Rho} {test : Rho → Out Bool} {elt : Rho → Out Mi.Arg} {own : List Nat} (p : α → PV) (q : σ → Rho) (f : α → PV) (d0 : Nat) (xs : List α) (s : σ) (hl : xs.length ≤ 16777216)
    (h : ∀ x s, x ∈ xs → ∃ s', lcStep bind test elt own (p x) (q s) = .ok (some (f x, d0)) (q s')) :
    ∃ s', lcLoop bind test elt own (xs.map p) [] (q s) = .ok (xs.map fun x => (f x, d0)) (q s') := by
  obtain ⟨s', e⟩ := lc_P (bind := bind) (test := test) (elt := elt) (own := own) p q (fun _ => true) f d0 xs s hl h
  rw [List.filter_eq_self.mpr fun _ _ => rfl] at e
  exact ⟨s', e⟩
/-- a while loop, by a measure -/
theorem wLoop_J {σ : Type} {test : Rho → Out Bool} {body : Rho → SOut} (q : σ → Rho) (J : σ → Prop) (Q : σ → Prop) (m : σ → Nat)
    (h : ∀ s, J s → (∃ s1, test (q s) = .ok true (q s1) ∧ ∃ s', (body (q s1)).go = .nx (q s') ∧ J s' ∧ m s' < m s) ∨ (∃ s', test (q s) = .ok false (q s') ∧ J s' ∧ Q s')) :
    ∀ (k : Nat) (s : σ), J s → m s < k → ∃ s', wLoop test body k (q s) = .nx (q s') ∧ J s' ∧ Q s'
  | 0, s, _, hk => absurd hk (by omega)
  | k + 1, s, hJ, hk => by
    unfold wLoop
    rcases h s hJ with ⟨s1, e1, s', e2, j, hm⟩ | ⟨s', e1, j, hq⟩
    · obtain ⟨s2, e3, j2, q2⟩ := wLoop_J q J Q m h k s' j (by omega)
      refine ⟨s2, ?_, j2, q2⟩
      simp only [e1, Out.run, if_true]
      cases hb : body (q s1) with
      | nx ρ =>
        rw [hb] at e2
        injection e2 with e2
        simp only [e2, e3]
      | ct ρ =>
        rw [hb] at e2
        injection e2 with e2
        simp only [e2, e3]
      | rt a ρ => rw [hb] at e2; cases e2
      | br ρ => rw [hb] at e2; cases e2
      | ex c ys ρ => rw [hb] at e2; cases e2
      | stuck => rw [hb] at e2; cases e2
    · refine ⟨s', ?_, j, hq⟩
      simp only [e1, Out.run, Bool.false_eq_true, if_false]
theorem goN (ρ : Rho) : SOut.go (.nx ρ) = .nx ρ := rfl
theorem goC (ρ : Rho) : SOut.go (.ct ρ) = .nx ρ := rfl
theorem goR (a : Mi.Arg) (ρ : Rho) : SOut.go (.rt a ρ) = .rt a ρ := rfl
end Mi
end
section
set_option linter.all false
set_option maxRecDepth 100000
set_option maxHeartbeats 4000000
/-! P2: the steps' rules in one list. -/
namespace Mi
open PySem
theorem z_bind' {α β : Type} (a : α) (f : α → Option β) : (some a).bind f = f a := rfl
theorem z_ok' {α β : Type} (a : α) (ρ : Rho) (f : α → Rho → Out β) : (Out.ok a ρ).bind f = f a ρ := rfl
theorem min21 : min 2 1 = 1 := rfl
theorem min11 : min 1 1 = 1 := rfl
theorem min20 : min 2 0 = 0 := rfl
theorem min10 : min 1 0 = 0 := rfl
theorem min22 : min 2 2 = 2 := rfl
theorem min12 : min 1 2 = 1 := rfl
theorem gD0 (a d : Nat) : Option.getD (some a) d = a := rfl
theorem gD1 (d : Nat) : Option.getD none d = d := rfl
theorem fdivE (a b : Int) : fn2F .fdiv (.int a) (.int b) = if b ≠ 0 ∧ b.natAbs < 1073741824 then some (.int (a.fdiv b)) else none := rfl
theorem mulE (a b : Int) : fn2F .mul (.int a) (.int b) = if small a || small b then some (.int (a * b)) else none := rfl
theorem smallI {i : Int} (h : -1000000000000000000 < i) (h' : i < 1000000000000000000) : small i = true := by
  unfold small
  simp only [Bool.and_eq_true, decide_eq_true_eq]
  omega
/-- a pass over all that changes each place by itself -/
theorem foldl_upd (G : Nat → Int → Int) (n : Nat) (s : Nat → Int) : (List.range n).foldl (fun s u => upd s u (G u (s u))) s = fun i => if i < n then G i (s i) else s i := by
  induction n with
  | zero => simp
  | succ n ih =>
    rw [List.range_succ, List.foldl_append, ih]
    funext i
    simp only [List.foldl_cons, List.foldl_nil, upd]
    by_cases h : i = n
    · subst h; simp
    · simp only [h, if_false]
      by_cases h2 : i < n
      · simp [h2, show i < n + 1 by omega]
      · simp [h2, show ¬ i < n + 1 by omega]
theorem f2e (x y : PV) : fn2 .eq x y = (peqF x y).map .bl := by rw [fn2_F]; rfl
theorem f2n (x y : PV) : fn2 .ne x y = (peqF x y).map fun b => .bl (!b) := by rw [fn2_F]; rfl
theorem f2add (x y : PV) : fn2 .add x y = gI (fun i j => some (.int (i + j))) x y := rfl
theorem f2sub (x y : PV) : fn2 .sub x y = gI (fun i j => some (.int (i - j))) x y := rfl
theorem f2lt (x y : PV) : fn2 .lt x y = gI (fun i j => some (.bl (decide (i < j)))) x y := rfl
theorem f2le (x y : PV) : fn2 .le x y = gI (fun i j => some (.bl (decide (i ≤ j)))) x y := rfl
theorem f2gt (x y : PV) : fn2 .gt x y = gI (fun i j => some (.bl (decide (j < i)))) x y := rfl
theorem f2ge (x y : PV) : fn2 .ge x y = gI (fun i j => some (.bl (decide (j ≤ i)))) x y := rfl
theorem f2in (x y : PV) : fn2 .in_ x y = (inF x y).map .bl := by rw [fn2_F]; rfl
theorem nil_eq : PV.lst [] = lN [] := rfl
theorem peqLN (xs ys : List Nat) : peqF (lN xs) (lN ys) = some (decide (xs = ys)) := by
  have h : ∀ zs : List Nat, intsOf (zs.map pN) = some (zs.map fun z : Nat => (z : Int)) := fun zs => ints_map (fun z : Nat => (z : Int)) zs
  show (match intsOf (xs.map pN), intsOf (ys.map pN) with
    | some a, some b => some (eqL a b)
    | _, _ => peq (lN xs) (lN ys)) = _
  rw [h, h]
  simp only
  congr 1
  induction xs generalizing ys with
  | nil => cases ys <;> simp [eqL]
  | cons x xs ih =>
    cases ys with
    | nil => simp [eqL]
    | cons y ys =>
      simp only [List.map_cons, eqL]
      by_cases e : x = y
      · subst e
        have e2 : decide ((x : Int) = (x : Int)) = true := by simp
        rw [e2]
        simp only
        rw [ih ys]
        simp
      · have : ¬ ((x : Int) = (y : Int)) := by omega
        simp [this, e]
theorem peqL0 (xs : List Nat) : peqF (lN xs) (.lst []) = some (decide (xs = [])) := peqLN xs []
theorem inN (v : Nat) (xs : List Nat) : inF (pN v) (lN xs) = some (decide (v ∈ xs)) := by
  show memF (pN v) (xs.map pN) = _
  induction xs with
  | nil =>
    rw [List.map_nil, memF, peqN]
    simp
  | cons x xs ih =>
    rw [List.map_cons, memF, peqN, ih]
    simp only [Option.some.injEq]
    by_cases e : x = v
    · subst e; simp
    · have : ¬ v = x := fun h => e h.symm
      simp [e, this]
/-- by cases of a test -/
theorem dnot (p : Prop) [Decidable p] (h : p) : (!decide p) = false := by simp [h]
end Mi
end
section
set_option linter.all false
set_option maxRecDepth 100000
set_option maxHeartbeats 4000000
/-! P3: sums, joins, webs (typed). -/
namespace Mi
theorem S_zero (f : Nat → Int) : S 0 f = 0 := rfl
theorem S_succ (n : Nat) (f : Nat → Int) : S (n + 1) f = S n f + f n := by
  simp [S, List.range_succ]
theorem S_congr {n : Nat} {f g : Nat → Int} (h : ∀ v, v < n → f v = g v) : S n f = S n g := by
  induction n with
  | zero => rfl
  | succ n ih => rw [S_succ, S_succ, ih fun v hv => h v (by omega), h n (by omega)]
theorem S_le {n : Nat} {f g : Nat → Int} (h : ∀ v, v < n → f v ≤ g v) : S n f ≤ S n g := by
  induction n with
  | zero => exact Int.le_refl _
  | succ n ih => rw [S_succ, S_succ]; have := ih fun v hv => h v (by omega); have := h n (by omega); omega
theorem S_nonneg {n : Nat} {f : Nat → Int} (h : ∀ v, v < n → 0 ≤ f v) : 0 ≤ S n f := by
  induction n with
  | zero => exact Int.le_refl _
  | succ n ih => rw [S_succ]; have := ih fun v hv => h v (by omega); have := h n (by omega); omega
theorem S_add (n : Nat) (f g : Nat → Int) : S n (fun v => f v + g v) = S n f + S n g := by
  induction n with
  | zero => rfl
  | succ n ih => rw [S_succ, S_succ, S_succ, ih]; omega
theorem S_sub (n : Nat) (f g : Nat → Int) : S n (fun v => f v - g v) = S n f - S n g := by
  induction n with
  | zero => rfl
  | succ n ih => rw [S_succ, S_succ, S_succ, ih]; omega
theorem S_mul (n : Nat) (c : Int) (f : Nat → Int) : S n (fun v => c * f v) = c * S n f := by
  induction n with
  | zero => simp [S]
  | succ n ih => rw [S_succ, S_succ, ih, Int.mul_add]
theorem S_mulr (n : Nat) (c : Int) (f : Nat → Int) : S n (fun v => f v * c) = S n f * c := by
  induction n with
  | zero => simp [S]
  | succ n ih => rw [S_succ, S_succ, ih, Int.add_mul]
theorem S_const0 (n : Nat) : S n (fun _ => 0) = 0 := by
  induction n with
  | zero => rfl
  | succ n ih => rw [S_succ, ih]; rfl
theorem S_const (n : Nat) (c : Int) : S n (fun _ => c) = n * c := by
  induction n with
  | zero => simp [S]
  | succ n ih => rw [S_succ, ih, Int.natCast_add, Int.add_mul]; simp
theorem S_upd {n v : Nat} (f : Nat → Int) (y : Int) (h : v < n) : S n (upd f v y) = S n f + (y - f v) := by
  induction n with
  | zero => omega
  | succ n ih =>
    rw [S_succ, S_succ]
    by_cases e : v = n
    · subst e
      rw [S_congr (n := v) (g := f) fun i hi => by simp [upd, show ¬ i = v by omega]]
      simp [upd]; omega
    · rw [ih (by omega)]
      simp [upd, show ¬ n = v by omega]; omega
/-- a term for itself -/
theorem S_le_one {n v : Nat} {f : Nat → Int} (h : ∀ v, v < n → 0 ≤ f v) (hv : v < n) : f v ≤ S n f := by
  have e := S_upd f 0 hv
  have : 0 ≤ S n (upd f v 0) := S_nonneg fun i hi => by
    unfold upd
    split
    · exact Int.le_refl _
    · exact h i hi
  omega
theorem S_swap (n m : Nat) (f : Nat → Nat → Int) : S n (fun v => S m (f v)) = S m (fun u => S n fun v => f v u) := by
  induction n with
  | zero => simp [S_zero, S_const0]
  | succ n ih => rw [S_succ, ih, ← S_add]; exact S_congr fun v hv => by rw [S_succ]
/-- how many of the roads join two unlike crossings -/
def jn (rs : List (Nat × Nat)) (v u : Nat) : Int := (rs.map fun p => if p.1 ≠ p.2 ∧ ((p.1 = v ∧ p.2 = u) ∨ (p.1 = u ∧ p.2 = v)) then (1 : Int) else 0).sum
theorem jn_snoc (rs : List (Nat × Nat)) (p : Nat × Nat) (v u : Nat) : jn (rs ++ [p]) v u = jn rs v u + if p.1 ≠ p.2 ∧ ((p.1 = v ∧ p.2 = u) ∨ (p.1 = u ∧ p.2 = v)) then (1 : Int) else 0 := by
  simp [jn]
theorem jn_cons (rs : List (Nat × Nat)) (p : Nat × Nat) (v u : Nat) : jn (p :: rs) v u = (if p.1 ≠ p.2 ∧ ((p.1 = v ∧ p.2 = u) ∨ (p.1 = u ∧ p.2 = v)) then (1 : Int) else 0) + jn rs v u := by
  simp [jn]
theorem jn_nonneg (rs : List (Nat × Nat)) (v u : Nat) : 0 ≤ jn rs v u := by
  induction rs with
  | nil => exact Int.le_refl _
  | cons p rs ih => rw [jn_cons]; split <;> omega
theorem jn_sym (rs : List (Nat × Nat)) (v u : Nat) : jn rs v u = jn rs u v := by
  induction rs with
  | nil => rfl
  | cons p rs ih => rw [jn_cons, jn_cons, ih]; simp only [Or.comm]
theorem jn_diag (rs : List (Nat × Nat)) (v : Nat) : jn rs v v = 0 := by
  induction rs with
  | nil => rfl
  | cons p rs ih =>
    rw [jn_cons, ih]
    rw [if_neg]
    · rfl
    · rintro ⟨h, h' | h'⟩ <;> exact h (by omega)
theorem jn_le (rs : List (Nat × Nat)) (v u : Nat) : jn rs v u ≤ rs.length := by
  induction rs with
  | nil => exact Int.le_refl _
  | cons p rs ih => rw [jn_cons, List.length_cons]; split <;> omega
theorem jn_pos {rs : List (Nat × Nat)} {v u : Nat} : 1 ≤ jn rs v u ↔ v ≠ u ∧ ((v, u) ∈ rs ∨ (u, v) ∈ rs) := by
  induction rs with
  | nil => simp [jn]
  | cons p rs ih =>
    have hn := jn_nonneg rs v u
    obtain ⟨a, b⟩ := p
    rw [jn_cons]
    by_cases h : (a, b).1 ≠ (a, b).2 ∧ (((a, b).1 = v ∧ (a, b).2 = u) ∨ ((a, b).1 = u ∧ (a, b).2 = v))
    · rw [if_pos h]
      dsimp only at h
      constructor
      · intro _
        obtain ⟨h1, ⟨rfl, rfl⟩ | ⟨rfl, rfl⟩⟩ := h
        · exact ⟨h1, .inl List.mem_cons_self⟩
        · exact ⟨fun e => h1 e.symm, .inr List.mem_cons_self⟩
      · intro _; omega
    · rw [if_neg h]
      dsimp only at h
      rw [Int.zero_add, ih]
      constructor
      · rintro ⟨h1, h2 | h2⟩
        · exact ⟨h1, .inl (List.mem_cons_of_mem _ h2)⟩
        · exact ⟨h1, .inr (List.mem_cons_of_mem _ h2)⟩
      · rintro ⟨h1, h2 | h2⟩
        · rcases List.mem_cons.mp h2 with h3 | h3
          · cases h3; exact absurd ⟨h1, .inl ⟨rfl, rfl⟩⟩ h
          · exact ⟨h1, .inl h3⟩
        · rcases List.mem_cons.mp h2 with h3 | h3
          · cases h3; exact absurd ⟨fun e => h1 e.symm, .inr ⟨rfl, rfl⟩⟩ h
          · exact ⟨h1, .inr h3⟩
theorem join_step (s : Nat → Nat → Int) {a b : Nat} (hx : a ≠ b) (v u : Nat) : upd (upd s a (upd (s a) b (s a b + 1))) b (upd (upd s a (upd (s a) b (s a b + 1)) b) a (upd s a (upd (s a) b (s a b + 1)) b a + 1)) v u = s v u + if a ≠ b ∧ ((a = v ∧ b = u) ∨ (a = u ∧ b = v)) then (1 : Int) else 0 := by
  simp only [upd]
  by_cases h1 : v = a
  · subst h1
    have h2 : ¬ v = b := hx
    by_cases h3 : u = b
    · subst h3
      simp [upd, h2, hx]
    · have h4 : ¬ b = u := fun h => h3 h.symm
      have h5 : ¬ b = v := fun h => h2 h.symm
      simp [upd, h2, h3, h4, h5]
  · have h1' : ¬ a = v := fun h => h1 h.symm
    by_cases h2 : v = b
    · subst h2
      by_cases h3 : u = a
      · subst h3
        simp [upd, h1, h1']
      · have h4 : ¬ a = u := fun h => h3 h.symm
        simp [upd, h1, h1', h3, h4]
    · have h2' : ¬ b = v := fun h => h2 h.symm
      simp [upd, h1, h1', h2, h2']
structure WOk (w : Web) : Prop where
  pos : 1 ≤ w.n
  few : w.n ≤ 1000
  fewR : w.roads.length ≤ 1000
  ends : ∀ p ∈ w.roads, p.1 < w.n ∧ p.2 < w.n
/-- how many ends lead out -/
def dg (w : Web) (v : Nat) : Int := S w.n (jn w.roads v)
theorem dg_nonneg (w : Web) (v : Nat) : 0 ≤ dg w v := S_nonneg fun u _ => jn_nonneg _ _ _
theorem S_le_mul {n : Nat} {f : Nat → Int} {c : Int} (h : ∀ v, v < n → f v ≤ c) : S n f ≤ n * c := by
  rw [← S_const]; exact S_le h
theorem dg_le {w : Web} (hw : WOk w) (v : Nat) : dg w v ≤ 1000000 := by
  have h := S_le_mul (n := w.n) (f := jn w.roads v) (c := 1000) fun u _ => by have := jn_le w.roads v u; have := hw.fewR; omega
  have := hw.few
  unfold dg
  omega
end Mi
end
section
set_option linter.all false
/-! M1: piles that settle (plain). -/
namespace Mi
/-- what firings leave of a pile, crossing by crossing -/
def left (w : Web) (p g : Nat → Int) (v : Nat) : Int := p v - g v * dg w v + S w.n fun u => g u * jn w.roads u v
/-- firings behind which nothing but home can fire -/
structure Tame (w : Web) (h : Nat) (p g : Nat → Int) : Prop where
  nn : ∀ v, v < w.n → 0 ≤ g v
  home : g h = 0
  low : ∀ v, v < w.n → v ≠ h → left w p g v < dg w v
theorem left_upd {w : Web} (p g : Nat → Int) {v : Nat} (hv : v < w.n) (t : Int) (u : Nat) :
    left w p (upd g v (g v + t)) u = if u = v then left w p g v - t * dg w v else left w p g u + t * jn w.roads v u := by
  have e : S w.n (fun i => upd g v (g v + t) i * jn w.roads i u) = S w.n (fun i => g i * jn w.roads i u) + t * jn w.roads v u := by
    have : (fun i => upd g v (g v + t) i * jn w.roads i u) = upd (fun i => g i * jn w.roads i u) v ((g v + t) * jn w.roads v u) := by
      funext i
      unfold upd
      by_cases hi : i = v
      · subst hi; simp
      · simp [hi]
    rw [this, S_upd _ _ hv, Int.add_mul]
    omega
  unfold left
  rw [e]
  by_cases h : u = v
  · subst h
    rw [jn_diag]
    simp [upd, Int.add_mul]
    omega
  · simp [upd, h]
    omega
/-- least action: who may fire so often keeps below any tame firings -/
theorem fire_le {w : Web} {h : Nat} {p f g : Nat → Int} (hg : Tame w h p g) (hf : ∀ v, v < w.n → f v ≤ g v) {v : Nat} (hv : v < w.n) (hh : v ≠ h) {t : Int}
    (ht : t * dg w v ≤ left w p f v) (hd : 0 < dg w v) : f v + t ≤ g v := by
  have h1 := hg.low v hv hh
  have h2 : S w.n (fun u => f u * jn w.roads u v) ≤ S w.n (fun u => g u * jn w.roads u v) := S_le fun u hu => Int.mul_le_mul_of_nonneg_right (hf u hu) (jn_nonneg _ _ _)
  unfold left at h1 ht
  -- t d ≤ p - f d + s1, p - g d + s2 < d, s1 ≤ s2
  have h3 : (f v + t - g v) * dg w v < 1 * dg w v := by
    rw [Int.sub_mul, Int.add_mul]
    omega
  have := Int.lt_of_mul_lt_mul_right h3 (Int.le_of_lt hd)
  omega
/-- the state of a settling: what is left, the firings -/
structure Going (w : Web) (h : Nat) (p now f : Nat → Int) : Prop where
  nn : ∀ v, v < w.n → 0 ≤ f v
  home : f h = 0
  now : ∀ v, v < w.n → v ≠ h → now v = left w p f v
theorem Going.zero (w : Web) (h : Nat) (p : Nat → Int) : Going w h p p fun _ => 0 := by
  refine ⟨fun _ _ => Int.le_refl _, rfl, fun v _ _ => ?_⟩
  unfold left
  simp [S_const0]
theorem Going.step {w : Web} {h : Nat} {p now f : Nat → Int} (a : Going w h p now f) {v : Nat} (hv : v < w.n) (hh : v ≠ h) {t : Int} (ht : 0 ≤ t) {now' : Nat → Int}
    (e : ∀ u, u < w.n → u ≠ h → now' u = if u = v then now v - t * dg w v else now u + t * jn w.roads v u) : Going w h p now' (upd f v (f v + t)) := by
  refine ⟨fun u hu => ?_, ?_, fun u hu hu' => ?_⟩
  · unfold upd
    split
    · have := a.nn v hv; omega
    · exact a.nn u hu
  · unfold upd
    rw [if_neg (Ne.symm hh)]
    exact a.home
  · rw [left_upd p f hv, e u hu hu', a.now v hv hh]
    split
    · rfl
    · rw [a.now u hu hu']
/-- two tame ends of two settlings are one -/
theorem ends_one {w : Web} {h : Nat} {p f g : Nat → Int} (hf : Tame w h p f) (hg : Tame w h p g) (h1 : ∀ g', Tame w h p g' → ∀ v, v < w.n → f v ≤ g' v) (h2 : ∀ g', Tame w h p g' → ∀ v, v < w.n → g v ≤ g' v) :
    ∀ v, v < w.n → f v = g v := fun v hv => Int.le_antisymm (h1 g hg v hv) (h2 f hf v hv)
end Mi
end
section
set_option linter.all false
/-! P4: growing a set, layer by layer. -/
namespace Mi
/-- layers: each member of the next lot has what is asked of it, by all ahead -/
inductive Grown (n h : Nat) (c : List Nat → Nat → Bool) : List Nat → Prop where
  | start : Grown n h c [h]
  | more {xs ys : List Nat} : Grown n h c xs → ys.Nodup → (∀ v ∈ ys, v < n ∧ v ∉ xs ∧ c xs v = true) → Grown n h c (xs ++ ys)
def Shut (n : Nat) (c : List Nat → Nat → Bool) (xs : List Nat) : Prop := ∀ v, v < n → v ∉ xs → c xs v = false
theorem Grown.nodup {n h : Nat} {c : List Nat → Nat → Bool} {xs : List Nat} (g : Grown n h c xs) : xs.Nodup := by
  induction g with
  | start => simp
  | more g hy hc ih =>
    rw [List.nodup_append]
    exact ⟨ih, hy, fun a ha b hb e => (hc b hb).2.1 (e ▸ ha)⟩
theorem Grown.lt {n h : Nat} (hh : h < n) {c : List Nat → Nat → Bool} {xs : List Nat} (g : Grown n h c xs) : ∀ v ∈ xs, v < n := by
  induction g with
  | start => simpa using hh
  | more g hy hc ih =>
    intro v hv
    rcases List.mem_append.mp hv with hv | hv
    · exact ih v hv
    · exact (hc v hv).1
theorem Grown.home {n h : Nat} {c : List Nat → Nat → Bool} {xs : List Nat} (g : Grown n h c xs) : h ∈ xs := by
  induction g with
  | start => simp
  | more g hy hc ih => exact List.mem_append_left _ ih
theorem nodup_len : ∀ {n : Nat} {xs : List Nat}, xs.Nodup → (∀ v ∈ xs, v < n) → xs.length ≤ n := by
  intro n
  induction n with
  | zero => intro xs _ h; cases xs with
    | nil => simp
    | cons x xs => exact absurd (h x List.mem_cons_self) (by omega)
  | succ n ih =>
    intro xs hd h
    by_cases hn : n ∈ xs
    · have := ih (xs := xs.erase n) (hd.erase n) (fun v hv => by
        have h1 := h v (List.mem_of_mem_erase hv)
        have h2 : v ≠ n := fun e => by
          subst e
          exact (List.Nodup.not_mem_erase hd) hv
        omega)
      rw [List.length_erase_of_mem hn] at this
      omega
    · have := ih hd (fun v hv => by
        have h1 := h v hv
        have : v ≠ n := fun e => hn (e ▸ hv)
        omega)
      omega
theorem Grown.len {n h : Nat} (hh : h < n) {c : List Nat → Nat → Bool} {xs : List Nat} (g : Grown n h c xs) : xs.length ≤ n := nodup_len g.nodup (g.lt hh)
/-- all numbers below n stand in a list of n unlike ones -/
theorem all_of_len : ∀ {n : Nat} {xs : List Nat}, xs.Nodup → (∀ v ∈ xs, v < n) → xs.length = n → ∀ v, v < n → v ∈ xs := by
  intro n xs hd h hl v hv
  refine Classical.byContradiction fun hc => ?_
  have : (v :: xs).length ≤ n := nodup_len (List.nodup_cons.mpr ⟨hc, hd⟩) (fun u hu => by
    rcases List.mem_cons.mp hu with rfl | hu
    · exact hv
    · exact h u hu)
  simp at this
  omega
theorem len_of_all {n : Nat} {xs : List Nat} (hd : xs.Nodup) (h : ∀ v ∈ xs, v < n) (ha : ∀ v, v < n → v ∈ xs) : xs.length = n := by
  have h1 := nodup_len hd h
  have h2 : (List.range n).length ≤ xs.length := by
    exact List.Nodup.length_le_of_subset List.nodup_range (fun v hv => ha v (List.mem_range.mp hv))
  simp at h2
  omega
end Mi
namespace Mi
/-- what settling tells -/
structure Settled (w : Web) (h : Nat) (p now f : Nat → Int) : Prop where
  go : Going w h p now f
  tame : Tame w h p f
  le : ∀ g', Tame w h p g' → ∀ v, v < w.n → f v ≤ g' v
  hm : now h = p h ∨ now h = 0
def bcond (w : Web) (p : Nat → Int) (xs : List Nat) (v : Nat) : Bool := decide (dg w v ≤ p v + (xs.map (jn w.roads v)).sum)
def lcond (w : Web) (p : Nat → Int) (xs : List Nat) (v : Nat) : Bool := decide (p v < (xs.map (jn w.roads v)).sum)
end Mi
namespace Mi
/-- a layer more -/
theorem Grown.layer {n h : Nat} {c : List Nat → Nat → Bool} {xs : List Nat} (g : Grown n h c xs) : Grown n h c (xs ++ ((List.range n).filter fun v => decide (v ∉ xs)).filter (c xs)) :=
  .more g (List.nodup_range.filter _ |>.filter _) (fun v hv => by
    obtain ⟨h1, h2⟩ := List.mem_filter.mp hv
    obtain ⟨h3, h4⟩ := List.mem_filter.mp h1
    exact ⟨List.mem_range.mp h3, by simpa using h4, h2⟩)
theorem shut_of {n : Nat} {c : List Nat → Nat → Bool} {xs : List Nat} (e : ((List.range n).filter fun v => decide (v ∉ xs)).filter (c xs) = []) : Shut n c xs := by
  intro v hv hx
  have := List.filter_eq_nil_iff.mp e v (List.mem_filter.mpr ⟨List.mem_range.mpr hv, by simpa using hx⟩)
  simpa using this
end Mi
end
section
set_option linter.all false
set_option maxRecDepth 100000
set_option maxHeartbeats 4000000
/-! P5: lists of numbers, lists of lists. -/
namespace Mi
open PySem
def lLN (ts : List (List Nat)) : PV := .lst (ts.map lN)
def lTN (ts : List (List Nat)) : PV := .lst (ts.map tN)
theorem ilLN (ts : List (List Nat)) : isL (lLN ts) = true := rfl
theorem ilTN (ts : List (List Nat)) : isL (lTN ts) = true := rfl
theorem glLN (ts : List (List Nat)) (k : Nat) (h : k < ts.length) : getF (lLN ts) (pN k) = some (lN ts[k]) := by
  unfold lLN; rw [gLn, List.getElem?_map, List.getElem?_eq_getElem h]; rfl
theorem glTN (ts : List (List Nat)) (k : Nat) (h : k < ts.length) : getF (lTN ts) (pN k) = some (tN ts[k]) := by
  unfold lTN; rw [gLn, List.getElem?_map, List.getElem?_eq_getElem h]; rfl
theorem ix_ok {n i : Nat} (h : i < n) : ixN n (i : Int) = some i := by
  unfold ixN
  rw [if_pos (by omega), if_pos (by omega)]; simp
/-- the item at a place goes out -/
theorem pop1N {xs : List Nat} {i d : Nat} (h : i < xs.length) (hl : xs.length < 1000000) (hd : 1 ≤ d) : modAt (change .pop1 [(pN i, 0)]) [] (lN xs) d = some ((pN xs[i], 0), lN (xs.eraseIdx i), d) := by
  unfold modAt
  rw [if_pos (by rw [ilN]; simpa using hd)]
  show (if wide (i : Int) then (ixN (xs.map pN).length (i : Int)).bind fun j => cTake j (xs.map pN) d else none) = _
  rw [wideN i (by omega), if_pos rfl, ix_ok (by simpa using h)]
  show cTake i (xs.map pN) d = _
  unfold cTake
  rw [List.getElem?_map, List.getElem?_eq_getElem h]
  simp only [Option.map_some, iN]
  have e : (xs.map pN).eraseIdx i = (xs.eraseIdx i).map pN := by
    rw [List.eraseIdx_eq_take_drop_succ, List.eraseIdx_eq_take_drop_succ, List.map_append, List.map_take, List.map_drop]
  rw [e]
  rfl
theorem rec_pop1 (xs : List Nat) : recvOk .pop1 [] (lN xs) = true := rfl
theorem rec_app (xs : List Nat) : recvOk .append [] (lN xs) = true := rfl
theorem appN {xs : List Nat} {y d : Nat} (hl : xs.length < 1000000) (hd : 1 ≤ d) : modAt (change .append [(pN y, 0)]) [] (lN xs) d = some ((.non, 0), lN (xs ++ [y]), d) := by
  unfold modAt
  rw [if_pos (by rw [ilN]; simpa using hd)]
  show (if (xs.map pN).length < sizeLine then some ((PV.non, 0), PV.lst (xs.map pN ++ [pN y]), joinD d (pN y, 0)) else none) = _
  rw [if_pos (by rw [line_eq]; simp; omega)]
  simp [lN, joinD, iN]
theorem appL {xs : List PV} {y : PV} {d : Nat} (hl : xs.length < 1000000) (hd : 1 ≤ d) (hy : isL y = false) : modAt (change .append [(y, 0)]) [] (.lst xs) d = some ((.non, 0), .lst (xs ++ [y]), d) := by
  unfold modAt
  rw [if_pos (by rw [iL]; simpa using hd)]
  show (if xs.length < sizeLine then some ((PV.non, 0), PV.lst (xs ++ [y]), joinD d (y, 0)) else none) = _
  rw [if_pos (by rw [line_eq]; omega)]
  simp [joinD, hy]
theorem peq_NN (a b : Nat) : peq (pN a) (pN b) = some (decide (a = b)) := by rw [peq_F, peqN]
theorem memB_N (y : Nat) : ∀ xs : List Nat, memB (pN y) (xs.map pN) = some (decide (y ∈ xs)) := by
  intro xs
  have := inN y xs
  rw [← in_F] at this
  exact this
theorem findB_N (y : Nat) : ∀ (xs : List Nat) (k : Nat), y ∈ xs → findB (pN y) (xs.map pN) k = some (k + xs.idxOf y)
  | [], k, h => by cases h
  | x :: xs, k, h => by
    rw [List.map_cons, findB, peq_NN]
    by_cases e : x = y
    · subst e
      rw [decide_eq_true rfl]
      simp only [memB_N, Option.map_some, List.idxOf_cons_self]
      rfl
    · rw [decide_eq_false e]
      simp only
      have h' : y ∈ xs := by
        rcases List.mem_cons.mp h with h | h
        · exact absurd h.symm e
        · exact h
      rw [findB_N y xs (k + 1) h', List.idxOf_cons]
      have : (x == y) = false := by simpa using e
      rw [this]
      simp only [cond_false]
      congr 1
      omega
theorem indexN {xs : List Nat} {y : Nat} (h : y ∈ xs) : fn2 .index (lN xs) (pN y) = some (pN (xs.idxOf y)) := by
  show (findB (pN y) (xs.map pN) 0).map _ = _
  rw [findB_N y xs 0 h]
  simp [pN]
theorem indexNF {xs : List Nat} {y : Nat} (h : y ∈ xs) : fn2F .index (lN xs) (pN y) = some (pN (xs.idxOf y)) := indexN h
/-- put in at a place -/
def insAt (i e : Nat) (xs : List Nat) : List Nat := xs.take i ++ e :: xs.drop i
theorem set_map {α β : Type} (f : α → β) (xs : List α) (i : Nat) (x : α) : (xs.map f).set i (f x) = (xs.set i x).map f := by
  rw [List.map_set]
theorem ch_ins (as : List Arg) : change .insert as = cInsert as := rfl
theorem insN0 {xs : List Nat} {i e d : Nat} (hi : i < 1000000) (hl : xs.length < 1000000) : cInsert [(pN i, 0), (pN e, 0)] (lN xs) d = some ((.non, 0), lN (insAt i e xs), d) := by
  have h : cInsert [(.int (i : Int), 0), (pN e, 0)] (.lst (xs.map pN)) d = some ((PV.non, 0), PV.lst ((xs.map pN).take (i : Int).toNat ++ pN e :: (xs.map pN).drop (i : Int).toNat), joinD d (pN e, 0)) := by
    unfold cInsert
    simp only
    rw [if_pos ⟨by omega, by omega, by rw [line_eq, List.length_map]; omega⟩]
  have h2 : PV.lst ((xs.map pN).take (i : Int).toNat ++ pN e :: (xs.map pN).drop (i : Int).toNat) = lN (insAt i e xs) := by
    simp [lN, insAt]
  rw [h2] at h
  exact h
theorem modA {f : PV → Nat → Option (Arg × PV × Nat)} {x : PV} {d : Nat} (hx : isL x = true) (hd : 1 ≤ d) : modAt f [] x d = f x d := by
  unfold modAt
  rw [if_pos (by rw [hx]; simpa using hd)]
theorem insN {xs : List Nat} {i e d : Nat} (hi : i < 1000000) (hl : xs.length < 1000000) (hd : 1 ≤ d) : modAt (change .insert [(pN i, 0), (pN e, 0)]) [] (lN xs) d = some ((.non, 0), lN (insAt i e xs), d) := by
  rw [modA (ilN xs) hd, ch_ins, insN0 hi hl]
theorem insLN {ts : List (List Nat)} {v i e : Nat} (hv : v < ts.length) (hi : i < 1000000) (hl : (ts[v]).length < 1000000) : modAt (change .insert [(pN i, 0), (pN e, 0)]) [pN v] (lLN ts) 2 = some ((.non, 0), lLN (ts.set v (insAt i e ts[v])), 2) := by
  unfold modAt
  rw [get_F, glLN ts v hv]
  simp only [ilN, Bool.true_and]
  rw [if_pos (by decide)]
  have e2 : put1 (lLN ts) (pN v) (lN (insAt i e ts[v])) = some (lLN (ts.set v (insAt i e ts[v]))) := by
    show (ixN (ts.map lN).length (v : Int)).map _ = _
    rw [ix_ok (by simpa using hv), Option.map_some, set_map]
    rfl
  rw [insN hi hl (by decide)]
  simp only [e2, Option.map_some]
  rfl
theorem rec_ins {ts : List (List Nat)} {v : Nat} (hv : v < ts.length) : recvOk .insert [pN v] (lLN ts) = true := by
  unfold recvOk
  rw [show getP [pN v] (lLN ts) = some (lN ts[v]) by
    show (get1 (lLN ts) (pN v)).bind _ = _
    rw [get_F, glLN ts v hv]; rfl]
  rfl
theorem setTN {ts : List (List Nat)} {v : Nat} {t : List Nat} {d : Nat} (hv : v < ts.length) (hd : 1 ≤ d) : modAt (fun x d => change .set [(pN v, 0), (tN t, 0)] x d) [] (lTN ts) d = some ((.non, 0), lTN (ts.set v t), d) := by
  unfold modAt
  rw [if_pos (by rw [ilTN]; simpa using hd)]
  show (ixN (ts.map tN).length (v : Int)).map _ = _
  rw [ix_ok (by simpa using hv), Option.map_some, set_map]
  rfl
theorem ot_lt {e m : Nat} (h : e < 2 * m) : (if e % 2 = 0 then e + 1 else e - 1) < 2 * m := by split <;> omega
/-- the other end of a road -/
def ot (e : Nat) : Nat := if e % 2 = 0 then e + 1 else e - 1
/-- where an end stands -/
def sp (rs : List (Nat × Nat)) (e : Nat) : Nat := match rs[e / 2]? with
  | some p => if e % 2 = 0 then p.1 else p.2
  | none => 0
def spotsF (rs : List (Nat × Nat)) : List Nat := rs.flatMap fun p => [p.1, p.2]
theorem spots_len (rs : List (Nat × Nat)) : (spotsF rs).length = 2 * rs.length := by
  induction rs with
  | nil => rfl
  | cons a r ih => simp [spotsF] at ih ⊢; omega
theorem spots_get : ∀ (rs : List (Nat × Nat)) (e : Nat) (h : e < (spotsF rs).length), (spotsF rs)[e] = sp rs e
  | [], e, h => by simp [spotsF] at h
  | p :: rs, 0, h => rfl
  | p :: rs, 1, h => rfl
  | p :: rs, e + 2, h => by
    have h' : e < (spotsF rs).length := by rw [spots_len] at h ⊢; simp at h; omega
    have ih := spots_get rs e h'
    have e1 : (e + 2) / 2 = e / 2 + 1 := by omega
    have e2 : (e + 2) % 2 = e % 2 := by omega
    have e3 : (spotsF (p :: rs))[e + 2] = (spotsF rs)[e] := rfl
    rw [e3, ih]
    unfold sp
    rw [e1, e2, List.getElem?_cons_succ]
theorem sp_lt {w : Web} (hw : ∀ p ∈ w.roads, p.1 < w.n ∧ p.2 < w.n) {e : Nat} (h : e < 2 * w.roads.length) : sp w.roads e < w.n := by
  have h2 : e / 2 < w.roads.length := by omega
  unfold sp
  rw [List.getElem?_eq_getElem h2]
  have := hw _ (List.getElem_mem h2)
  simp only
  split
  · exact this.1
  · exact this.2
/-- the number ahead in a round -/
theorem getPrev {xs : List Nat} {k : Nat} (h : k < xs.length) : ∃ j, ∃ hj : j < xs.length, (k = 0 → j = xs.length - 1) ∧ (0 < k → j = k - 1) ∧ getF (tN xs) (.int ((k : Int) - 1)) = some (pN xs[j]) := by
  by_cases h0 : k = 0
  · subst h0
    refine ⟨xs.length - 1, by omega, fun _ => rfl, fun h => by omega, ?_⟩
    rw [← get_F]
    show atI (xs.map pN) (((0 : Nat) : Int) - 1) = _
    unfold atI ixN
    rw [if_neg (by omega), List.length_map, if_pos (by omega)]
    have e : (((0 : Nat) : Int) - 1 + xs.length).toNat = xs.length - 1 := by omega
    rw [e, Option.bind_some, List.getElem?_map, List.getElem?_eq_getElem (by omega)]
    rfl
  · refine ⟨k - 1, by omega, fun h => absurd h h0, fun _ => rfl, ?_⟩
    have e : PV.int ((k : Int) - 1) = pN (k - 1) := by
      unfold pN
      congr 1
      omega
    rw [e, gtN xs (k - 1) (by omega)]
end Mi
namespace Mi
theorem wrngN (n : Nat) (h : n < 1000000) : fa1 .rangeL1 (pN n) = some (lN (List.range n)) := by
  show (if wide (n : Int) && decide ((n : Int) ≤ 1000000) then some (PV.lst (upto 0 (n : Int).toNat)) else none) = _
  have := upto_rng n 0
  rw [wideN n h, if_pos (by simp; omega), Int.toNat_natCast, ← List.range_eq_range'] at *
  exact congrArg (fun x => some (PV.lst x)) this
end Mi
namespace Mi
theorem wetN (xs : List Nat) : iter1 .enum (tN xs) = some (xs.zipIdx.map fun q => .tup [pN q.2, pN q.1]) := by
  show some (enumFrom' 0 (xs.map pN)) = _
  rw [enum_eq]
theorem welN (xs : List Nat) : iter1 .enum (lN xs) = some (xs.zipIdx.map fun q => .tup [pN q.2, pN q.1]) := wetN xs
theorem zip_mem {xs : List Nat} {q : Nat × Nat} (h : q ∈ xs.zipIdx) : ∃ hk : q.2 < xs.length, xs[q.2] = q.1 := by
  obtain ⟨a, b⟩ := q
  have := List.mem_zipIdx h
  simp at this
  exact ⟨this.1, this.2.symm⟩
end Mi
end
section
set_option linter.all false
/-! P6: right webs (plain): a road more, a crossing more, other names. -/
namespace Mi
def Web.t (w : Web) (v : Nat) : List Nat := (w.turns[v]?).getD []
theorem Web.t_get (w : Web) {v : Nat} (h : v < w.turns.length) : w.turns[v] = w.t v := by
  unfold Web.t
  rw [List.getElem?_eq_getElem h]; rfl
structure WebGood (w : Web) : Prop where
  pos : 1 ≤ w.n
  ends : ∀ p ∈ w.roads, p.1 < w.n ∧ p.2 < w.n
  len : w.turns.length = w.n
  nd : ∀ v, v < w.n → (w.t v).Nodup
  mem : ∀ v, v < w.n → ∀ e, e ∈ w.t v ↔ e < 2 * w.roads.length ∧ sp w.roads e = v
  conn : ∀ P : Nat → Prop, (∃ v, v < w.n ∧ P v) → (∀ p ∈ w.roads, P p.1 ↔ P p.2) → ∀ v, v < w.n → P v
theorem insAt_mem {i e x : Nat} {xs : List Nat} : x ∈ insAt i e xs ↔ x = e ∨ x ∈ xs := by
  unfold insAt
  rw [List.mem_append, List.mem_cons]
  conv => rhs; rw [← List.take_append_drop i xs, List.mem_append]
  constructor
  · rintro (h | h | h)
    · exact .inr (.inl h)
    · exact .inl h
    · exact .inr (.inr h)
  · rintro (h | h | h)
    · exact .inr (.inl h)
    · exact .inl h
    · exact .inr (.inr h)
theorem insAt_perm {i e : Nat} {xs : List Nat} : (insAt i e xs).Perm (e :: xs) := by
  unfold insAt
  refine List.perm_middle.trans (List.Perm.cons _ ?_)
  rw [List.take_append_drop]
theorem insAt_nodup {i e : Nat} {xs : List Nat} (h : xs.Nodup) (he : e ∉ xs) : (insAt i e xs).Nodup := insAt_perm.nodup_iff.mpr (List.nodup_cons.mpr ⟨he, h⟩)
theorem insAt_len {i e : Nat} {xs : List Nat} : (insAt i e xs).length = xs.length + 1 := by
  rw [insAt_perm.length_eq]; rfl
theorem sp_app {rs : List (Nat × Nat)} {p : Nat × Nat} {e : Nat} (h : e < 2 * rs.length) : sp (rs ++ [p]) e = sp rs e := by
  unfold sp
  rw [List.getElem?_append_left (by omega)]
theorem sp_new0 {rs : List (Nat × Nat)} {p : Nat × Nat} : sp (rs ++ [p]) (2 * rs.length) = p.1 := by
  unfold sp
  have e1 : 2 * rs.length / 2 = rs.length := by omega
  have e2 : 2 * rs.length % 2 = 0 := by omega
  rw [e1, e2, List.getElem?_append_right (Nat.le_refl _), Nat.sub_self]
  rfl
theorem sp_new1 {rs : List (Nat × Nat)} {p : Nat × Nat} : sp (rs ++ [p]) (2 * rs.length + 1) = p.2 := by
  unfold sp
  have e1 : (2 * rs.length + 1) / 2 = rs.length := by omega
  have e2 : (2 * rs.length + 1) % 2 = 1 := by omega
  rw [e1, e2, List.getElem?_append_right (Nat.le_refl _), Nat.sub_self]
  rfl
theorem t_set {ts : List (List Nat)} {v u : Nat} {x : List Nat} (h : v < ts.length) : ((ts.set v x)[u]?).getD [] = if u = v then x else (ts[u]?).getD [] := by
  rw [List.getElem?_set]
  by_cases e : v = u
  · subst e; simp [h]
  · have : ¬ u = v := fun h => e h.symm
    simp [e, this]
/-- a road more between two ends -/
def grownW (w : Web) (one other : Nat) : Web :=
  let a := sp w.roads one
  let b := sp w.roads other
  let m := w.roads.length
  let t1 := w.turns.set a (insAt ((w.t a).idxOf one) (2 * m) (w.t a))
  let x := (t1[b]?).getD []
  ⟨w.n, w.roads ++ [(a, b)], t1.set b (insAt (x.idxOf other) (2 * m + 1) x)⟩
theorem grown_good {w : Web} (hw : WebGood w) {one other : Nat} (h1 : one < 2 * w.roads.length) (h2 : other < 2 * w.roads.length) : WebGood (grownW w one other) := by
  have ha := sp_lt hw.ends h1
  have hb := sp_lt hw.ends h2
  have hla : sp w.roads one < w.turns.length := by rw [hw.len]; exact ha
  have hlb : sp w.roads other < w.turns.length := by rw [hw.len]; exact hb
  obtain ⟨i, key⟩ : ∃ i, ∀ v, v < w.n → (grownW w one other).t v = if v = sp w.roads other then insAt i (2 * w.roads.length + 1) (if sp w.roads other = sp w.roads one then insAt ((w.t (sp w.roads one)).idxOf one) (2 * w.roads.length) (w.t (sp w.roads one)) else w.t (sp w.roads other)) else if v = sp w.roads one then insAt ((w.t (sp w.roads one)).idxOf one) (2 * w.roads.length) (w.t (sp w.roads one)) else w.t v := by
    refine ⟨(((w.turns.set (sp w.roads one) (insAt ((w.t (sp w.roads one)).idxOf one) (2 * w.roads.length) (w.t (sp w.roads one))))[sp w.roads other]?).getD []).idxOf other, fun v hv => ?_⟩
    unfold grownW Web.t
    dsimp only
    rw [t_set (by rw [List.length_set]; exact hlb), t_set hla, t_set hla]
  have old : ∀ v, v < w.n → ∀ e, e ∈ w.t v → e < 2 * w.roads.length := fun v hv e he => ((hw.mem v hv e).mp he).1
  refine ⟨hw.pos, ?_, ?_, ?_, ?_, ?_⟩
  · intro p hp
    rcases List.mem_append.mp hp with hp | hp
    · exact hw.ends p hp
    · rw [List.mem_singleton.mp hp]; exact ⟨ha, hb⟩
  · show (List.set _ _ _).length = w.n
    rw [List.length_set, List.length_set, hw.len]
  · intro v hv
    have hv : v < w.n := hv
    rw [key v hv]
    have n1 : (insAt ((w.t (sp w.roads one)).idxOf one) (2 * w.roads.length) (w.t (sp w.roads one))).Nodup := insAt_nodup (hw.nd _ ha) (fun h => by have := old _ ha _ h; omega)
    split
    · split
      · refine insAt_nodup n1 fun h => ?_
        rcases insAt_mem.mp h with h | h
        · omega
        · have := old _ ha _ h; omega
      · refine insAt_nodup (hw.nd _ hb) fun h => ?_
        have := old _ hb _ h; omega
    · split
      · exact n1
      · exact hw.nd v hv
  · intro v hv e
    have hv : v < w.n := hv
    have hm : (grownW w one other).roads = w.roads ++ [(sp w.roads one, sp w.roads other)] := rfl
    rw [key v hv, hm, List.length_append, List.length_singleton]
    have hcase : (e < 2 * (w.roads.length + 1) ∧ sp (w.roads ++ [(sp w.roads one, sp w.roads other)]) e = v) ↔ (e < 2 * w.roads.length ∧ sp w.roads e = v) ∨ (e = 2 * w.roads.length ∧ v = sp w.roads one) ∨ (e = 2 * w.roads.length + 1 ∧ v = sp w.roads other) := by
      by_cases c1 : e < 2 * w.roads.length
      · rw [sp_app c1]
        constructor
        · rintro ⟨_, h⟩; exact .inl ⟨c1, h⟩
        · rintro (⟨_, h⟩ | ⟨h, _⟩ | ⟨h, _⟩)
          · exact ⟨by omega, h⟩
          · omega
          · omega
      · by_cases c2 : e = 2 * w.roads.length
        · subst c2
          rw [sp_new0]
          constructor
          · rintro ⟨_, h⟩; exact .inr (.inl ⟨(by first | rfl | trivial), h.symm⟩)
          · rintro (⟨h, _⟩ | ⟨_, h⟩ | ⟨h, _⟩)
            · omega
            · exact ⟨by omega, h.symm⟩
            · omega
        · by_cases c3 : e = 2 * w.roads.length + 1
          · subst c3
            rw [sp_new1]
            constructor
            · rintro ⟨_, h⟩; exact .inr (.inr ⟨(by first | rfl | trivial), h.symm⟩)
            · rintro (⟨h, _⟩ | ⟨h, _⟩ | ⟨_, h⟩)
              · omega
              · omega
              · exact ⟨by omega, h.symm⟩
          · constructor
            · rintro ⟨h, _⟩; omega
            · rintro (⟨h, _⟩ | ⟨h, _⟩ | ⟨h, _⟩) <;> omega
    rw [hcase]
    split
    · next e1 =>
      subst e1
      rw [insAt_mem]
      split
      · next e2 =>
        rw [insAt_mem, hw.mem _ ha e, ← e2]
        constructor
        · rintro (h | h | h)
          · exact .inr (.inr ⟨h, rfl⟩)
          · exact .inr (.inl ⟨h, rfl⟩)
          · exact .inl h
        · rintro (h | ⟨h, _⟩ | ⟨h, _⟩)
          · exact .inr (.inr h)
          · exact .inr (.inl h)
          · exact .inl h
      · next e2 =>
        rw [hw.mem _ hb e]
        constructor
        · rintro (h | h)
          · exact .inr (.inr ⟨h, rfl⟩)
          · exact .inl h
        · rintro (h | ⟨_, h⟩ | ⟨h, _⟩)
          · exact .inr h
          · exact absurd h e2
          · exact .inl h
    · next e1 =>
      split
      · next e2 =>
        subst e2
        rw [insAt_mem, hw.mem _ ha e]
        constructor
        · rintro (h | h)
          · exact .inr (.inl ⟨h, rfl⟩)
          · exact .inl h
        · rintro (h | ⟨h, _⟩ | ⟨_, h⟩)
          · exact .inr h
          · exact .inl h
          · exact absurd h e1
      · next e2 =>
        rw [hw.mem v hv e]
        constructor
        · exact .inl
        · rintro (h | ⟨_, h⟩ | ⟨_, h⟩)
          · exact h
          · exact absurd h e2
          · exact absurd h e1
  · intro P hP hr
    exact hw.conn P hP fun p hp => hr p (List.mem_append_left _ hp)
/-- a crossing more, by a road to an old one -/
def moreW (w : Web) (at_ side k : Nat) : Web :=
  ⟨w.n + 1, w.roads ++ [if side = 0 then (at_, w.n) else (w.n, at_)], (w.turns.set at_ (insAt k (2 * w.roads.length + side) (w.t at_))) ++ [[2 * w.roads.length + 1 - side]]⟩
theorem more_good {w : Web} (hw : WebGood w) {at_ side k : Nat} (h1 : at_ < w.n) (h2 : side < 2) : WebGood (moreW w at_ side k) := by
  have hla : at_ < w.turns.length := by rw [hw.len]; exact h1
  have key : ∀ v, (moreW w at_ side k).t v = if v = at_ then insAt k (2 * w.roads.length + side) (w.t at_) else if v < w.n then w.t v else if v = w.n then [2 * w.roads.length + 1 - side] else [] := by
    intro v
    unfold moreW Web.t
    dsimp only
    by_cases c : v < w.n
    · rw [List.getElem?_append_left (by rw [List.length_set, hw.len]; exact c), t_set hla]
      simp [c]
    · rw [List.getElem?_append_right (by rw [List.length_set, hw.len]; omega), List.length_set, hw.len]
      have : ¬ v = at_ := by omega
      simp only [this, c, if_false]
      by_cases c2 : v = w.n
      · subst c2; simp
      · rw [if_neg c2, List.getElem?_eq_none (by simp; omega)]; rfl
  have old : ∀ v, v < w.n → ∀ e, e ∈ w.t v → e < 2 * w.roads.length := fun v hv e he => ((hw.mem v hv e).mp he).1
  refine ⟨by show 1 ≤ w.n + 1; omega, ?_, ?_, ?_, ?_, ?_⟩
  · intro p hp
    show p.1 < w.n + 1 ∧ p.2 < w.n + 1
    rcases List.mem_append.mp hp with hp | hp
    · have := hw.ends p hp; omega
    · rw [List.mem_singleton.mp hp]
      split <;> dsimp only <;> omega
  · show (List.set _ _ _ ++ _).length = w.n + 1
    rw [List.length_append, List.length_set, hw.len]; rfl
  · intro v hv
    rw [key v]
    split
    · exact insAt_nodup (hw.nd _ h1) fun h => by have := old _ h1 _ h; omega
    · split
      · exact hw.nd v (by assumption)
      · split
        · simp
        · simp
  · intro v hv e
    have hv : v < w.n + 1 := hv
    have hm : (moreW w at_ side k).roads = w.roads ++ [if side = 0 then (at_, w.n) else (w.n, at_)] := rfl
    rw [key v, hm, List.length_append, List.length_singleton]
    have hcase : (e < 2 * (w.roads.length + 1) ∧ sp (w.roads ++ [if side = 0 then (at_, w.n) else (w.n, at_)]) e = v) ↔ (e < 2 * w.roads.length ∧ sp w.roads e = v) ∨ (e = 2 * w.roads.length + side ∧ v = at_) ∨ (e = 2 * w.roads.length + 1 - side ∧ v = w.n) := by
      by_cases c1 : e < 2 * w.roads.length
      · rw [sp_app c1]
        constructor
        · rintro ⟨_, h⟩; exact .inl ⟨c1, h⟩
        · rintro (⟨_, h⟩ | ⟨h, _⟩ | ⟨h, _⟩)
          · exact ⟨by omega, h⟩
          · omega
          · omega
      · by_cases c2 : e = 2 * w.roads.length
        · subst c2
          rw [sp_new0]
          by_cases s0 : side = 0
          · subst s0
            simp only [if_true]
            constructor
            · rintro ⟨_, h⟩; exact .inr (.inl ⟨(by first | rfl | trivial), h.symm⟩)
            · rintro (⟨h, _⟩ | ⟨_, h⟩ | ⟨h, _⟩)
              · omega
              · exact ⟨by omega, h.symm⟩
              · omega
          · have s1 : side = 1 := by omega
            subst s1
            simp only [Nat.succ_ne_zero, if_false]
            constructor
            · rintro ⟨_, h⟩; exact .inr (.inr ⟨(by first | rfl | trivial), h.symm⟩)
            · rintro (⟨h, _⟩ | ⟨h, _⟩ | ⟨_, h⟩)
              · omega
              · omega
              · exact ⟨by omega, h.symm⟩
        · by_cases c3 : e = 2 * w.roads.length + 1
          · subst c3
            rw [sp_new1]
            by_cases s0 : side = 0
            · subst s0
              simp only [if_true]
              constructor
              · rintro ⟨_, h⟩; exact .inr (.inr ⟨(by first | rfl | trivial), h.symm⟩)
              · rintro (⟨h, _⟩ | ⟨h, _⟩ | ⟨_, h⟩)
                · omega
                · omega
                · exact ⟨by omega, h.symm⟩
            · have s1 : side = 1 := by omega
              subst s1
              simp only [Nat.succ_ne_zero, if_false]
              constructor
              · rintro ⟨_, h⟩; exact .inr (.inl ⟨(by first | rfl | trivial), h.symm⟩)
              · rintro (⟨h, _⟩ | ⟨_, h⟩ | ⟨h, _⟩)
                · omega
                · exact ⟨by omega, h.symm⟩
                · omega
          · constructor
            · rintro ⟨h, _⟩; omega
            · rintro (⟨h, _⟩ | ⟨h, _⟩ | ⟨h, _⟩) <;> omega
    rw [hcase]
    split
    · next e1 =>
      subst e1
      rw [insAt_mem, hw.mem _ h1 e]
      constructor
      · rintro (h | h)
        · exact .inr (.inl ⟨h, rfl⟩)
        · exact .inl h
      · rintro (h | ⟨h, _⟩ | ⟨_, h⟩)
        · exact .inr h
        · exact .inl h
        · omega
    · next e1 =>
      split
      · next e2 =>
        rw [hw.mem v e2 e]
        constructor
        · exact .inl
        · rintro (h | ⟨_, h⟩ | ⟨_, h⟩)
          · exact h
          · exact absurd h e1
          · omega
      · next e2 =>
        have e3 : v = w.n := by omega
        rw [if_pos e3, List.mem_singleton]
        constructor
        · intro h; exact .inr (.inr ⟨h, e3⟩)
        · rintro (⟨h, h'⟩ | ⟨_, h⟩ | ⟨h, _⟩)
          · have := sp_lt hw.ends h; omega
          · omega
          · exact h
  · intro P hP hr
    have h3 : P at_ ↔ P w.n := by
      have := hr (if side = 0 then (at_, w.n) else (w.n, at_)) (List.mem_append_right _ (by simp))
      split at this
      · exact this
      · exact this.symm
    have h4 : ∃ v, v < w.n ∧ P v := by
      obtain ⟨v, hv, hp⟩ := hP
      have hv : v < w.n + 1 := hv
      by_cases c : v < w.n
      · exact ⟨v, c, hp⟩
      · have : v = w.n := by omega
        subst this
        exact ⟨at_, h1, h3.mpr hp⟩
    have h5 := hw.conn P h4 fun p hp => hr p (List.mem_append_left _ hp)
    intro v hv
    have hv : v < w.n + 1 := hv
    by_cases c : v < w.n
    · exact h5 v c
    · have : v = w.n := by omega
      subst this
      exact h3.mp (h5 at_ h1)

/-- an end's new name -/
def em (pl : List Nat) (e : Nat) : Nat := 2 * (pl[e / 2]?).getD 0 + e % 2
def nmOf (xs : List Nat) (v : Nat) : Nat := (xs[v]?).getD 0
theorem perm_len {xs : List Nat} {n : Nat} (h : xs.Perm (List.range n)) : xs.length = n := by rw [h.length_eq]; simp
theorem perm_nodup {xs : List Nat} {n : Nat} (h : xs.Perm (List.range n)) : xs.Nodup := h.nodup_iff.mpr List.nodup_range
theorem perm_mem {xs : List Nat} {n : Nat} (h : xs.Perm (List.range n)) {v : Nat} : v ∈ xs ↔ v < n := by rw [h.mem_iff]; simp
theorem nmOf_get {xs : List Nat} {v : Nat} (h : v < xs.length) : nmOf xs v = xs[v] := by unfold nmOf; rw [List.getElem?_eq_getElem h]; rfl
theorem nmOf_lt {xs : List Nat} {n v : Nat} (h : xs.Perm (List.range n)) (hv : v < n) : nmOf xs v < n := by
  have hl := perm_len h
  rw [nmOf_get (by omega)]
  exact (perm_mem h).mp (List.getElem_mem _)
theorem nmOf_inj {xs : List Nat} {n v u : Nat} (h : xs.Perm (List.range n)) (hv : v < n) (hu : u < n) (e : nmOf xs v = nmOf xs u) : v = u := by
  have hl := perm_len h
  rw [nmOf_get (by omega), nmOf_get (by omega)] at e
  exact (List.getElem_inj (perm_nodup h)).mp e
theorem nmOf_ix {xs : List Nat} {n v : Nat} (h : xs.Perm (List.range n)) (hv : v < n) : xs.idxOf v < n ∧ nmOf xs (xs.idxOf v) = v := by
  have hm : v ∈ xs := (perm_mem h).mpr hv
  have hl := perm_len h
  have hi := List.idxOf_lt_length_iff.mpr hm
  refine ⟨by omega, ?_⟩
  rw [nmOf_get hi]
  exact List.getElem_idxOf hi
/-- other names: crossings by names, roads by places, turns begun anywhere -/
structure Renamed (w w' : Web) (names places : List Nat) : Prop where
  n : w'.n = w.n
  roads : w'.roads = (List.range w.roads.length).map fun r => (nmOf names (sp w.roads (2 * places.idxOf r)), nmOf names (sp w.roads (2 * places.idxOf r + 1)))
  len : w'.turns.length = w.n
  turns : ∀ v, v < w.n → (w'.t (nmOf names v)).Perm ((w.t v).map (em places))
theorem renamed_good {w w' : Web} (hw : WebGood w) {names places : List Nat} (hn : names.Perm (List.range w.n)) (hp : places.Perm (List.range w.roads.length)) (h : Renamed w w' names places) : WebGood w' := by
  have hlen : w'.roads.length = w.roads.length := by rw [h.roads]; simp
  have hpl := perm_len hp
  -- an end and its new name
  have em_lt : ∀ e, e < 2 * w.roads.length → em places e < 2 * w.roads.length := by
    intro e he
    have := nmOf_lt (v := e / 2) hp (by omega)
    unfold nmOf at this
    unfold em
    omega
  have em_inj : ∀ e f, e < 2 * w.roads.length → f < 2 * w.roads.length → em places e = em places f → e = f := by
    intro e f he hf h
    unfold em at h
    have h1 := nmOf_inj (v := e / 2) (u := f / 2) hp (by omega) (by omega) (by unfold nmOf; omega)
    omega
  have em_on : ∀ e', e' < 2 * w.roads.length → ∃ e, e < 2 * w.roads.length ∧ em places e = e' := by
    intro e' he
    obtain ⟨h1, h2⟩ := nmOf_ix (v := e' / 2) hp (by omega)
    unfold nmOf at h2
    refine ⟨2 * places.idxOf (e' / 2) + e' % 2, by omega, ?_⟩
    unfold em
    have h3 : (2 * places.idxOf (e' / 2) + e' % 2) / 2 = places.idxOf (e' / 2) := by omega
    rw [h3, h2]
    omega
  have sp_em : ∀ e, e < 2 * w.roads.length → sp w'.roads (em places e) = nmOf names (sp w.roads e) := by
    intro e he
    have h1 := nmOf_lt (v := e / 2) hp (by omega)
    have h3 : em places e / 2 = nmOf places (e / 2) := by unfold em nmOf; omega
    have h4 : em places e % 2 = e % 2 := by unfold em; omega
    have h5 : places.idxOf (nmOf places (e / 2)) = e / 2 := by
      obtain ⟨h6, h7⟩ := nmOf_ix hp h1
      exact nmOf_inj hp h6 (by omega) h7
    unfold sp
    rw [h3, h4, h.roads, List.getElem?_map, List.getElem?_range h1]
    simp only [Option.map_some, h5]
    have h8 : e / 2 < w.roads.length := by omega
    unfold sp
    have e1 : 2 * (e / 2) / 2 = e / 2 := by omega
    have e2 : (2 * (e / 2) + 1) / 2 = e / 2 := by omega
    have e3 : 2 * (e / 2) % 2 = 0 := by omega
    have e4 : (2 * (e / 2) + 1) % 2 = 1 := by omega
    rw [e1, e2, e3, e4, List.getElem?_eq_getElem h8]
    simp
    split <;> rfl
  have tm : ∀ v, v < w.n → ∀ e', e' ∈ w'.t (nmOf names v) ↔ ∃ e, e ∈ w.t v ∧ em places e = e' := by
    intro v hv e'
    rw [(h.turns v hv).mem_iff, List.mem_map]
  refine ⟨by rw [h.n]; exact hw.pos, ?_, by rw [h.len, h.n], ?_, ?_, ?_⟩
  · intro p hp'
    rw [h.roads, List.mem_map] at hp'
    obtain ⟨r, hr, rfl⟩ := hp'
    have hr := List.mem_range.mp hr
    obtain ⟨h6, _⟩ := nmOf_ix hp hr
    rw [h.n]
    exact ⟨nmOf_lt hn (sp_lt hw.ends (by omega)), nmOf_lt hn (sp_lt hw.ends (by omega))⟩
  · intro u hu
    rw [h.n] at hu
    obtain ⟨h6, h7⟩ := nmOf_ix hn hu
    rw [← h7, (h.turns _ h6).nodup_iff]
    have hd := hw.nd _ h6
    have hb := fun e => (hw.mem _ h6 e).mp
    refine List.pairwise_map.mpr (List.Pairwise.imp_of_mem ?_ hd)
    intro a b ha hb' hab e
    exact hab (em_inj a b (hb a ha).1 (hb b hb').1 e)
  · intro u hu e'
    rw [h.n] at hu
    obtain ⟨h6, h7⟩ := nmOf_ix hn hu
    rw [← h7, tm _ h6, hlen]
    constructor
    · rintro ⟨e, he, rfl⟩
      obtain ⟨h8, h9⟩ := (hw.mem _ h6 e).mp he
      exact ⟨em_lt e h8, by rw [sp_em e h8, h9]⟩
    · rintro ⟨h8, h9⟩
      obtain ⟨e, h10, rfl⟩ := em_on e' h8
      rw [sp_em e h10] at h9
      exact ⟨e, (hw.mem _ h6 e).mpr ⟨h10, nmOf_inj hn (sp_lt hw.ends h10) h6 h9⟩, rfl⟩
  · intro P hP hr
    rw [h.n] at hP ⊢
    have h1 : ∃ v, v < w.n ∧ P (nmOf names v) := by
      obtain ⟨u, hu, hpu⟩ := hP
      obtain ⟨h6, h7⟩ := nmOf_ix hn hu
      exact ⟨_, h6, by rw [h7]; exact hpu⟩
    have h2 := hw.conn (fun v => P (nmOf names v)) h1 (fun p hp' => by
      obtain ⟨i, hi, rfl⟩ := List.getElem_of_mem hp'
      have h3 := nmOf_lt (v := i) hp hi
      have h4 : places.idxOf (nmOf places i) = i := by
        obtain ⟨h6, h7⟩ := nmOf_ix hp h3
        exact nmOf_inj hp h6 hi h7
      have := hr (nmOf names (sp w.roads (2 * places.idxOf (nmOf places i))), nmOf names (sp w.roads (2 * places.idxOf (nmOf places i) + 1))) (by
        rw [h.roads]
        exact List.mem_map.mpr ⟨_, List.mem_range.mpr h3, rfl⟩)
      rw [h4] at this
      unfold sp at this
      have e1 : 2 * i / 2 = i := by omega
      have e2 : (2 * i + 1) / 2 = i := by omega
      have e3 : 2 * i % 2 = 0 := by omega
      have e4 : (2 * i + 1) % 2 = 1 := by omega
      rw [e1, e2, e3, e4, List.getElem?_eq_getElem hi] at this
      simpa using this)
    intro u hu
    obtain ⟨h6, h7⟩ := nmOf_ix hn hu
    rw [← h7]
    exact h2 _ h6
end Mi
end
section
set_option linter.all false
set_option maxRecDepth 100000
set_option maxHeartbeats 4000000
/-! P7: more rules. -/
namespace Mi
open PySem
theorem peqNI (a : Nat) (k : Int) : peqF (pN a) (.int k) = some (decide ((a : Int) = k)) := rfl
theorem peqIN (a : Nat) (k : Int) : peqF (.int k) (pN a) = some (decide (k = (a : Int))) := rfl
theorem mul2N (x : Nat) : fn2F .mul (.int 2) (pN x) = some (pN (2 * x)) := by
  show (if small 2 || small (x : Int) then some (PV.int (2 * (x : Int))) else none) = _
  rw [show small 2 = true by decide, Bool.true_or, if_pos rfl]
  rfl
theorem succN (x : Nat) : PV.int ((x : Int) + 1) = pN (x + 1) := rfl
theorem subN (x y : Nat) (h : y ≤ x) : PV.int ((x : Int) - (y : Int)) = pN (x - y) := by
  unfold pN
  congr 1
  omega
theorem glLN' (ts : List (List Nat)) (k : Nat) (h : k < ts.length) : getF (lLN ts) (pN k) = some (lN ((ts[k]?).getD [])) := by
  rw [glLN ts k h, List.getElem?_eq_getElem h]; rfl
theorem glTN' (ts : List (List Nat)) (k : Nat) (h : k < ts.length) : getF (lTN ts) (pN k) = some (tN ((ts[k]?).getD [])) := by
  rw [glTN ts k h, List.getElem?_eq_getElem h]; rfl
theorem insLN' {ts : List (List Nat)} {v i e : Nat} (hv : v < ts.length) (hi : i < 1000000) (hl : ((ts[v]?).getD []).length < 1000000) : modAt (change .insert [(pN i, 0), (pN e, 0)]) [pN v] (lLN ts) 2 = some ((.non, 0), lLN (ts.set v (insAt i e ((ts[v]?).getD []))), 2) := by
  have h : (ts[v]?).getD [] = ts[v] := by rw [List.getElem?_eq_getElem hv]; rfl
  rw [h] at hl ⊢
  exact insLN hv hi hl
theorem lLND (ts : List (List Nat)) : PV.lst (ts.map lN) = lLN ts := rfl
theorem lTND (ts : List (List Nat)) : PV.lst (ts.map tN) = lTN ts := rfl
theorem lnSp (rs : List (Nat × Nat)) (e : Nat) (h : e < 2 * rs.length) : getF (lN (spotsF rs)) (pN e) = some (pN (sp rs e)) := by
  have h' : e < (spotsF rs).length := by rw [spots_len]; exact h
  rw [glN _ _ h', spots_get rs e h']
theorem recApp (xs : List PV) : recvOk .append [] (.lst xs) = true := rfl
theorem wlLN (ts : List (List Nat)) : iter1 .seq (lLN ts) = some (ts.map lN) := rfl
theorem wlTN (ts : List (List Nat)) : iter1 .seq (lTN ts) = some (ts.map tN) := rfl
theorem toTlTN (ts : List (List Nat)) : fa1 .toT (lTN ts) = some (.tup (ts.map tN)) := rfl
/-- a right web's lengths -/
theorem WebGood.wok {w : Web} (hw : WebGood w) (h1 : w.n ≤ 1000) (h2 : w.roads.length ≤ 1000) : WOk w := ⟨hw.pos, h1, h2, hw.ends⟩
theorem WebGood.t_lt {w : Web} (hw : WebGood w) {v : Nat} (hv : v < w.n) : ∀ e ∈ w.t v, e < 2 * w.roads.length := fun e he => ((hw.mem v hv e).mp he).1
theorem WebGood.t_len {w : Web} (hw : WebGood w) {v : Nat} (hv : v < w.n) : (w.t v).length ≤ 2 * w.roads.length := nodup_len (hw.nd v hv) (hw.t_lt hv)
theorem WebGood.t_mem {w : Web} (hw : WebGood w) {t : List Nat} (ht : t ∈ w.turns) : ∃ v, v < w.n ∧ w.t v = t := by
  obtain ⟨i, hi, rfl⟩ := List.getElem_of_mem ht
  refine ⟨i, by rw [← hw.len]; exact hi, ?_⟩
  rw [w.t_get hi]
theorem WebGood.ends_ok {w : Web} (hw : WebGood w) : ∀ t ∈ w.turns, ∀ e ∈ t, e < 2 * w.roads.length := by
  intro t ht
  obtain ⟨v, hv, rfl⟩ := hw.t_mem ht
  exact hw.t_lt hv
theorem WebGood.len_ok {w : Web} (hw : WebGood w) : ∀ t ∈ w.turns, t.length ≤ 2 * w.roads.length := by
  intro t ht
  obtain ⟨v, hv, rfl⟩ := hw.t_mem ht
  exact hw.t_len hv
/-- without roads there is one crossing -/
theorem WebGood.one {w : Web} (hw : WebGood w) (h : w.roads.length = 0) : w.n = 1 := by
  have h0 : w.roads = [] := List.length_eq_zero_iff.mp h
  have := hw.conn (fun v => v = 0) ⟨0, hw.pos, rfl⟩ (by rw [h0]; intro p hp; cases hp)
  by_cases h1 : w.n = 1
  · exact h1
  · have := this 1 (by have := hw.pos; omega)
    omega
/-- an end elsewhere -/
theorem WebGood.else_ {w : Web} (hw : WebGood w) (h : 1 < w.n) (v : Nat) : ∃ e, e < 2 * w.roads.length ∧ sp w.roads e ≠ v := by
  refine Classical.byContradiction fun hc => ?_
  have hall : ∀ e, e < 2 * w.roads.length → sp w.roads e = v := fun e he => Classical.byContradiction fun h => hc ⟨e, he, h⟩
  have hp : ∀ p ∈ w.roads, p.1 = v ∧ p.2 = v := by
    intro p hp
    obtain ⟨i, hi, rfl⟩ := List.getElem_of_mem hp
    have h1 := hall (2 * i) (by omega)
    have h2 := hall (2 * i + 1) (by omega)
    unfold sp at h1 h2
    have e1 : 2 * i / 2 = i := by omega
    have e2 : (2 * i + 1) / 2 = i := by omega
    have e3 : 2 * i % 2 = 0 := by omega
    have e4 : (2 * i + 1) % 2 = 1 := by omega
    rw [e1, e3, List.getElem?_eq_getElem hi] at h1
    rw [e2, e4, List.getElem?_eq_getElem hi] at h2
    exact ⟨by simpa using h1, by simpa using h2⟩
  -- the set {v} or its complement is closed
  by_cases hv : v = 0
  · have := hw.conn (fun u => u = 1) ⟨1, h, rfl⟩ (fun p hp' => by
      obtain ⟨a, b⟩ := hp p hp'
      omega) 0 hw.pos
    omega
  · have := hw.conn (fun u => u = 0) ⟨0, hw.pos, rfl⟩ (fun p hp' => by
      obtain ⟨a, b⟩ := hp p hp'
      omega) 1 h
    omega
theorem web1_good : WebGood ⟨1, [(0, 0)], [[0, 1]]⟩ := by
  refine ⟨Nat.le_refl _, by simp, rfl, ?_, ?_, ?_⟩
  · intro v hv
    have : v = 0 := by have hv : v < 1 := hv; omega
    subst this
    decide
  · intro v hv e
    have : v = 0 := by have hv : v < 1 := hv; omega
    subst this
    show e ∈ [0, 1] ↔ _
    constructor
    · intro h
      simp at h
      rcases h with rfl | rfl
      · exact ⟨by decide, rfl⟩
      · exact ⟨by decide, rfl⟩
    · rintro ⟨h, _⟩
      have : e < 2 := h
      simp
      omega
  · rintro P ⟨v, hv, hp⟩ _ u hu
    have : v = u := by
      have hv : v < 1 := hv
      have hu : u < 1 := hu
      omega
    exact this ▸ hp
theorem web0_good : WebGood ⟨1, [], [[]]⟩ := by
  refine ⟨Nat.le_refl _, by simp, rfl, ?_, ?_, ?_⟩
  · intro v hv
    have : v = 0 := by have hv : v < 1 := hv; omega
    subst this
    decide
  · intro v hv e
    have : v = 0 := by have hv : v < 1 := hv; omega
    subst this
    show e ∈ [] ↔ _
    simp
  · rintro P ⟨v, hv, hp⟩ _ u hu
    have : v = u := by
      have hv : v < 1 := hv
      have hu : u < 1 := hu
      omega
    exact this ▸ hp
end Mi
end
section
set_option linter.all false
set_option maxRecDepth 100000
set_option maxHeartbeats 4000000
/-! P8: rules for renaming. -/
namespace Mi
open PySem
theorem tupInts (xs : List Nat) : intsOf (xs.map pN) = some (xs.map fun z : Nat => (z : Int)) := ints_map (fun z : Nat => (z : Int)) xs
theorem peqTN (xs ys : List Nat) : peqF (tN xs) (tN ys) = some (decide (xs = ys)) := by
  have := peqLN xs ys
  show (match intsOf (xs.map pN), intsOf (ys.map pN) with
    | some a, some b => some (eqL a b)
    | _, _ => peq (tN xs) (tN ys)) = _
  have h : (match intsOf (xs.map pN), intsOf (ys.map pN) with
    | some a, some b => some (eqL a b)
    | _, _ => peq (lN xs) (lN ys)) = some (decide (xs = ys)) := this
  rw [tupInts, tupInts] at h ⊢
  exact h
theorem peqT0 (xs : List Nat) : peqF (tN xs) (.tup []) = some (decide (xs = [])) := peqTN xs []
theorem wide_in (n : Nat) (h : n < 1000000) : evSo (some (.int (n : Int))) [] = some (some (n : Int)) := by
  show (if wide (n : Int) then some (some (n : Int)) else none) = _
  rw [wideN n h]; rfl
theorem sIx_nat (n d k : Nat) (h : k ≤ n) : sIx n d (some (k : Int)) = k := by
  unfold sIx
  simp only
  rw [if_neg (by omega), Int.toNat_natCast]
  omega
theorem slFrom (t : List Nat) (k : Nat) (h : k ≤ t.length) : fslice (tN t) (some (k : Int)) none = some (tN (t.drop k)) := by
  show some (PV.tup (cut (t.map pN) (some (k : Int)) none)) = _
  unfold cut
  rw [sIx_nat _ _ _ (by simpa using h), List.length_map]
  show some (PV.tup ((List.drop k (t.map pN)).take (t.length - k))) = _
  rw [List.take_of_length_le (by simp)]
  simp [tN]
theorem slTo (t : List Nat) (k : Nat) (h : k ≤ t.length) : fslice (tN t) none (some (k : Int)) = some (tN (t.take k)) := by
  show some (PV.tup (cut (t.map pN) none (some (k : Int)))) = _
  unfold cut
  rw [sIx_nat _ _ _ (by simpa using h)]
  show some (PV.tup ((List.drop 0 (t.map pN)).take (k - 0))) = _
  simp [tN]
theorem catTN (xs ys : List Nat) (h : xs.length + ys.length ≤ 16777216) : fa2 .cat (tN xs) (tN ys) = some (tN (xs ++ ys)) := by
  show (fit (xs.map pN ++ ys.map pN)).map PV.tup = _
  rw [fit_ok (by simpa using h)]
  simp [tN]
/-- a dict of new names for ends 0, 1, .. -/
def dE (k : Nat) (f : Nat → Nat) : List (Key × PV) := (List.range k).map fun e : Nat => (.inl (e : Int), pN (f e))
theorem dE_keys (k : Nat) (f : Nat → Nat) : (dE k f).map (·.1) = (List.range k).map fun e : Nat => (.inl (e : Int) : Key) := by
  simp [dE, Function.comp_def]
theorem dE_nd (k : Nat) (f : Nat → Nat) : ((dE k f).map (·.1)).Nodup := by
  rw [dE_keys]
  refine List.pairwise_map.mpr (List.Pairwise.imp ?_ (List.nodup_range (n := k)))
  intro a b hab e
  injection e with e
  exact hab (by omega)
theorem dput_new (k : Key) (v : PV) : ∀ (l : List (Key × PV)), k ∉ l.map (·.1) → dput k v l = l ++ [(k, v)]
  | [], _ => rfl
  | (k', v') :: r, h => by
    rw [List.map_cons, List.mem_cons] at h
    unfold dput
    rw [if_neg (fun e => h (.inl e.symm)), dput_new k v r (fun e => h (.inr e))]
    rfl
theorem dE_put (k : Nat) (f : Nat → Nat) (y : Nat) : dput (.inl (k : Int)) (pN y) (dE k f) = dE (k + 1) (upd f k y) := by
  rw [dput_new]
  · unfold dE
    rw [List.range_succ, List.map_append]
    congr 1
    · refine List.map_congr_left fun e he => ?_
      have := List.mem_range.mp he
      unfold upd
      rw [if_neg (by omega)]
    · simp [upd]
  · rw [dE_keys]
    intro h
    obtain ⟨e, he, h⟩ := List.mem_map.mp h
    have := List.mem_range.mp he
    injection h with h
    omega
theorem dE_len (k : Nat) (f : Nat → Nat) : (dE k f).length = k := by simp [dE]
theorem dE_get (k : Nat) (f : Nat → Nat) (e : Nat) (h : e < k) : getF (.dct (dE k f)) (pN e) = some (pN (f e)) := by
  show dget (.inl (e : Int)) (dE k f) = _
  unfold dE
  have : ∀ (n s : Nat), s ≤ e → e < s + n → dget (.inl (e : Int)) ((List.range' s n).map fun e : Nat => ((.inl (e : Int) : Key), pN (f e))) = some (pN (f e)) := by
    intro n
    induction n with
    | zero => intro s h1 h2; omega
    | succ n ih =>
      intro s h1 h2
      rw [List.range'_succ, List.map_cons, dget]
      by_cases c : s = e
      · subst c; simp
      · rw [if_neg (fun h => by injection h with h; omega)]
        exact ih (s + 1) (by omega) (by omega)
  rw [List.range_eq_range']
  exact this k 0 (by omega) (by omega)
theorem upd_eq {d : Nat} {k : Nat} {f : Nat → Nat} {a b : Nat} (hk : k < 1000000) : modAt (change .update [(.dct [(.inl (k : Int), pN a), (.inl ((k + 1 : Nat) : Int), pN b)], d)]) [] (.dct (dE k f)) 1 = some ((.non, 0), .dct (dE (k + 2) (upd (upd f k a) (k + 1) b)), 1) := by
  rw [modA rfl (Nat.le_refl 1)]
  show (if (dE k f).length + [((.inl (k : Int) : Key), pN a), (.inl ((k + 1 : Nat) : Int), pN b)].length ≤ sizeLine ∧ ((dE k f).map (·.1)).Nodup then some ((PV.non, 0), PV.dct ([((.inl (k : Int) : Key), pN a), (.inl ((k + 1 : Nat) : Int), pN b)].foldl (fun k m => dput m.1 m.2 k) (dE k f)), min 1 1) else none) = _
  rw [if_pos ⟨by rw [dE_len, line_eq]; simp; omega, dE_nd _ _⟩]
  simp only [List.foldl_cons, List.foldl_nil]
  rw [dE_put, dE_put]
  rfl
theorem rec_upd (l : List (Key × PV)) : recvOk .update [] (.dct l) = true := rfl
theorem keyN (k : Nat) : keyOf (pN k) = some (.inl (k : Int)) := rfl
theorem nd2 (k : Nat) : ([(.inl ((k : Nat) : Int) : Key), .inl ((k + 1 : Nat) : Int)]).Nodup := by
  simp
  omega
theorem webRd (rs : List (Nat × Nat)) (i : Nat) (h : i < rs.length) : getF (.tup (rs.map road)) (pN i) = some (road rs[i]) := by
  rw [gTn, List.getElem?_map, List.getElem?_eq_getElem h]; rfl
theorem sp_e0 {rs : List (Nat × Nat)} {i : Nat} (h : i < rs.length) : sp rs (2 * i) = rs[i].1 := by
  unfold sp
  have e1 : 2 * i / 2 = i := by omega
  have e3 : 2 * i % 2 = 0 := by omega
  rw [e1, e3, List.getElem?_eq_getElem h]; rfl
theorem sp_e1 {rs : List (Nat × Nat)} {i : Nat} (h : i < rs.length) : sp rs (2 * i + 1) = rs[i].2 := by
  unfold sp
  have e1 : (2 * i + 1) / 2 = i := by omega
  have e3 : (2 * i + 1) % 2 = 1 := by omega
  rw [e1, e3, List.getElem?_eq_getElem h]; rfl
theorem lnNm (xs : List Nat) (v : Nat) (h : v < xs.length) : getF (lN xs) (pN v) = some (pN (nmOf xs v)) := by
  rw [glN xs v h, nmOf_get h]
theorem enumT (ts : List (List Nat)) : iter1 .enum (.tup (ts.map tN)) = some (ts.zipIdx.map fun q => .tup [pN q.2, tN q.1]) := by
  show some (enumFrom' 0 (ts.map tN)) = _
  rw [enum_eq]
theorem lT0 (n : Nat) : PV.lst ((List.range n).map fun _ => PV.tup []) = lTN ((List.range n).map fun _ => []) := by
  simp [lTN, Function.comp_def, tN]
theorem zipT_mem {ts : List (List Nat)} {q : List Nat × Nat} (h : q ∈ ts.zipIdx) : ∃ hk : q.2 < ts.length, ts[q.2] = q.1 := by
  obtain ⟨a, b⟩ := q
  have := List.mem_zipIdx h
  simp at this
  exact ⟨this.1, this.2.symm⟩
theorem set1T {ts : List (List Nat)} {v : Nat} {t : List Nat} (hv : v < ts.length) : modAt (fun x d => change .set [(pN v, 0), (tN t, 0)] x d) [] (lTN ts) 1 = some ((.non, 0), lTN (ts.set v t), 1) := setTN hv (Nat.le_refl 1)
theorem idxD (k : Nat) (h : k < 1000000) : (if wide (k : Int) then some (some (k : Int)) else none) = some (some (k : Int)) := by
  rw [wideN k h]; rfl
end Mi
namespace Mi
open PySem
theorem updDE {k : Nat} {f : Nat → Nat} {a b : Nat} (hk : k < 1000000) : updD (dE k f) [(.inl (k : Int), pN a), (.inl ((k + 1 : Nat) : Int), pN b)] = some (dE (k + 2) (upd (upd f k a) (k + 1) b)) := by
  have h1 : (dE k f).all (fun p => !isL p.2) = true := by
    rw [List.all_eq_true]
    intro p hp
    obtain ⟨e, _, rfl⟩ := List.mem_map.mp hp
    rfl
  have h2 : decide ((dE k f).map (·.1)).Nodup = true := decide_eq_true (dE_nd k f)
  unfold updD
  rw [h1, h2, dE_len]
  rw [if_pos (by rw [line_eq]; simp [iN]; omega)]
  simp only [List.foldl_cons, List.foldl_nil]
  rw [dE_put, dE_put]
theorem nd0 : (([] : List Key).Nodup ∧ 0 ≤ 15) = True := by simp
theorem nd2' (k : Nat) : (([(.inl ((k : Nat) : Int) : Key), .inl ((k + 1 : Nat) : Int)]).Nodup ∧ 2 ≤ 15) = True := by
  simp only [nd2 k, true_and]
  exact eq_true (by decide)
theorem dE0 (f : Nat → Nat) : dE 0 f = [] := rfl
end Mi
namespace Mi
theorem range_split {n : Nat} {pre post : List Nat} {x : Nat} (h : List.range n = pre ++ x :: post) : x = pre.length ∧ x < n := by
  have h1 : (List.range n)[pre.length]? = some x := by rw [h]; simp
  have h2 : pre.length < n := by
    have := congrArg List.length h
    simp at this
    omega
  rw [List.getElem?_range h2] at h1
  injection h1 with h1
  omega
theorem zip_split {α : Type} {ts : List α} {pre post : List (α × Nat)} {x : α × Nat} (h : ts.zipIdx = pre ++ x :: post) : x.2 = pre.length ∧ x.2 < ts.length ∧ ts[x.2]? = some x.1 := by
  have h2 : pre.length < ts.length := by
    have := congrArg List.length h
    simp at this
    omega
  have h1 : ts.zipIdx[pre.length]? = some x := by rw [h]; simp
  rw [List.getElem?_zipIdx, List.getElem?_eq_getElem h2] at h1
  simp at h1
  subst h1
  exact ⟨rfl, h2, List.getElem?_eq_getElem h2⟩
end Mi
namespace Mi
theorem vO (ρ : Rho) (i : Nat) : valO ρ (.var i) = (slotF ρ i).map (·.1) := by rw [← slot_F]; rfl
theorem vV (ρ : Rho) (a : Arg) : valO ρ (.val a) = some a.1 := rfl
theorem wide0 : wide 0 = true := by decide
theorem slFrom0 (t : List Nat) : fslice (tN t) (some 0) none = some (tN t) := by
  have := slFrom t 0 (by omega)
  simpa using this
theorem slTo0 (t : List Nat) : fslice (tN t) none (some 0) = some (tN []) := by
  have := slTo t 0 (by omega)
  simpa using this
theorem tNmap (xs : List Nat) (f : Nat → Nat) : PV.tup (List.map (fun e => pN (f e)) xs) = tN (xs.map f) := by simp [tN, Function.comp_def]
theorem lNmap (xs : List Nat) (f : Nat → Nat) : PV.lst (List.map (fun e => pN (f e)) xs) = lN (xs.map f) := by simp [lN, Function.comp_def]
theorem rot_perm (t : List Nat) (k : Nat) : (t.drop k ++ t.take k).Perm t := by
  have := List.take_append_drop k t
  conv => rhs; rw [← this]
  exact List.perm_append_comm
end Mi
namespace Mi
theorem lwMN (o : Option Nat) (m : Nat) (r : Rho) : lower 0 m (Option.map (fun a => (pN a, 0)) o :: r) = Option.map (fun a => (pN a, 0)) o :: r := lwM o pN m r fun _ => rfl
theorem lwMI (o : Option Int) (m : Nat) (r : Rho) : lower 0 m (Option.map (fun a => (PV.int a, 0)) o :: r) = Option.map (fun a => (PV.int a, 0)) o :: r := lwM o PV.int m r fun _ => rfl
end Mi
namespace Mi
open PySem
theorem w2 (n : Nat) (h : n < 1000000) : iter2 .range2 (.int 1) (pN n) = some ((List.range' 1 (n - 1)).map pN) := by
  show (if wide 1 && wide (n : Int) then some (upto 1 ((n : Int) - 1).toNat) else none) = _
  rw [wideN n h, show wide 1 = true by decide]
  have e : ((n : Int) - 1).toNat = n - 1 := by omega
  have := upto_rng (n - 1) 1
  rw [e, if_pos (by rfl), ← this]; rfl
theorem range'_split {a n : Nat} {pre post : List Nat} {x : Nat} (h : List.range' a n = pre ++ x :: post) : x = a + pre.length ∧ x < a + n := by
  have h2 : pre.length < n := by
    have := congrArg List.length h
    simp at this
    omega
  have h1 : (List.range' a n)[pre.length]? = some x := by rw [h]; simp
  rw [List.getElem?_range' h2] at h1
  injection h1 with h1
  omega
end Mi
namespace Mi
theorem fLoop_nil {bind : PV → Rho → Option Rho} {body : Rho → SOut} {ρ : Rho} : fLoop bind body [] ρ = .nx ρ := rfl
end Mi
namespace Mi
open PySem
theorem max2E (a b : Int) : fn2F .max2 (.int a) (.int b) = some (.int (if a < b then b else a)) := rfl
theorem max2E' (a b : Int) : fn2 .max2 (.int a) (.int b) = some (.int (if a < b then b else a)) := rfl
theorem min2N (a : Nat) : fn2F .min2 (pN a) (.int 2) = some (pN (min a 2)) := by
  show some (PV.int (if (2 : Int) < (a : Int) then 2 else (a : Int))) = _
  unfold pN
  congr 2
  split <;> omega
theorem pow6 : fn2F .pow (.int 10) (.int 6) = some (.int 1000000) := by
  show (if (0 : Int) ≤ 6 ∧ (6 : Int) ≤ 1000 ∧ (10 : Int).natAbs < 2 ^ 64 then some (PV.int ((10 : Int) ^ (6 : Int).toNat)) else none) = _
  rw [if_pos (by decide)]
  rfl
theorem appF {k : Nat} {f : Nat → Int} {y : Int} {d : Nat} (hk : k < 1000000) (hd : 1 ≤ d) : modAt (change .append [(.int y, 0)]) [] (lF k f) d = some ((.non, 0), lF (k + 1) (upd f k y), d) := by
  unfold lF
  rw [appL (by simpa using hk) hd rfl]
  congr 4
  rw [List.range_succ, List.map_append]
  congr 1
  · refine List.map_congr_left fun e he => ?_
    have := List.mem_range.mp he
    unfold upd
    rw [if_neg (by omega)]
  · simp [upd]
theorem recF (k : Nat) (f : Nat → Int) : recvOk .append [] (lF k f) = true := rfl
theorem lF0 (f : Nat → Int) : PV.lst [] = lF 0 f := rfl
end Mi
namespace Mi
open PySem
theorem catLTN (xs ys : List (List Nat)) (h : xs.length + ys.length ≤ 16777216) : fa2 .cat (lTN xs) (lTN ys) = some (lTN (xs ++ ys)) := by
  show (fit (xs.map tN ++ ys.map tN)).map PV.lst = _
  rw [fit_ok (by simpa using h)]
  simp [lTN]
theorem drop1 (xs : List (List Nat)) : fslice (lTN xs) (some 1) none = some (lTN (xs.drop 1)) := by
  show some (PV.lst (cut (xs.map tN) (some 1) none)) = _
  unfold cut
  have e : sIx (xs.map tN).length 0 (some 1) = min 1 xs.length := by
    unfold sIx
    simp only
    rw [if_neg (by decide)]
    simp
  rw [e]
  show some (PV.lst ((List.drop (min 1 xs.length) (xs.map tN)).take ((xs.map tN).length - min 1 xs.length))) = _
  cases xs with
  | nil => rfl
  | cons x xs =>
    have e2 : min 1 (x :: xs).length = 1 := by simp
    rw [e2]
    rw [List.take_of_length_le (by simp)]
    simp [lTN]
/-- all sets, in the order in which they are built -/
def subsF (xs : List Nat) : List (List Nat) := xs.foldl (fun acc v => acc ++ acc.map fun s => s ++ [v]) [[]]
theorem subs_snoc (xs : List Nat) (v : Nat) : subsF (xs ++ [v]) = subsF xs ++ (subsF xs).map fun s => s ++ [v] := by
  unfold subsF
  rw [List.foldl_append]; rfl
theorem snoc_ind {α : Type} {P : List α → Prop} (h0 : P []) (h1 : ∀ xs x, P xs → P (xs ++ [x])) : ∀ xs, P xs := by
  intro xs
  have : ∀ ys : List α, P ys.reverse := by
    intro ys
    induction ys with
    | nil => exact h0
    | cons y ys ih => rw [List.reverse_cons]; exact h1 _ _ ih
  have := this xs.reverse
  rwa [List.reverse_reverse] at this
theorem subs_len (xs : List Nat) : (subsF xs).length = 2 ^ xs.length := by
  induction xs using snoc_ind with
  | h0 => rfl
  | h1 xs x ih => rw [subs_snoc]; simp [ih, Nat.pow_succ]; omega
theorem subs_mem (xs : List Nat) : ∀ s, s ∈ subsF xs ↔ s.Sublist xs := by
  induction xs using snoc_ind with
  | h0 => intro s; simp [subsF]
  | h1 xs x ih =>
    intro s
    rw [subs_snoc, List.mem_append, List.mem_map, List.sublist_append_iff]
    constructor
    · rintro (h | ⟨t, h, rfl⟩)
      · exact ⟨s, [], by simp, (ih s).mp h, by simp⟩
      · exact ⟨t, [x], rfl, (ih t).mp h, List.Sublist.refl _⟩
    · rintro ⟨a, b, rfl, h1, h2⟩
      cases b with
      | nil => left; simpa using (ih a).mpr h1
      | cons b bs =>
        right
        have h3 := h2.length_le
        simp at h3
        have h4 : bs = [] := h3
        subst h4
        have h5 := h2.subset (List.mem_singleton.mpr rfl)
        have h6 := List.mem_singleton.mp h5
        subst h6
        exact ⟨a, (ih a).mpr h1, rfl⟩
theorem subs_head (xs : List Nat) : ∃ r, subsF xs = [] :: r ∧ ∀ s ∈ r, s ≠ [] := by
  induction xs using snoc_ind with
  | h0 => exact ⟨[], rfl, fun s h => by cases h⟩
  | h1 xs x ih =>
    obtain ⟨r, e, h⟩ := ih
    refine ⟨r ++ (subsF xs).map fun s => s ++ [x], by rw [subs_snoc, e]; rfl, ?_⟩
    intro s hs
    rcases List.mem_append.mp hs with hs | hs
    · exact h s hs
    · obtain ⟨t, _, rfl⟩ := List.mem_map.mp hs
      simp
/-- the nonempty ones -/
theorem subs_drop {xs : List Nat} {s : List Nat} : s ∈ (subsF xs).drop 1 ↔ s.Sublist xs ∧ s ≠ [] := by
  obtain ⟨r, e, h⟩ := subs_head xs
  rw [e]
  show s ∈ r ↔ _
  constructor
  · intro hs
    exact ⟨(subs_mem xs s).mp (by rw [e]; exact List.mem_cons_of_mem _ hs), h s hs⟩
  · rintro ⟨h1, h2⟩
    have := (subs_mem xs s).mpr h1
    rw [e] at this
    rcases List.mem_cons.mp this with h3 | h3
    · exact absurd h3 h2
    · exact h3
/-- the crossings but home -/
def others (n h : Nat) : List Nat := (List.range n).filter fun v => decide (v ≠ h)
theorem others_mem {n h v : Nat} : v ∈ others n h ↔ v < n ∧ v ≠ h := by
  unfold others
  simp
theorem others_nd (n h : Nat) : (others n h).Nodup := List.nodup_range.filter _
theorem others_len {n h : Nat} (hh : h < n) : (others n h).length < n := by
  have := nodup_len (n := n) (xs := h :: others n h) (List.nodup_cons.mpr ⟨fun h' => (others_mem.mp h').2 rfl, others_nd n h⟩) (fun v hv => by
    rcases List.mem_cons.mp hv with rfl | hv
    · exact hh
    · exact (others_mem.mp hv).1)
  simp at this
  omega
def fires (w : Web) (p : Nat → Int) (T : List Nat) (v : Nat) : Bool := decide (p v < dg w v - (T.map (jn w.roads v)).sum)
/-- no set without home could fire -/
def LeastLaw (w : Web) (h : Nat) (p : Nat → Int) : Prop := ∀ T : List Nat, T.Sublist (others w.n h) → T ≠ [] → ∃ v, v ∈ T ∧ p v < dg w v - (T.map (jn w.roads v)).sum
end Mi
end
section
set_option linter.all false
/-! M2: burning, least piles, firing once each (plain). -/
namespace Mi
/-- a list's sum as a sum over all numbers below n -/
theorem sum_ind {n : Nat} {xs : List Nat} (hd : xs.Nodup) (hx : ∀ v ∈ xs, v < n) (f : Nat → Int) : (xs.map f).sum = S n fun u => if u ∈ xs then f u else 0 := by
  induction xs with
  | nil => simp [S_const0]
  | cons x xs ih =>
    obtain ⟨h1, h2⟩ := List.nodup_cons.mp hd
    have hxn := hx x List.mem_cons_self
    rw [List.map_cons, List.sum_cons, ih h2 fun v hv => hx v (List.mem_cons_of_mem _ hv)]
    have e : (fun u => if u ∈ x :: xs then f u else 0) = upd (fun u => if u ∈ xs then f u else 0) x (f x) := by
      funext u
      unfold upd
      by_cases c : u = x
      · subst c; simp
      · simp [c]
    rw [e, S_upd _ _ hxn, if_neg h1]
    omega
theorem ind_split (n : Nat) (P : Nat → Prop) [DecidablePred P] (f : Nat → Int) : S n (fun u => if P u then f u else 0) + S n (fun u => if P u then 0 else f u) = S n f := by
  rw [← S_add]
  exact S_congr fun v _ => by split <;> omega
/-- sets: a decidable one below n without h, as a list -/
theorem set_list (n h : Nat) (P : Nat → Prop) [DecidablePred P] : ((others n h).filter fun v => decide (P v)).Sublist (others n h) := List.filter_sublist
theorem set_mem {n h : Nat} {P : Nat → Prop} [DecidablePred P] {v : Nat} : v ∈ ((others n h).filter fun v => decide (P v)) ↔ (v < n ∧ v ≠ h) ∧ P v := by
  rw [List.mem_filter, others_mem]; simp
/-- growing all, or a set that cannot fire together -/
theorem grown_all {w : Web} {h : Nat} (hh : h < w.n) {p : Nat → Int} {c : List Nat → Nat → Bool} (hc : ∀ xs v, v < w.n → v ≠ h → (c xs v = true ↔ p v < (xs.map (jn w.roads v)).sum))
    {found : List Nat} (g : Grown w.n h c found) (s : Shut w.n c found) : found.length = w.n ↔ LeastLaw w h p := by
  have hnd := g.nodup
  have hlt := g.lt hh
  constructor
  · intro hl T hT hT0
    have hTm : ∀ v ∈ T, v < w.n ∧ v ≠ h := fun v hv => others_mem.mp (hT.subset hv)
    have hTd : T.Nodup := (others_nd w.n h).sublist hT
    have hall := all_of_len hnd hlt hl
    -- the first of T that is found
    have key : ∀ {xs : List Nat}, Grown w.n h c xs → (∃ v, v ∈ T ∧ v ∈ xs) → ∃ v, v ∈ T ∧ p v < dg w v - (T.map (jn w.roads v)).sum := by
      intro xs gx
      induction gx with
      | start =>
        rintro ⟨v, h1, h2⟩
        exact absurd (List.mem_singleton.mp h2) (hTm v h1).2
      | @more xs ys gx hy hcy ih =>
        rintro ⟨v, h1, h2⟩
        by_cases hx : ∃ v, v ∈ T ∧ v ∈ xs
        · exact ih hx
        · rcases List.mem_append.mp h2 with h2 | h2
          · exact absurd ⟨v, h1, h2⟩ hx
          · obtain ⟨a1, a2, a3⟩ := hcy v h2
            refine ⟨v, h1, ?_⟩
            have h3 := (hc xs v a1 (hTm v h1).2).mp a3
            rw [sum_ind gx.nodup (gx.lt hh)] at h3
            rw [sum_ind hTd fun u hu => (hTm u hu).1]
            have h4 := ind_split w.n (fun u => u ∈ T) (jn w.roads v)
            have h5 : S w.n (fun u => if u ∈ xs then jn w.roads v u else 0) ≤ S w.n (fun u => if u ∈ T then 0 else jn w.roads v u) := S_le fun u hu => by
              have := jn_nonneg w.roads v u
              by_cases b1 : u ∈ xs
              · have b2 : u ∉ T := fun b => hx ⟨u, b, b1⟩
                rw [if_pos b1, if_neg b2]
                exact Int.le_refl _
              · rw [if_neg b1]
                split <;> omega
            unfold dg
            omega
    obtain ⟨v, hv⟩ := List.exists_mem_of_ne_nil T hT0
    exact key g ⟨v, hv, hall v (hTm v hv).1⟩
  · intro hL
    refine len_of_all hnd hlt fun v hv => Classical.byContradiction fun hvf => ?_
    have hvh : v ≠ h := fun e => hvf (e ▸ g.home)
    have hmem : v ∈ ((others w.n h).filter fun v => decide (v ∉ found)) := set_mem.mpr ⟨⟨hv, hvh⟩, hvf⟩
    obtain ⟨u, hu1, hu2⟩ := hL _ (set_list w.n h fun v => v ∉ found) (fun e => by rw [e] at hmem; cases hmem)
    obtain ⟨⟨a1, a2⟩, a3⟩ := set_mem.mp hu1
    have a4 := s u a1 a3
    have a5 : ¬ p u < (found.map (jn w.roads u)).sum := fun a => by
      rw [(hc found u a1 a2).mpr a] at a4
      cases a4
    rw [sum_ind hnd hlt] at a5
    rw [sum_ind ((others_nd w.n h).sublist (set_list w.n h fun v => v ∉ found)) (fun x hx => (set_mem.mp hx).1.1)] at hu2
    have h4 := ind_split w.n (fun u => u ∈ found) (jn w.roads u)
    have h5 : S w.n (fun x => if x ∈ ((others w.n h).filter fun v => decide (v ∉ found)) then jn w.roads u x else 0) = S w.n (fun x => if x ∈ found then 0 else jn w.roads u x) := S_congr fun x hx => by
      by_cases b : x ∈ found
      · rw [if_pos b, if_neg fun hm => (set_mem (P := fun v => v ∉ found)).mp hm |>.2 b]
      · rw [if_neg b, if_pos (set_mem.mpr ⟨⟨hx, fun e => b (e ▸ g.home)⟩, b⟩)]
    unfold dg at hu2
    omega
def lackP (w : Web) (h : Nat) (p : Nat → Int) (v : Nat) : Int := if v = h then 0 else dg w v - 1 - p v
def moreP (w : Web) (h : Nat) (p : Nat → Int) (v : Nat) : Int := if v = h then 0 else p v + jn w.roads h v
def onesP (h : Nat) (v : Nat) : Int := if v = h then 0 else 1
theorem bcond_lack {w : Web} {h : Nat} {p : Nat → Int} (xs : List Nat) (v : Nat) (hv : v < w.n) (hvh : v ≠ h) : (bcond w p xs v = true ↔ lackP w h p v < (xs.map (jn w.roads v)).sum) := by
  unfold bcond lackP
  rw [if_neg hvh, decide_eq_true_eq]
  omega
theorem lcond_self {w : Web} {h : Nat} {p : Nat → Int} (xs : List Nat) (v : Nat) (hv : v < w.n) (hvh : v ≠ h) : (lcond w p xs v = true ↔ p v < (xs.map (jn w.roads v)).sum) := by
  unfold lcond
  rw [decide_eq_true_eq]
/-- all fire once but those of a set: what is left -/
theorem left_set {w : Web} {h : Nat} (hh : h < w.n) (p : Nat → Int) (P : Nat → Prop) [DecidablePred P] (g : Nat → Int) (hg : ∀ v, v < w.n → g v = if v = h then 0 else if P v then 0 else 1) {v : Nat} (hv : v < w.n) (hvh : v ≠ h) :
    left w (moreP w h p) g v = p v - (if P v then 0 else dg w v) + dg w v - S w.n (fun u => if u ≠ h ∧ P u then jn w.roads v u else 0) := by
  unfold left moreP
  rw [if_neg hvh, hg v hv, if_neg hvh]
  have e1 : S w.n (fun u => g u * jn w.roads u v) + jn w.roads h v = S w.n (fun u => if u ≠ h ∧ P u then 0 else jn w.roads v u) := by
    have e2 : S w.n (fun u => g u * jn w.roads u v) + jn w.roads h v = S w.n (upd (fun u => g u * jn w.roads u v) h (jn w.roads h v)) := by
      rw [S_upd _ _ hh, hg h hh, if_pos rfl]
      omega
    rw [e2]
    refine S_congr fun u hu => ?_
    unfold upd
    by_cases c : u = h
    · subst c
      simp
      exact jn_sym _ _ _
    · dsimp only
      rw [if_neg c, hg u hu, if_neg c, jn_sym w.roads u v]
      by_cases c2 : P u
      · simp [c, c2]
      · simp [c, c2]
  have e3 := ind_split w.n (fun u => u ≠ h ∧ P u) (jn w.roads v)
  unfold dg
  split
  · omega
  · omega
theorem ones_tame {w : Web} {h : Nat} (hh : h < w.n) {p : Nat → Int} (hs : ∀ v, v < w.n → v ≠ h → p v < dg w v) : Tame w h (moreP w h p) (onesP h) := by
  refine ⟨fun v _ => by unfold onesP; split <;> decide, by simp [onesP], fun v hv hvh => ?_⟩
  rw [left_set hh p (fun _ => False) (onesP h) (fun v _ => by simp [onesP]) hv hvh]
  have := hs v hv hvh
  simp [S_const0]
  omega
theorem ones_left {w : Web} {h : Nat} (hh : h < w.n) {p : Nat → Int} {v : Nat} (hv : v < w.n) (hvh : v ≠ h) : left w (moreP w h p) (onesP h) v = p v := by
  rw [left_set hh p (fun _ => False) (onesP h) (fun v _ => by simp [onesP]) hv hvh]
  simp [S_const0]
/-- each crossing fires once just if all burn -/
theorem fires_once {w : Web} {h : Nat} (hh : h < w.n) {p : Nat → Int} (hs : ∀ v, v < w.n → v ≠ h → p v < dg w v) {f : Nat → Int} (ht : Tame w h (moreP w h p) f) (hf : ∀ g', Tame w h (moreP w h p) g' → ∀ v, v < w.n → f v ≤ g' v) :
    (∀ v, v < w.n → f v = onesP h v) ↔ LeastLaw w h (lackP w h p) := by
  have hle := hf _ (ones_tame hh hs)
  constructor
  · intro ho T hT hT0
    have hTm : ∀ v ∈ T, v < w.n ∧ v ≠ h := fun v hv => others_mem.mp (hT.subset hv)
    have hTd : T.Nodup := (others_nd w.n h).sublist hT
    refine Classical.byContradiction fun hc => ?_
    have hcc : ∀ v ∈ T, ¬ lackP w h p v < dg w v - (T.map (jn w.roads v)).sum := fun v hv hl => hc ⟨v, hv, hl⟩
    have hsum : ∀ v, (T.map (jn w.roads v)).sum = S w.n fun u => if u ≠ h ∧ u ∈ T then jn w.roads v u else 0 := fun v => by
      rw [sum_ind hTd fun u hu => (hTm u hu).1]
      refine S_congr fun u _ => ?_
      by_cases c : u ∈ T
      · rw [if_pos c, if_pos ⟨(hTm u c).2, c⟩]
      · rw [if_neg c, if_neg fun h => c h.2]
    have hg : Tame w h (moreP w h p) (fun v => if v = h then 0 else if v ∈ T then 0 else 1) := by
      refine ⟨fun v _ => (by
        split
        · exact Int.le_refl _
        · split <;> decide), by simp, fun v hv hvh => ?_⟩
      rw [left_set hh p (fun v => v ∈ T) _ (fun v _ => rfl) hv hvh]
      have h1 := hs v hv hvh
      by_cases c : v ∈ T
      · rw [if_pos c]
        have := hcc v c
        rw [hsum v] at this
        unfold lackP at this
        rw [if_neg hvh] at this
        omega
      · rw [if_neg c]
        have : 0 ≤ S w.n fun u => if u ≠ h ∧ u ∈ T then jn w.roads v u else 0 := S_nonneg fun u _ => by
          split
          · exact jn_nonneg _ _ _
          · exact Int.le_refl _
        omega
    obtain ⟨v, hv⟩ := List.exists_mem_of_ne_nil T hT0
    have h1 := hf _ hg v (hTm v hv).1
    rw [ho v (hTm v hv).1] at h1
    unfold onesP at h1
    simp [(hTm v hv).2, hv] at h1
  · intro hL v hv
    have h1 := ht.nn v hv
    have h2 := hle v hv
    refine Classical.byContradiction fun hne => ?_
    have hvh : v ≠ h := fun e => by
      subst e
      rw [ht.home] at hne
      simp [onesP] at hne
    have hz : ∀ u, u < w.n → f u = if u = h then 0 else if f u = 0 then 0 else 1 := fun u hu => by
      by_cases c : u = h
      · rw [if_pos c, c]; exact ht.home
      · rw [if_neg c]
        have a1 := ht.nn u hu
        have a2 := hle u hu
        unfold onesP at a2
        rw [if_neg c] at a2
        split <;> omega
    have hmem : v ∈ ((others w.n h).filter fun v => decide (f v = 0)) := set_mem.mpr ⟨⟨hv, hvh⟩, by
      unfold onesP at h2 hne
      rw [if_neg hvh] at h2 hne
      omega⟩
    obtain ⟨u, hu1, hu2⟩ := hL _ (set_list w.n h fun v => f v = 0) (fun e => by rw [e] at hmem; cases hmem)
    obtain ⟨⟨a1, a2⟩, a3⟩ := set_mem.mp hu1
    have a4 := ht.low u a1 a2
    rw [left_set hh p (fun u => f u = 0) f hz a1 a2, if_pos a3] at a4
    rw [sum_ind ((others_nd w.n h).sublist (set_list w.n h fun v => f v = 0)) (fun x hx => (set_mem.mp hx).1.1)] at hu2
    have h5 : S w.n (fun x => if x ∈ ((others w.n h).filter fun v => decide (f v = 0)) then jn w.roads u x else 0) = S w.n (fun x => if x ≠ h ∧ f x = 0 then jn w.roads u x else 0) := S_congr fun x hx => by
      by_cases b : x ≠ h ∧ f x = 0
      · rw [if_pos b, if_pos (set_mem.mpr ⟨⟨hx, b.1⟩, b.2⟩)]
      · rw [if_neg b, if_neg fun hm => b ⟨(set_mem.mp hm).1.2, (set_mem.mp hm).2⟩]
    unfold lackP at hu2
    rw [if_neg a2] at hu2
    omega
/-- each crossing but a lone one has a road elsewhere -/
theorem WebGood.dg_pos {w : Web} (hw : WebGood w) {v h : Nat} (hv : v < w.n) (hh : h < w.n) (hvh : v ≠ h) : 1 ≤ dg w v := by
  refine Classical.byContradiction fun hc => ?_
  have h0 := dg_nonneg w v
  have hz : ∀ u, u < w.n → jn w.roads v u = 0 := fun u hu => by
    have h1 := jn_nonneg w.roads v u
    have h2 : jn w.roads v u ≤ dg w v := S_le_one (f := jn w.roads v) (fun u _ => jn_nonneg _ _ _) hu
    omega
  have := hw.conn (fun u => u = v) ⟨v, hv, rfl⟩ (fun p hp => by
    obtain ⟨b1, b2⟩ := hw.ends p hp
    constructor
    · intro e
      refine Classical.byContradiction fun hne => ?_
      have : 1 ≤ jn w.roads v p.2 := jn_pos.mpr ⟨fun e2 => hne e2.symm, .inl (by rw [← e]; exact hp)⟩
      rw [hz _ b2] at this
      omega
    · intro e
      refine Classical.byContradiction fun hne => ?_
      have : 1 ≤ jn w.roads v p.1 := jn_pos.mpr ⟨fun e2 => hne e2.symm, .inr (by rw [← e]; exact hp)⟩
      rw [hz _ b1] at this
      omega) h hh
  exact hvh this.symm
end Mi
end
section
set_option linter.all false
set_option maxRecDepth 100000
/-! P9: texts of values (repr), how long. -/
namespace Mi
open PySem
theorem ok_lit (s : String) : PyData.strOk (Str.ofString s) = true := by
  unfold PyData.strOk
  rw [Str.ofString_eq_toList]
  rw [List.all_toArray, List.all_eq_true]
  intro c hc
  obtain ⟨x, _, rfl⟩ := List.mem_map.mp hc
  have := x.valid
  unfold UInt32.isValidChar Nat.isValidChar at this
  simp only [decide_eq_true_eq]
  show x.val.toNat < _
  omega
theorem ok_app {a b : Str} (ha : PyData.strOk a = true) (hb : PyData.strOk b = true) : PyData.strOk (a ++ b) = true := by
  unfold PyData.strOk at *
  show ((a.cps ++ b.cps).all _) = true
  rw [Array.all_append, ha, hb]; rfl
theorem ok_join {sep : Str} (hs : PyData.strOk sep = true) : ∀ {ts : List Str}, (∀ t ∈ ts, PyData.strOk t = true) → PyData.strOk (Str.join sep ts) = true
  | [], _ => by show PyData.strOk Str.empty = true; simp [PyData.strOk, Str.empty]
  | [x], h => h x (by simp)
  | x :: y :: r, h => by
    show PyData.strOk (x ++ sep ++ Str.join sep (y :: r)) = true
    exact ok_app (ok_app (h x (by simp)) hs) (ok_join hs fun t ht => h t (List.mem_cons_of_mem _ ht))
theorem ok_textFrom : ∀ {ts : List Str} {k : Nat} {acc : Str}, PyData.strOk acc = true → (∀ t ∈ ts, PyData.strOk t = true) → PyData.strOk (textFrom k acc ts) = true
  | [], _, _, h, _ => h
  | t :: r, k, acc, h, ht => by
    show PyData.strOk (textFrom (k + 1) (acc ++ (if k > 0 then ", " else "" : String) ++ t) r) = true
    exact ok_textFrom (ok_app (ok_app h (ok_lit _)) (ht t (by simp))) fun u hu => ht u (List.mem_cons_of_mem _ hu)
/-- a value that can be told in at most B signs, at most D deep -/
def Told (x : PV) (B D : Nat) : Prop := ∃ d, toD x = some d ∧ d.showable = true ∧ d.depth ≤ D ∧ d.shown.length ≤ B ∧ PyData.strOk d.shown = true
theorem Told.more {x : PV} {B D B' D' : Nat} (h : Told x B D) (hB : B ≤ B') (hD : D ≤ D') : Told x B' D' := by
  obtain ⟨d, a, b, c, e, o⟩ := h
  exact ⟨d, a, b, by omega, by omega, o⟩
theorem told_int {i : Int} (h : i.natAbs < 10 ^ 30) (D : Nat) : Told (.int i) 31 D := by
  have e : (PyData.int i).shown = Str.ofString (toString i) := by simp [PyData.shown]
  refine ⟨.int i, rfl, ?_, by simp [PyData.depth], ?_, by rw [e]; exact ok_lit _⟩
  · simp only [PyData.showable, decide_eq_true_eq]
    by_cases h0 : i.natAbs = 0
    · rw [h0]; decide
    · rw [Nat.log2_lt h0]
      exact Nat.lt_trans h (by decide)
  · rw [e, ofString_length]
    exact int_text_length_le10 (k := 30) (by decide) h
theorem told_bool (b : Bool) (D : Nat) : Told (.bl b) 5 D := by
  have e : (PyData.bool b).shown = Str.ofString (if b then "True" else "False") := by cases b <;> simp [PyData.shown]
  refine ⟨.bool b, rfl, by simp [PyData.showable], by simp [PyData.depth], ?_, by rw [e]; exact ok_lit _⟩
  rw [e]
  cases b <;> decide
theorem told_none (D : Nat) : Told .non 4 D := by
  have e : (PyData.none).shown = Str.ofString "None" := by simp [PyData.shown]
  refine ⟨.none, rfl, by simp [PyData.showable], by simp [PyData.depth], ?_, by rw [e]; exact ok_lit _⟩
  rw [e]
  decide
theorem told_all {xs : List PV} {B D : Nat} (h : ∀ x ∈ xs, Told x B D) : ∃ ds, toDs xs = some ds ∧ PyData.showableAll ds = true ∧ PyData.depthAll ds ≤ D ∧ piled (PyData.shownAll ds) ≤ (B + 2) * xs.length ∧ (∀ t ∈ PyData.shownAll ds, PyData.strOk t = true) := by
  induction xs with
  | nil => exact ⟨[], rfl, by simp [PyData.showableAll], by simp [PyData.depthAll], by simp [PyData.shownAll, piled], by simp [PyData.shownAll]⟩
  | cons x xs ih =>
    obtain ⟨d, a1, a2, a3, a4, a5⟩ := h x List.mem_cons_self
    obtain ⟨ds, b1, b2, b3, b4, b5⟩ := ih fun y hy => h y (List.mem_cons_of_mem _ hy)
    refine ⟨d :: ds, ?_, ?_, ?_, ?_, ?_⟩
    · unfold toDs; rw [a1, b1]
    · simp [PyData.showableAll, a2, b2]
    · simp only [PyData.depthAll]; omega
    · simp only [PyData.shownAll, piled_cons, List.length_cons, Nat.mul_add]
      omega
    · intro t ht
      simp only [PyData.shownAll] at ht
      rcases List.mem_cons.mp ht with rfl | ht
      · exact a5
      · exact b5 t ht
theorem tupleText_le (ts : List Str) : (tupleText ts).length ≤ 3 + piled ts := by
  unfold tupleText
  rw [strLen_append, strLen_append]
  have e1 : ((("(" : String) : Str)).length = 1 := rfl
  have e3 : (((if ts.length == 1 then ",)" else ")" : String) : Str)).length ≤ 2 := by split <;> decide
  cases ts with
  | nil =>
    have : (Str.join ", " []).length = 0 := rfl
    omega
  | cons t r =>
    have := join_length_add (t :: r) (by simp)
    omega
theorem textFrom_le : ∀ (ts : List Str) (k : Nat) (acc : Str), (textFrom k acc ts).length ≤ acc.length + piled ts
  | [], k, acc => by show acc.length ≤ _; omega
  | t :: r, k, acc => by
    have ih := textFrom_le r (k + 1) (acc ++ (if k > 0 then ", " else "" : String) ++ t)
    have e : (acc ++ (if k > 0 then ", " else "" : String) ++ t).length ≤ acc.length + 2 + t.length := by
      rw [strLen_append, strLen_append]
      have : ((if k > 0 then ", " else "" : String) : Str).length ≤ 2 := by split <;> decide
      omega
    show (textFrom (k + 1) (acc ++ (if k > 0 then ", " else "" : String) ++ t) r).length ≤ _
    rw [piled_cons]
    omega
theorem listText_le (ts : List Str) : (listText ts).length ≤ 2 + piled ts := by
  unfold listText
  rw [strLen_append]
  have := textFrom_le ts 0 "["
  have e1 : ((("[" : String) : Str)).length = 1 := rfl
  have e2 : ((("]" : String) : Str)).length = 1 := rfl
  omega
theorem told_tup {xs : List PV} {B D k : Nat} (h : ∀ x ∈ xs, Told x B D) (hk : xs.length ≤ k) : Told (.tup xs) (3 + (B + 2) * k) (D + 1) := by
  obtain ⟨ds, a1, a2, a3, a4, a5⟩ := told_all h
  refine ⟨.tuple ds, ?_, ?_, ?_, ?_, by simp only [PyData.shown]; exact ok_app (ok_app (ok_lit _) (ok_join (ok_lit _) a5)) (ok_lit _)⟩
  · unfold toD; rw [a1]; rfl
  · simp only [PyData.showable, a2]
  · simp only [PyData.depth]; omega
  · simp only [PyData.shown]
    have := tupleText_le (PyData.shownAll ds)
    have : (B + 2) * xs.length ≤ (B + 2) * k := Nat.mul_le_mul_left _ hk
    omega
theorem told_lst {xs : List PV} {B D k : Nat} (h : ∀ x ∈ xs, Told x B D) (hk : xs.length ≤ k) : Told (.lst xs) (3 + (B + 2) * k) (D + 1) := by
  obtain ⟨ds, a1, a2, a3, a4, a5⟩ := told_all h
  refine ⟨.list ds, ?_, ?_, ?_, ?_, by simp only [PyData.shown]; exact ok_app (ok_textFrom (ok_lit _) a5) (ok_lit _)⟩
  · unfold toD; rw [a1]; rfl
  · simp only [PyData.showable, a2]
  · simp only [PyData.depth]; omega
  · simp only [PyData.shown]
    have := listText_le (PyData.shownAll ds)
    have : (B + 2) * xs.length ≤ (B + 2) * k := Nat.mul_le_mul_left _ hk
    omega
/-- such a value's text -/
theorem told_repr {x : PV} {B D : Nat} (h : Told x B D) (hB : B ≤ 16777216) (hD : D ≤ 64) : ∃ s, prepr x = some (.str s) ∧ peqF (.str s) (.str s) = some true := by
  obtain ⟨d, a, b, c, e, o⟩ := h
  refine ⟨d.shown, ?_, ?_⟩
  · unfold prepr
    split
    · next => cases a
    · rw [a]
      simp only
      rw [if_pos]
      simp only [Bool.and_eq_true, decide_eq_true_eq]
      exact ⟨⟨b, by omega⟩, by rw [line_eq]; omega⟩
  · show peq (.str d.shown) (.str d.shown) = _
    simp [peq, toD, okD, PyData.canLay0, PyData.depth, PyData.eqv, o]
theorem told_web {w : Web} (hw : WebGood w) (hn : w.n ≤ 100) (hm : w.roads.length ≤ 400) : ∃ s, prepr w.pv = some (.str s) ∧ peqF (.str s) (.str s) = some true := by
  have hN : ∀ k : Nat, k < 10000 → Told (pN k) 31 0 := fun k hk => told_int (by
    have : (k : Int).natAbs = k := Int.natAbs_natCast k
    rw [this]
    exact Nat.lt_trans hk (by decide)) 0
  have h1 : Told (.tup (w.roads.map road)) (3 + ((3 + (31 + 2) * 2) + 2) * 400) 2 := told_tup (fun x hx => by
    obtain ⟨p, hp, rfl⟩ := List.mem_map.mp hx
    have := hw.ends p hp
    exact told_tup (fun y hy => by
      rcases List.mem_cons.mp hy with rfl | hy
      · exact hN p.1 (by omega)
      · rw [List.mem_singleton.mp hy]; exact hN p.2 (by omega)) (Nat.le_refl 2)) (by simpa using hm)
  have h2 : Told (.tup (w.turns.map tN)) (3 + ((3 + (31 + 2) * 800) + 2) * 100) 2 := told_tup (fun x hx => by
    obtain ⟨t, ht, rfl⟩ := List.mem_map.mp hx
    have a1 := hw.ends_ok t ht
    have a2 := hw.len_ok t ht
    have h4 : Told (tN t) (3 + (31 + 2) * 800) 1 := told_tup (fun y hy => by
      obtain ⟨e, he, rfl⟩ := List.mem_map.mp hy
      have := a1 e he
      exact hN e (by omega)) (by simp; omega)
    exact h4) (by simp; rw [hw.len]; omega)
  have h3 : Told w.pv (3 + ((3 + ((3 + (31 + 2) * 800) + 2) * 100) + 2) * 3) 3 := told_tup (fun x hx => by
    rcases List.mem_cons.mp hx with rfl | hx
    · exact (hN w.n (by omega)).more (by omega) (by omega)
    · rcases List.mem_cons.mp hx with rfl | hx
      · exact h1.more (by omega) (by omega)
      · rw [List.mem_singleton.mp hx]; exact h2.more (by omega) (by omega)) (Nat.le_refl 3)
  exact told_repr h3 (by omega) (by omega)
theorem peqtF (n : Nat) (f g : Nat → Int) : ∃ b : Bool, peqF (tF n f) (tF n g) = some b ∧ (b = true ↔ ∀ v, v < n → f v = g v) := by
  refine ⟨eqL ((List.range n).map f) ((List.range n).map g), ?_, ?_⟩
  · show (match intsOf ((List.range n).map fun v => .int (f v)), intsOf ((List.range n).map fun v => .int (g v)) with
      | some a, some b => some (eqL a b)
      | _, _ => peq (tF n f) (tF n g)) = _
    rw [ints_map, ints_map]
  · have : ∀ xs : List Nat, eqL (xs.map f) (xs.map g) = true ↔ ∀ v, v ∈ xs → f v = g v := by
      intro xs
      induction xs with
      | nil => simp [eqL]
      | cons x xs ih =>
        simp only [List.map_cons, eqL]
        by_cases c : f x = g x
        · simp [c, ih]
        · simp [c]
    rw [this]
    simp
end Mi
namespace Mi
open PySem
def tB (b : Bool) : Str := if b then "True" else "False"
theorem reprB (b : Bool) : fn1 .repr (.bl b) = some (.str (tB b)) := by
  show prepr (.bl b) = _
  cases b <;> unfold prepr <;> simp [toD, PyData.showable, PyData.depth, PyData.shown, tB] <;> decide
theorem peqB (b : Bool) : peqF (.str (tB b)) (.str (tB b)) = some true := by
  have : PyData.strOk (tB b) = true := by cases b <;> exact ok_lit _
  show peq (.str (tB b)) (.str (tB b)) = _
  simp [peq, toD, okD, PyData.canLay0, PyData.depth, PyData.eqv, this]
theorem repr2 (b : Bool) : ∃ s, fn1 .repr (.lst [.bl b, .bl b]) = some (.str s) ∧ peqF (.str s) (.str s) = some true := by
  have h : Told (.lst [.bl b, .bl b]) (3 + (5 + 2) * 2) 1 := told_lst (fun x hx => by
    have : x = .bl b := by simpa using hx
    rw [this]
    exact told_bool b 0) (by simp)
  exact told_repr h (by omega) (by omega)
theorem dec_bool {p : Prop} [Decidable p] {q : Prop} {b : Bool} (h1 : p ↔ q) (h2 : b = true ↔ q) : decide p = b := by
  rw [Bool.eq_iff_iff, decide_eq_true_eq, h1, h2]
theorem oneN (r : Nat) : PV.int (1 + (r : Int)) = pN (1 + r) := by
  unfold pN; congr 1
theorem repr1 (x : PV) : fn1 .repr x = prepr x := rfl
theorem intB (b : Bool) : fn1 .int (.bl b) = some (.int (if b then 1 else 0)) := rfl
theorem peqBB (a b : Bool) : peqF (.bl a) (.bl b) = some (a == b) := by
  show peq (.bl a) (.bl b) = _
  cases a <;> cases b <;> (simp [peq, toD, okD, PyData.canLay0, PyData.depth, PyData.eqv] <;> decide)
end Mi
end
open Mi
local macro_rules
  | `(tactic| push_cast [$ls,*]) => `(tactic| simp (config := {implicitDefEqProofs := false}) only [sl0, slS, st0, stS, lw0, lwN, lwS, hdT, hdF, nI0, nI1, nI2, ho0, ho1, ho2, bt0, bt1, bt2, runOk, ab0, ab1, ab2, wp0, wp1, uw0, uw1, aN, aR, aB, aC, endR, endN, asF, asTT, nE, ba0, ba1, bp0, bp1, trB, isB, elT, elL, iT, iL, iI, iB, iO, iS, iW, iN, iR, itN, ilN, itF, ilF, itb, iSr, g0, g1, g2, gL0, gL1, web0, web1, web2, rd0, rd1, rdE, wT, wL, wlN, wtN, wtb, wtF, wetF, welF, lenT, lenL, lenN, lenTN, lentF, lenlF, toTlF, toTlN, toTL, toLtF, toLT, toLlN, toLtN, sumlF, sumtF, f2g, z_asT, z_ok, z_okr, z_some, z_stop, z_st, z_as, z_str, z_asr, z_opk, z_ops, z_opb, z_v0, z_v1, z_v2, z_o0, z_o1, z_o2, z_m0, z_m1, z_bl, z_bls, z_blb, z_f1, z_f2, z_a1, z_a2, z_i1, z_i2, z_p0, Option.bind_some, Option.map_some, Option.bind_none, Option.map_none, List.length_cons, List.length_nil, Nat.zero_add, Nat.reduceAdd, Nat.reduceLT, Nat.reduceSub, Nat.reduceBNe, Bool.and_true, Bool.true_and, Bool.and_false, Bool.false_and, and_self, if_true, if_false, ite_true, ite_false, reduceIte, Bool.false_eq_true, List.map_cons, List.map_nil, List.replicate, List.cons_append, List.nil_append, List.getElem?_cons_succ, List.getElem?_cons_zero, fr0, fr, mn0, gD0, gD1, min21, min11, min20, min10, min22, min12, Nat.min_self, fStep, lcStep, slot_F, peqN, peqI, gII, gNI, gIN, gNN, mm, goN, goC, goR, f2e, f2n, f2add, f2sub, f2lt, f2le, f2gt, f2ge, f2in, peqLN, peqL0, inN, Nat.min_zero, Nat.zero_min, ilLN, ilTN, rec_pop1, rec_app, peqNI, peqIN, mul2N, succN, lLND, lTND, recApp, wlLN, wlTN, toTlTN, $ls,*])
section
set_option linter.all false
open Mi PySem
namespace K77
abbrev v (i : Nat) : SE := .var i
abbrev V (i : Nat) : ME := .var i
/-- joins(web); slots: 0=web 1=table 2=v 3=one 4=other -/
def d_joins : Def := ⟨1, 5, [
  .asg (.name 1) (.lc [2] (.name 2) .range1 [(.elem 0 (SE.int 0))] [] (.apA .rep [(.lst [(.s (SE.int 0))]), (.elem 0 (SE.int 0))])),
  .for_ (.tup [(.name 3), (.name 4)]) .seq [(.elem 0 (SE.int 1))] [.ifs (.s (SE.ap2 .ne (v 3) (v 4))) [.asg (.st 1 [(v 3), (v 4)]) (.s (SE.ap2 .add (SE.ap2 .get (SE.ap2 .get (v 1) (v 3)) (v 4)) (SE.int 1))), .asg (.st 1 [(v 4), (v 3)]) (.s (SE.ap2 .add (SE.ap2 .get (SE.ap2 .get (v 1) (v 4)) (v 3)) (SE.int 1)))] []],
  .retv 1]⟩
def b_joins : List Bool := [true]
/-- outs(web); slots: 0=web 1=row -/
def d_outs : Def := ⟨1, 2, [
  .ret (.apA .toT [(.lc [1] (.name 1) .seq [(.call 0 [(V 0)])] [] (.s (SE.ap1 .sum (v 1))))])]⟩
def b_outs : List Bool := [true]
/-- settle(web, home, pile); slots: 0=web 1=home 2=pile 3=table 4=out 5=now 6=fires 7=is_going 8=v 9=times 10=u -/
def d_settle : Def := ⟨3, 11, [
  .asgs [(.name 3), (.name 4), (.name 5), (.name 6)] [(.call 0 [(V 0)]), (.call 1 [(V 0)]), (.apA .toL [(V 2)]), (.apA .rep [(.lst [(.s (SE.int 0))]), (.elem 0 (SE.int 0))])],
  .asg (.name 7) (.s (SE.bl true)),
  .whl (V 7) [.asg (.name 7) (.s (SE.bl false)), .for_ (.name 8) .range1 [(.elem 0 (SE.int 0))] [.asg (.name 9) (.s (SE.ite (SE.ap2 .ne (v 8) (v 1)) (SE.ap2 .fdiv (SE.ap2 .get (v 5) (v 8)) (SE.ap2 .get (v 4) (v 8))) (SE.int 0))), .ifs (.s (SE.ap2 .gt (v 9) (SE.int 0))) [.asg (.name 7) (.s (SE.bl true)), .asg (.st 6 [(v 8)]) (.s (SE.ap2 .add (SE.ap2 .get (v 6) (v 8)) (v 9))), .asg (.st 5 [(v 8)]) (.s (SE.ap2 .sub (SE.ap2 .get (v 5) (v 8)) (SE.ap2 .mul (v 9) (SE.ap2 .get (v 4) (v 8))))), .for_ (.name 10) .range1 [(.elem 0 (SE.int 0))] [.asg (.st 5 [(v 10)]) (.s (SE.ite (SE.ap2 .ne (v 10) (v 1)) (SE.ap2 .add (SE.ap2 .get (v 5) (v 10)) (SE.ap2 .mul (v 9) (SE.ap2 .get (SE.ap2 .get (v 3) (v 8)) (v 10)))) (SE.int 0)))]] []]],
  .ret (.tup [(.apA .toT [(V 5)]), (.apA .toT [(V 6)])])]⟩
def b_settle : List Bool := [true, true, true]
/-- settled(web, home, pile); slots: 0=web 1=home 2=pile -/
def d_settled : Def := ⟨3, 3, [
  .ret (.ap .get [(.call 2 [(V 0), (V 1), (V 2)]), (.s (SE.int 0))])]⟩
def b_settled : List Bool := [true, true, true]
/-- firings(web, home, pile); slots: 0=web 1=home 2=pile -/
def d_firings : Def := ⟨3, 3, [
  .ret (.ap .get [(.call 2 [(V 0), (V 1), (V 2)]), (.s (SE.int 1))])]⟩
def b_firings : List Bool := [true, true, true]
/-- is_steady(web, home, pile); slots: 0=web 1=home 2=pile 3=out 4=v -/
def d_is_steady : Def := ⟨3, 5, [
  .asg (.name 3) (.call 1 [(V 0)]),
  .ret (.ap .eq [(.lc [4] (.name 4) .range1 [(.elem 0 (SE.int 0))] [(.s (SE.and (SE.ap2 .ne (v 4) (v 1)) (SE.ap2 .ge (SE.ap2 .get (v 2) (v 4)) (SE.ap2 .get (v 3) (v 4)))))] (V 4)), (.lst [])])]⟩
def b_is_steady : List Bool := [true, true, true]
/-- roads_to(row, some); slots: 0=row 1=some 2=u -/
def d_roads_to : Def := ⟨2, 3, [
  .ret (.ap .sum [(.lc [2] (.name 2) .seq [(V 1)] [] (.elem 0 (v 2)))])]⟩
def b_roads_to : List Bool := [true, true]
/-- burnt(web, home, pile); slots: 0=web 1=home 2=pile 3=table 4=out 5=found 6=late 7=rest 8=v -/
def d_burnt : Def := ⟨3, 9, [
  .asgs [(.name 3), (.name 4), (.name 5)] [(.call 0 [(V 0)]), (.call 1 [(V 0)]), (.lst [(V 1)])],
  .asg (.name 6) (.lst [(V 1)]),
  .whl (.ap .ne [(V 6), (.lst [])]) [.asg (.name 7) (.lc [8] (.name 8) .range1 [(.elem 0 (SE.int 0))] [(.s (SE.ap2 .notin (v 8) (v 5)))] (V 8)), .asg (.name 6) (.lc [8] (.name 8) .seq [(V 7)] [(.ap .ge [(.ap .add [(.elem 2 (v 8)), (.call 6 [(.elem 3 (v 8)), (V 5)])]), (.elem 4 (v 8))])] (V 8)), .asg (.name 5) (.apA .cat [(V 5), (V 6)])],
  .retv 5]⟩
def b_burnt : List Bool := [true, true, true]
/-- comes_again(web, home, pile); slots: 0=web 1=home 2=pile -/
def d_comes_again : Def := ⟨3, 3, [
  .ret (.and (.call 5 [(V 0), (V 1), (V 2)]) (.ap .eq [(.ap .len [(.call 7 [(V 0), (V 1), (V 2)])]), (.elem 0 (SE.int 0))]))]⟩
def b_comes_again : List Bool := [true, true, true]
/-- is_least_pile(web, home, pile); slots: 0=web 1=home 2=pile 3=table 4=out 5=late 6=rest 7=v -/
def d_is_least_pile : Def := ⟨3, 8, [
  .asgs [(.name 3), (.name 4)] [(.call 0 [(V 0)]), (.lst [(V 1)])],
  .asg (.name 5) (.lst [(V 1)]),
  .whl (.ap .ne [(V 5), (.lst [])]) [.asg (.name 6) (.lc [7] (.name 7) .range1 [(.elem 0 (SE.int 0))] [(.s (SE.ap2 .notin (v 7) (v 4)))] (V 7)), .asg (.name 5) (.lc [7] (.name 7) .seq [(V 6)] [(.ap .lt [(.elem 2 (v 7)), (.call 6 [(.elem 3 (v 7)), (V 4)])])] (V 7)), .asg (.name 4) (.apA .cat [(V 4), (V 5)])],
  .ret (.s (SE.ap2 .eq (SE.ap1 .len (v 4)) (SE.ap2 .get (v 0) (SE.int 0))))]⟩
def b_is_least_pile : List Bool := [true, true, true]
/-- _law_source(script); slots: 0=script 1=mixed 2=cell -/
def d__law_source : Def := ⟨1, 3, [
  .asg (.name 1) (.s (SE.int 11)),
  .for_ (.name 2) .seq [(V 0)] [.asg (.name 1) (.s (SE.ap2 .mod (SE.ap1 .int (SE.ap2 .add (SE.ap2 .add (SE.ap2 .mul (v 1) (SE.int 69069)) (SE.ap2 .mul (v 2) (SE.int 31))) (SE.int 5))) (SE.int 2147483629)))],
  .ret (.dct [(SE.str "cells"), (SE.str "left"), (SE.str "mixed"), (SE.str "turn")] [(.apA .rev [(.lc [2] (.name 2) .seq [(V 0)] [] (.s (SE.ap1 .abs (v 2))))]), (.s (SE.int 1)), (V 1), (.s (SE.int 0))])]⟩
def b__law_source : List Bool := [true]
/-- _law_pick(source, many); slots: 0=source 1=many 2=left 3=mixed -/
def d__law_pick : Def := ⟨2, 4, [
  .whl (.s (SE.and (SE.ap2 .gt (v 1) (SE.int 1)) (SE.and (SE.ap2 .lt (SE.ap2 .get (v 0) (SE.str "left")) (SE.int 2)) (SE.ap2 .gt (SE.ap1 .len (SE.ap2 .get (v 0) (SE.str "cells"))) (SE.int 0))))) [.asg (.st 0 [(SE.str "left")]) (.mut .pop0 0 [(SE.str "cells")] [])],
  .asg (.name 2) (.elem 0 (SE.str "left")),
  .ifs (.s (SE.or (SE.ap2 .lt (v 1) (SE.int 2)) (SE.ap2 .gt (v 2) (SE.int 1)))) [.asg (.st 0 [(SE.str "left")]) (.s (SE.ap2 .fdiv (v 2) (SE.ap2 .max2 (SE.int 1) (v 1)))), .ret (.s (SE.ap2 .mod (SE.ap1 .int (v 2)) (SE.ap2 .max2 (SE.int 1) (v 1))))] [],
  .asg (.st 0 [(SE.str "turn")]) (.s (SE.ap2 .add (SE.ap2 .get (v 0) (SE.str "turn")) (SE.int 1))),
  .asg (.name 3) (.s (SE.ap2 .mod (SE.ap1 .int (SE.ap2 .add (SE.ap2 .get (v 0) (SE.str "mixed")) (SE.ap2 .mul (SE.ap2 .get (v 0) (SE.str "turn")) (SE.int 104729)))) (SE.int 998244353))),
  .asg (.name 3) (.s (SE.ap2 .mod (SE.ap1 .int (SE.ap2 .add (SE.ap2 .mul (v 3) (v 3)) (SE.ap2 .mul (SE.ap2 .get (v 0) (SE.str "turn")) (SE.int 17)))) (SE.int 2147483647))),
  .asg (.st 0 [(SE.str "mixed")]) (V 3),
  .ret (.s (SE.ap2 .mod (SE.ap1 .int (SE.ap2 .fdiv (v 3) (SE.int 16))) (v 1)))]⟩
def b__law_pick : List Bool := [true, true]
/-- _law_of(source, some); slots: 0=source 1=some -/
def d__law_of : Def := ⟨2, 2, [
  .ret (.ap .get [(V 1), (.call 11 [(V 0), (.s (SE.ap1 .len (v 1)))])])]⟩
def b__law_of : List Bool := [true, true]
/-- _law_mixed(source, things); slots: 0=source 1=things 2=rest 3=lap -/
def d__law_mixed : Def := ⟨2, 4, [
  .asg (.name 2) (.apA .toL [(V 1)]),
  .ret (.lc [3] (.name 3) .range1 [(.s (SE.ap1 .len (v 2)))] [] (.mut .pop1 2 [] [(.call 11 [(V 0), (.s (SE.ap1 .len (v 2)))])]))]⟩
def b__law_mixed : List Bool := [true, true]
/-- _law_other(end); slots: 0=end -/
def d__law_other : Def := ⟨1, 1, [
  .ret (.s (SE.ap2 .sub (SE.ap2 .add (v 0) (SE.int 1)) (SE.ap2 .mul (SE.int 2) (SE.ap2 .mod (SE.ap1 .int (v 0)) (SE.int 2)))))]⟩
def b__law_other : List Bool := [true]
/-- _law_nexts(web); slots: 0=web 1=found 2=turn 3=k 4=end -/
def d__law_nexts : Def := ⟨1, 5, [
  .asg (.name 1) (.apA .rep [(.lst [(.s (SE.int 0))]), (.s (SE.ap2 .mul (SE.int 2) (SE.ap1 .len (SE.ap2 .get (v 0) (SE.int 1)))))]),
  .for_ (.name 2) .seq [(.elem 0 (SE.int 2))] [.for_ (.tup [(.name 3), (.name 4)]) .enum [(V 2)] [.asg (.st 1 [(SE.ap2 .get (v 2) (SE.ap2 .sub (v 3) (SE.int 1)))]) (V 4)]],
  .retv 1]⟩
def b__law_nexts : List Bool := [true]
/-- _law_spots(web); slots: 0=web 1=found 2=pair -/
def d__law_spots : Def := ⟨1, 3, [
  .asg (.name 1) (.lst []),
  .for_ (.name 2) .seq [(.elem 0 (SE.int 1))] [.asg (.name 1) (.apA .cat [(V 1), (.lst [(.elem 2 (SE.int 0)), (.elem 2 (SE.int 1))])])],
  .retv 1]⟩
def b__law_spots : List Bool := [true]
/-- _law_face(web, end); slots: 0=web 1=end 2=nexts 3=found -/
def d__law_face : Def := ⟨2, 4, [
  .asgs [(.name 2), (.name 3)] [(.call 15 [(V 0)]), (.lst [])],
  .whl (.s (SE.ap2 .notin (v 1) (v 3))) [.ex (.mut .append 3 [] [(V 1)]), .asg (.name 1) (.ap .get [(V 2), (.call 14 [(V 1)])])],
  .retv 3]⟩
def b__law_face : List Bool := [true, false]
/-- _law_grown(source, web, way); slots: 0=source 1=web 2=way 3=n 4=roads 5=turns 6=turn 7=many 8=one 9=spots 10=some 11=end 12=other -/
def d__law_grown : Def := ⟨3, 13, [
  .asgs [(.name 3), (.name 4), (.name 5)] [(.elem 1 (SE.int 0)), (.apA .toL [(.elem 1 (SE.int 1))]), (.lc [6] (.name 6) .seq [(.elem 1 (SE.int 2))] [] (.apA .toL [(V 6)]))],
  .asg (.name 7) (.s (SE.ap1 .len (v 4))),
  .ifs (.s (SE.ap2 .eq (v 7) (SE.int 0))) [.ret (.tup [(V 3), (.tup [(.tup [(.s (SE.int 0)), (.s (SE.int 0))])]), (.tup [(.tup [(.s (SE.int 0)), (.s (SE.int 1))])])])] [],
  .asgs [(.name 8), (.name 9)] [(.call 11 [(V 0), (.s (SE.ap2 .mul (SE.int 2) (v 7)))]), (.call 16 [(V 1)])],
  .asg (.name 10) (.ite (.s (SE.ap2 .eq (v 2) (SE.int 0))) (.call 17 [(V 1), (V 8)]) (.apA .rangeL1 [(.s (SE.ap2 .mul (SE.int 2) (v 7)))])),
  .asg (.name 10) (.ite (.s (SE.and (SE.ap2 .eq (v 2) (SE.int 2)) (SE.ap2 .gt (v 3) (SE.int 1)))) (.lc [11] (.name 11) .seq [(V 10)] [(.s (SE.ap2 .ne (SE.ap2 .get (v 9) (v 11)) (SE.ap2 .get (v 9) (v 8))))] (V 11)) (V 10)),
  .asg (.name 12) (.call 12 [(V 0), (V 10)]),
  .ex (.mut .append 4 [] [(.tup [(.elem 9 (v 8)), (.elem 9 (v 12))])]),
  .ex (.mut .insert 5 [(SE.ap2 .get (v 9) (v 8))] [(.s (SE.ap2 .index (SE.ap2 .get (v 5) (SE.ap2 .get (v 9) (v 8))) (v 8))), (.s (SE.ap2 .mul (SE.int 2) (v 7)))]),
  .ex (.mut .insert 5 [(SE.ap2 .get (v 9) (v 12))] [(.s (SE.ap2 .index (SE.ap2 .get (v 5) (SE.ap2 .get (v 9) (v 12))) (v 12))), (.s (SE.ap2 .add (SE.ap2 .mul (SE.int 2) (v 7)) (SE.int 1)))]),
  .ret (.tup [(V 3), (.apA .toT [(V 4)]), (.apA .toT [(.lc [6] (.name 6) .seq [(V 5)] [] (.apA .toT [(V 6)]))])])]⟩
def b__law_grown : List Bool := [true, true, true]
/-- _law_renamed(source, web); slots: 0=source 1=web 2=n 3=many 4=names 5=places 6=ends 7=turns 8=r 9=v 10=turn 11=k 12=end 13=roads -/
def d__law_renamed : Def := ⟨2, 14, [
  .asgs [(.name 2), (.name 3)] [(.elem 1 (SE.int 0)), (.s (SE.ap1 .len (SE.ap2 .get (v 1) (SE.int 1))))],
  .asgs [(.name 4), (.name 5)] [(.call 13 [(V 0), (.apA .rangeL1 [(V 2)])]), (.call 13 [(V 0), (.apA .rangeL1 [(V 3)])])],
  .asgs [(.name 6), (.name 7)] [(.dct [] []), (.apA .rep [(.lst [(.tup [])]), (V 2)])],
  .for_ (.name 8) .range1 [(V 3)] [.ex (.upd 6 (.dct [(SE.ap2 .mul (SE.int 2) (v 8)), (SE.ap2 .add (SE.ap2 .mul (SE.int 2) (v 8)) (SE.int 1))] [(.s (SE.ap2 .mul (SE.int 2) (SE.ap2 .get (v 5) (v 8)))), (.s (SE.ap2 .add (SE.ap2 .mul (SE.int 2) (SE.ap2 .get (v 5) (v 8))) (SE.int 1)))]))],
  .for_ (.tup [(.name 9), (.name 10)]) .enum [(.elem 1 (SE.int 2))] [.asg (.name 11) (.ite (.ap .ne [(V 10), (.tup [])]) (.call 11 [(V 0), (.s (SE.ap1 .len (v 10)))]) (.s (SE.int 0))), .asg (.st 7 [(SE.ap2 .get (v 4) (v 9))]) (.apA .toT [(.lc [12] (.name 12) .seq [(.apA .cat [(.slice (V 10) (some (v 11)) none), (.slice (V 10) none (some (v 11)))])] [] (.elem 6 (v 12)))])],
  .asg (.name 13) (.lc [8] (.name 8) .range1 [(V 3)] [] (.tup [(.elem 4 (SE.ap2 .get (SE.ap2 .get (SE.ap2 .get (v 1) (SE.int 1)) (SE.ap2 .index (v 5) (v 8))) (SE.int 0))), (.elem 4 (SE.ap2 .get (SE.ap2 .get (SE.ap2 .get (v 1) (SE.int 1)) (SE.ap2 .index (v 5) (v 8))) (SE.int 1)))])),
  .ret (.tup [(V 2), (.apA .toT [(V 13)]), (.apA .toT [(V 7)])])]⟩
def b__law_renamed : List Bool := [true, true]
/-- _law_web(source, crossings, more, way); slots: 0=source 1=crossings 2=more 3=way 4=web 5=v 6=at 7=side 8=turns 9=many 10=k 11=pair 12=lap -/
def d__law_web : Def := ⟨4, 13, [
  .asgs [(.name 3), (.name 4)] [(.ite (.s (SE.ap2 .eq (v 3) (SE.int 3))) (.call 11 [(V 0), (.s (SE.int 3))]) (V 3)), (.tup [(.s (SE.int 1)), (.tup []), (.tup [(.tup [])])])],
  .for_ (.name 5) .range2 [(.s (SE.int 1)), (V 1)] [.asgs [(.name 6), (.name 7), (.name 8), (.name 9)] [(.call 11 [(V 0), (V 5)]), (.call 11 [(V 0), (.s (SE.int 2))]), (.apA .toL [(.elem 4 (SE.int 2))]), (.s (SE.ap1 .len (SE.ap2 .get (v 4) (SE.int 1))))], .asg (.name 10) (.call 11 [(V 0), (.s (SE.ap2 .add (SE.ap1 .len (SE.ap2 .get (v 8) (v 6))) (SE.int 1)))]), .asg (.st 8 [(v 6)]) (.apA .cat [(.apA .cat [(.slice (.elem 8 (v 6)) none (some (v 10))), (.tup [(.s (SE.ap2 .add (SE.ap2 .mul (SE.int 2) (v 9)) (v 7)))])]), (.slice (.elem 8 (v 6)) (some (v 10)) none)]), .asg (.name 11) (.ite (.s (SE.ap2 .eq (v 7) (SE.int 0))) (.tup [(V 6), (V 5)]) (.tup [(V 5), (V 6)])), .asg (.name 4) (.tup [(.s (SE.ap2 .add (v 5) (SE.int 1))), (.apA .cat [(.elem 4 (SE.int 1)), (.tup [(V 11)])]), (.apA .toT [(.apA .cat [(V 8), (.lst [(.tup [(.s (SE.ap2 .sub (SE.ap2 .add (SE.ap2 .mul (SE.int 2) (v 9)) (SE.int 1)) (v 7)))])])])])])],
  .for_ (.name 12) .range1 [(V 2)] [.asg (.name 4) (.call 18 [(V 0), (V 4), (V 3)])],
  .ret (.call 19 [(V 0), (V 4)])]⟩
def b__law_web : List Bool := [true, true, true, false]
/-- _law_joins(web); slots: 0=web 1=found 2=v 3=one 4=other 5=w -/
def d__law_joins : Def := ⟨1, 6, [
  .asg (.name 1) (.lc [2] (.name 2) .range1 [(.elem 0 (SE.int 0))] [] (.apA .rep [(.lst [(.s (SE.int 0))]), (.elem 0 (SE.int 0))])),
  .for_ (.tup [(.name 3), (.name 4)]) .seq [(.elem 0 (SE.int 1))] [.for_ (.tup [(.name 2), (.name 5)]) .seq [(.ite (.s (SE.ap2 .ne (v 3) (v 4))) (.lst [(.tup [(V 3), (V 4)]), (.tup [(V 4), (V 3)])]) (.lst []))] [.asg (.st 1 [(v 2), (v 5)]) (.s (SE.ap2 .add (SE.ap2 .get (SE.ap2 .get (v 1) (v 2)) (v 5)) (SE.int 1)))]],
  .retv 1]⟩
def b__law_joins : List Bool := [true]
/-- _law_pile(source, web, home, way); slots: 0=source 1=web 2=home 3=way 4=ways 5=row 6=found 7=v 8=many 9=one -/
def d__law_pile : Def := ⟨4, 10, [
  .asg (.name 4) (.lc [5] (.name 5) .seq [(.call 21 [(V 1)])] [] (.s (SE.ap1 .sum (v 5)))),
  .asg (.name 6) (.lst []),
  .for_ (.tup [(.name 7), (.name 8)]) .enum [(V 4)] [.asg (.name 9) (.lst [(.call 11 [(V 0), (.s (SE.ap2 .max2 (SE.int 1) (v 8)))]), (.ap .max2 [(.s (SE.int 0)), (.ap .sub [(.s (SE.ap2 .sub (v 8) (SE.int 1))), (.call 11 [(V 0), (.s (SE.int 2))])])]), (.call 11 [(V 0), (.s (SE.int 9))])]), .asg (.name 9) (.elem 9 (SE.ap2 .min2 (v 3) (SE.int 2))), .ex (.mut .append 6 [] [(.ite (.s (SE.ap2 .eq (v 7) (v 2))) (.s (SE.int 0)) (.ite (.s (SE.ap2 .lt (v 3) (SE.int 3))) (V 9) (.call 11 [(V 0), (.s (SE.ap2 .add (SE.ap2 .pow (SE.int 10) (SE.int 6)) (SE.int 1)))])))])],
  .ret (.apA .toT [(V 6)])]⟩
def b__law_pile : List Bool := [true, true, true, true]
/-- _law_is_least(web, home, pile); slots: 0=web 1=home 2=pile 3=joins_v 4=found 5=v 6=some 7=w -/
def d__law_is_least : Def := ⟨3, 8, [
  .asgs [(.name 3), (.name 4)] [(.call 21 [(V 0)]), (.lst [(.tup [])])],
  .for_ (.name 5) .seq [(.lc [5] (.name 5) .range1 [(.elem 0 (SE.int 0))] [(.s (SE.ap2 .ne (v 5) (v 1)))] (V 5))] [.asg (.name 4) (.apA .cat [(V 4), (.lc [6] (.name 6) .seq [(V 4)] [] (.apA .cat [(V 6), (.tup [(V 5)])]))])],
  .for_ (.name 6) .seq [(.slice (V 4) (some (SE.int 1)) none)] [.ifs (.ap .eq [(.lc [5] (.name 5) .seq [(V 6)] [(.ap .lt [(.elem 2 (v 5)), (.ap .sub [(.s (SE.ap1 .sum (SE.ap2 .get (v 3) (v 5)))), (.ap .sum [(.lc [7] (.name 7) .seq [(V 6)] [] (.s (SE.ap2 .get (SE.ap2 .get (v 3) (v 5)) (v 7))))])])])] (V 5)), (.lst [])]) [.ret (.s (SE.bl false))] []],
  .ret (.s (SE.bl true))]⟩
def b__law_is_least : List Bool := [true, true, true]
/-- law(script); slots: 0=script 1=source 2=lap 3=web 4=home 5=joins_v 6=kept 7=ones 8=v 9=way 10=pile 11=lack 12=one 13=more 14=told -/
def d_law : Def := ⟨1, 15, [
  .asg (.name 1) (.call 10 [(V 0)]),
  .for_ (.name 2) .range1 [(.s (SE.int 4))] [.asg (.name 3) (.call 20 [(V 1), (.ap .add [(.s (SE.int 1)), (.call 11 [(V 1), (.ap .get [(.lst [(.s (SE.int 3)), (.s (SE.int 4)), (.s (SE.int 6)), (.s (SE.int 8))]), (V 2)])])]), (.call 11 [(V 1), (.ap .get [(.lst [(.s (SE.int 4)), (.s (SE.int 5)), (.s (SE.int 6)), (.s (SE.int 8))]), (V 2)])]), (.s (SE.int 3))]), .asgs [(.name 4), (.name 5), (.name 6)] [(.call 11 [(V 1), (.elem 3 (SE.int 0))]), (.call 21 [(V 3)]), (.s (SE.ap1 .repr (v 3)))], .asg (.name 7) (.apA .toT [(.lc [8] (.name 8) .range1 [(.elem 3 (SE.int 0))] [] (.s (SE.ap1 .int (SE.ap2 .ne (v 8) (v 4)))))]), .for_ (.name 9) .seq [(.tup [(.s (SE.int 0)), (.s (SE.int 0)), (.s (SE.int 1)), (.s (SE.int 2))])] [.asg (.name 10) (.call 22 [(V 1), (V 3), (V 4), (V 9)]), .ifs (.ap .ne [(.ap .repr [(.call 9 [(V 3), (V 4), (V 10)])]), (.ap .repr [(.call 23 [(V 3), (V 4), (V 10)])])]) [.ret (.s (SE.bl false))] [], .ifs (.s (SE.ap2 .lt (v 9) (SE.int 2))) [.asg (.name 11) (.apA .toT [(.lc [8, 12] (.tup [(.name 8), (.name 12)]) .enum [(V 10)] [] (.s (SE.ite (SE.ap2 .eq (v 8) (v 4)) (SE.int 0) (SE.ap2 .sub (SE.ap2 .sub (SE.ap1 .sum (SE.ap2 .get (v 5) (v 8))) (SE.int 1)) (v 12)))))]), .asg (.name 13) (.apA .toT [(.lc [8, 12] (.tup [(.name 8), (.name 12)]) .enum [(V 10)] [] (.s (SE.ite (SE.ap2 .eq (v 8) (v 4)) (SE.int 0) (SE.ap2 .add (v 12) (SE.ap2 .get (SE.ap2 .get (v 5) (v 4)) (v 8))))))]), .asg (.name 14) (.call 8 [(V 3), (V 4), (V 10)]), .ifs (.ap .ne [(.ap .repr [(.lst [(V 14), (V 14)])]), (.ap .repr [(.lst [(.call 23 [(V 3), (V 4), (V 11)]), (.call 9 [(V 3), (V 4), (V 11)])])])]) [.ret (.s (SE.bl false))] [], .ifs (.or (.ap .ne [(V 14), (.ap .eq [(.call 4 [(V 3), (V 4), (V 13)]), (V 7)])]) (.and (V 14) (.ap .ne [(.call 3 [(V 3), (V 4), (V 13)]), (V 10)]))) [.ret (.s (SE.bl false))] []] []], .ifs (.s (SE.ap2 .ne (SE.ap1 .repr (v 3)) (v 6))) [.ret (.s (SE.bl false))] []],
  .ret (.s (SE.bl true))]⟩
def b_law : List Bool := [true]
def par : List Ecl := []
def defs : List (Def × List Bool) := [(d_joins, b_joins), (d_outs, b_outs), (d_settle, b_settle), (d_settled, b_settled), (d_firings, b_firings), (d_is_steady, b_is_steady), (d_roads_to, b_roads_to), (d_burnt, b_burnt), (d_comes_again, b_comes_again), (d_is_least_pile, b_is_least_pile), (d__law_source, b__law_source), (d__law_pick, b__law_pick), (d__law_of, b__law_of), (d__law_mixed, b__law_mixed), (d__law_other, b__law_other), (d__law_nexts, b__law_nexts), (d__law_spots, b__law_spots), (d__law_face, b__law_face), (d__law_grown, b__law_grown), (d__law_renamed, b__law_renamed), (d__law_web, b__law_web), (d__law_joins, b__law_joins), (d__law_pile, b__law_pile), (d__law_is_least, b__law_is_least), (d_law, b_law)]
/-- the defs of the text: place, slots, parameters -/
def nm (xs : List String) : List Str := xs.map Str.ofString
def spec : List (Nat × List Str × Nat) := [
  (1, nm ["web", "table", "v", "one", "other"], 1), 
  (2, nm ["web", "row"], 1), 
  (3, nm ["web", "home", "pile", "table", "out", "now", "fires", "is_going", "v", "times", "u"], 3), 
  (4, nm ["web", "home", "pile"], 3), 
  (5, nm ["web", "home", "pile"], 3), 
  (6, nm ["web", "home", "pile", "out", "v"], 3), 
  (8, nm ["row", "some", "u"], 2), 
  (9, nm ["web", "home", "pile", "table", "out", "found", "late", "rest", "v"], 3), 
  (10, nm ["web", "home", "pile"], 3), 
  (11, nm ["web", "home", "pile", "table", "out", "late", "rest", "v"], 3), 
  (13, nm ["script", "mixed", "cell"], 1), 
  (14, nm ["source", "many", "left", "mixed"], 2), 
  (15, nm ["source", "some"], 2), 
  (16, nm ["source", "things", "rest", "lap"], 2), 
  (17, nm ["end"], 1), 
  (18, nm ["web", "found", "turn", "k", "end"], 1), 
  (19, nm ["web", "found", "pair"], 1), 
  (20, nm ["web", "end", "nexts", "found"], 2), 
  (21, nm ["source", "web", "way", "n", "roads", "turns", "turn", "many", "one", "spots", "some", "end", "other"], 3), 
  (22, nm ["source", "web", "n", "many", "names", "places", "ends", "turns", "r", "v", "turn", "k", "end", "roads"], 2), 
  (23, nm ["source", "crossings", "more", "way", "web", "v", "at", "side", "turns", "many", "k", "pair", "lap"], 4), 
  (24, nm ["web", "found", "v", "one", "other", "w"], 1), 
  (25, nm ["source", "web", "home", "way", "ways", "row", "found", "v", "many", "one"], 4), 
  (26, nm ["web", "home", "pile", "joins_v", "found", "v", "some", "w"], 3), 
  (27, nm ["script", "source", "lap", "web", "home", "joins_v", "kept", "ones", "v", "way", "pile", "lack", "one", "more", "told"], 1)]

end K77
end
section
set_option linter.all false
set_option maxRecDepth 100000
set_option maxHeartbeats 4000000
namespace K77
open Mi
def KK : Nat := 100000
noncomputable def hide {α : Type} (a : α) : α := Classical.choose (⟨a, rfl⟩ : ∃ x, x = a)
theorem hide_eq {α : Type} (a : α) : hide a = a := Classical.choose_spec (⟨a, rfl⟩ : ∃ x, x = a)
abbrev Sh (C : List Fun0) (d : Def) (b : List Bool) := { f : List Mi.Arg → COut // runDef ⟨C, KK, par⟩ d b = f }
noncomputable def C_joins : List Fun0 := []
noncomputable def Sh_joins : Sh C_joins d_joins b_joins := ⟨_, by
  simp (config := {implicitDefEqProofs := false}) only [d_joins, b_joins, v, V, run_eq, ms_nil, ms_cons, m_asg, m_asgs, m_ex, m_ifs, m_whl, m_for, m_ret, m_retv, m_retN, m_brk, m_cont, m_pass, m_no, b_name, b_tup, b_st1, b_st2, o_nil, o_cons, s_nil, s_cons, d_nil, d_cons, i_nil, i_cons, op_var, op_s, op_elem, op_tup, op_lst, op_dct, op_ap, op_apA, op_slice, op_call, op_lc, op_mut, op_ite, op_and, op_or, op_not, op_starT, op_cmpE, xF_s, xT_s, xF_var, xT_var, x_elem, x_tup, x_lst, x_dct, x_ap, x_apA, x_slice, x_call, x_lc, x_mut, x_ite, x_and, x_or, xT_not, xF_not, x_no, x_starT, x_upd, x_cmpE, sS_var, sS_int, sS_bl, sS_non, sS_str, sS_ap1, sS_ap2, sS_chain, sS_not, sS_and, sS_or, sS_ite, sT_var, sT_int, sT_bl, sT_ap1, sT_ap2, sT_chain, sT_not, sT_and, sT_or, sT_ite, sSs_nil, sSs_cons, sSo_none, sSo_some, z_asT, z_ok, z_okr, z_some, z_stop, z_bind, z_map, z_st, z_as, z_str, z_asr, z_opk, z_ops, z_opb, z_v0, z_v1, z_v2, z_o0, z_o1, z_o2, z_m0, z_m1, z_bl, z_bls, z_blb, z_f1, z_f2, z_a1, z_a2, z_i1, z_i2, z_p0, z_mb, z_bb, z_mm]
  simp (config := {implicitDefEqProofs := false}) only [fn2_F, get1_F, slot_F, set_eq, f_get, f_eq, f_ne, f_in, f_notin, f_add, f_sub, f_lt, f_le, f_gt, f_ge]
  rfl⟩
noncomputable def F_joins : Fun0 := ⟨hide Sh_joins.1, b_joins⟩
theorem sem_joins : F_joins.sem = Sh_joins.1 := hide_eq _
theorem br_joins : F_joins.br = b_joins := rfl
noncomputable def C_outs : List Fun0 := [F_joins]
noncomputable def Sh_outs : Sh C_outs d_outs b_outs := ⟨_, by
  simp (config := {implicitDefEqProofs := false}) only [d_outs, b_outs, v, V, run_eq, ms_nil, ms_cons, m_asg, m_asgs, m_ex, m_ifs, m_whl, m_for, m_ret, m_retv, m_retN, m_brk, m_cont, m_pass, m_no, b_name, b_tup, b_st1, b_st2, o_nil, o_cons, s_nil, s_cons, d_nil, d_cons, i_nil, i_cons, op_var, op_s, op_elem, op_tup, op_lst, op_dct, op_ap, op_apA, op_slice, op_call, op_lc, op_mut, op_ite, op_and, op_or, op_not, op_starT, op_cmpE, xF_s, xT_s, xF_var, xT_var, x_elem, x_tup, x_lst, x_dct, x_ap, x_apA, x_slice, x_call, x_lc, x_mut, x_ite, x_and, x_or, xT_not, xF_not, x_no, x_starT, x_upd, x_cmpE, sS_var, sS_int, sS_bl, sS_non, sS_str, sS_ap1, sS_ap2, sS_chain, sS_not, sS_and, sS_or, sS_ite, sT_var, sT_int, sT_bl, sT_ap1, sT_ap2, sT_chain, sT_not, sT_and, sT_or, sT_ite, sSs_nil, sSs_cons, sSo_none, sSo_some, z_asT, z_ok, z_okr, z_some, z_stop, z_bind, z_map, z_st, z_as, z_str, z_asr, z_opk, z_ops, z_opb, z_v0, z_v1, z_v2, z_o0, z_o1, z_o2, z_m0, z_m1, z_bl, z_bls, z_blb, z_f1, z_f2, z_a1, z_a2, z_i1, z_i2, z_p0, z_mb, z_bb, z_mm]
  simp (config := {implicitDefEqProofs := false}) only [fn2_F, get1_F, slot_F, set_eq, f_get, f_eq, f_ne, f_in, f_notin, f_add, f_sub, f_lt, f_le, f_gt, f_ge]
  rfl⟩
noncomputable def F_outs : Fun0 := ⟨hide Sh_outs.1, b_outs⟩
theorem sem_outs : F_outs.sem = Sh_outs.1 := hide_eq _
theorem br_outs : F_outs.br = b_outs := rfl
noncomputable def C_settle : List Fun0 := [F_joins, F_outs]
noncomputable def Sh_settle : Sh C_settle d_settle b_settle := ⟨_, by
  simp (config := {implicitDefEqProofs := false}) only [d_settle, b_settle, v, V, run_eq, ms_nil, ms_cons, m_asg, m_asgs, m_ex, m_ifs, m_whl, m_for, m_ret, m_retv, m_retN, m_brk, m_cont, m_pass, m_no, b_name, b_tup, b_st1, b_st2, o_nil, o_cons, s_nil, s_cons, d_nil, d_cons, i_nil, i_cons, op_var, op_s, op_elem, op_tup, op_lst, op_dct, op_ap, op_apA, op_slice, op_call, op_lc, op_mut, op_ite, op_and, op_or, op_not, op_starT, op_cmpE, xF_s, xT_s, xF_var, xT_var, x_elem, x_tup, x_lst, x_dct, x_ap, x_apA, x_slice, x_call, x_lc, x_mut, x_ite, x_and, x_or, xT_not, xF_not, x_no, x_starT, x_upd, x_cmpE, sS_var, sS_int, sS_bl, sS_non, sS_str, sS_ap1, sS_ap2, sS_chain, sS_not, sS_and, sS_or, sS_ite, sT_var, sT_int, sT_bl, sT_ap1, sT_ap2, sT_chain, sT_not, sT_and, sT_or, sT_ite, sSs_nil, sSs_cons, sSo_none, sSo_some, z_asT, z_ok, z_okr, z_some, z_stop, z_bind, z_map, z_st, z_as, z_str, z_asr, z_opk, z_ops, z_opb, z_v0, z_v1, z_v2, z_o0, z_o1, z_o2, z_m0, z_m1, z_bl, z_bls, z_blb, z_f1, z_f2, z_a1, z_a2, z_i1, z_i2, z_p0, z_mb, z_bb, z_mm]
  simp (config := {implicitDefEqProofs := false}) only [fn2_F, get1_F, slot_F, set_eq, f_get, f_eq, f_ne, f_in, f_notin, f_add, f_sub, f_lt, f_le, f_gt, f_ge]
  rfl⟩
noncomputable def F_settle : Fun0 := ⟨hide Sh_settle.1, b_settle⟩
theorem sem_settle : F_settle.sem = Sh_settle.1 := hide_eq _
theorem br_settle : F_settle.br = b_settle := rfl
noncomputable def C_settled : List Fun0 := [F_joins, F_outs, F_settle]
noncomputable def Sh_settled : Sh C_settled d_settled b_settled := ⟨_, by
  simp (config := {implicitDefEqProofs := false}) only [d_settled, b_settled, v, V, run_eq, ms_nil, ms_cons, m_asg, m_asgs, m_ex, m_ifs, m_whl, m_for, m_ret, m_retv, m_retN, m_brk, m_cont, m_pass, m_no, b_name, b_tup, b_st1, b_st2, o_nil, o_cons, s_nil, s_cons, d_nil, d_cons, i_nil, i_cons, op_var, op_s, op_elem, op_tup, op_lst, op_dct, op_ap, op_apA, op_slice, op_call, op_lc, op_mut, op_ite, op_and, op_or, op_not, op_starT, op_cmpE, xF_s, xT_s, xF_var, xT_var, x_elem, x_tup, x_lst, x_dct, x_ap, x_apA, x_slice, x_call, x_lc, x_mut, x_ite, x_and, x_or, xT_not, xF_not, x_no, x_starT, x_upd, x_cmpE, sS_var, sS_int, sS_bl, sS_non, sS_str, sS_ap1, sS_ap2, sS_chain, sS_not, sS_and, sS_or, sS_ite, sT_var, sT_int, sT_bl, sT_ap1, sT_ap2, sT_chain, sT_not, sT_and, sT_or, sT_ite, sSs_nil, sSs_cons, sSo_none, sSo_some, z_asT, z_ok, z_okr, z_some, z_stop, z_bind, z_map, z_st, z_as, z_str, z_asr, z_opk, z_ops, z_opb, z_v0, z_v1, z_v2, z_o0, z_o1, z_o2, z_m0, z_m1, z_bl, z_bls, z_blb, z_f1, z_f2, z_a1, z_a2, z_i1, z_i2, z_p0, z_mb, z_bb, z_mm]
  simp (config := {implicitDefEqProofs := false}) only [fn2_F, get1_F, slot_F, set_eq, f_get, f_eq, f_ne, f_in, f_notin, f_add, f_sub, f_lt, f_le, f_gt, f_ge]
  rfl⟩
noncomputable def F_settled : Fun0 := ⟨hide Sh_settled.1, b_settled⟩
theorem sem_settled : F_settled.sem = Sh_settled.1 := hide_eq _
theorem br_settled : F_settled.br = b_settled := rfl
noncomputable def C_firings : List Fun0 := [F_joins, F_outs, F_settle, F_settled]
noncomputable def Sh_firings : Sh C_firings d_firings b_firings := ⟨_, by
  simp (config := {implicitDefEqProofs := false}) only [d_firings, b_firings, v, V, run_eq, ms_nil, ms_cons, m_asg, m_asgs, m_ex, m_ifs, m_whl, m_for, m_ret, m_retv, m_retN, m_brk, m_cont, m_pass, m_no, b_name, b_tup, b_st1, b_st2, o_nil, o_cons, s_nil, s_cons, d_nil, d_cons, i_nil, i_cons, op_var, op_s, op_elem, op_tup, op_lst, op_dct, op_ap, op_apA, op_slice, op_call, op_lc, op_mut, op_ite, op_and, op_or, op_not, op_starT, op_cmpE, xF_s, xT_s, xF_var, xT_var, x_elem, x_tup, x_lst, x_dct, x_ap, x_apA, x_slice, x_call, x_lc, x_mut, x_ite, x_and, x_or, xT_not, xF_not, x_no, x_starT, x_upd, x_cmpE, sS_var, sS_int, sS_bl, sS_non, sS_str, sS_ap1, sS_ap2, sS_chain, sS_not, sS_and, sS_or, sS_ite, sT_var, sT_int, sT_bl, sT_ap1, sT_ap2, sT_chain, sT_not, sT_and, sT_or, sT_ite, sSs_nil, sSs_cons, sSo_none, sSo_some, z_asT, z_ok, z_okr, z_some, z_stop, z_bind, z_map, z_st, z_as, z_str, z_asr, z_opk, z_ops, z_opb, z_v0, z_v1, z_v2, z_o0, z_o1, z_o2, z_m0, z_m1, z_bl, z_bls, z_blb, z_f1, z_f2, z_a1, z_a2, z_i1, z_i2, z_p0, z_mb, z_bb, z_mm]
  simp (config := {implicitDefEqProofs := false}) only [fn2_F, get1_F, slot_F, set_eq, f_get, f_eq, f_ne, f_in, f_notin, f_add, f_sub, f_lt, f_le, f_gt, f_ge]
  rfl⟩
noncomputable def F_firings : Fun0 := ⟨hide Sh_firings.1, b_firings⟩
theorem sem_firings : F_firings.sem = Sh_firings.1 := hide_eq _
theorem br_firings : F_firings.br = b_firings := rfl
noncomputable def C_is_steady : List Fun0 := [F_joins, F_outs, F_settle, F_settled, F_firings]
noncomputable def Sh_is_steady : Sh C_is_steady d_is_steady b_is_steady := ⟨_, by
  simp (config := {implicitDefEqProofs := false}) only [d_is_steady, b_is_steady, v, V, run_eq, ms_nil, ms_cons, m_asg, m_asgs, m_ex, m_ifs, m_whl, m_for, m_ret, m_retv, m_retN, m_brk, m_cont, m_pass, m_no, b_name, b_tup, b_st1, b_st2, o_nil, o_cons, s_nil, s_cons, d_nil, d_cons, i_nil, i_cons, op_var, op_s, op_elem, op_tup, op_lst, op_dct, op_ap, op_apA, op_slice, op_call, op_lc, op_mut, op_ite, op_and, op_or, op_not, op_starT, op_cmpE, xF_s, xT_s, xF_var, xT_var, x_elem, x_tup, x_lst, x_dct, x_ap, x_apA, x_slice, x_call, x_lc, x_mut, x_ite, x_and, x_or, xT_not, xF_not, x_no, x_starT, x_upd, x_cmpE, sS_var, sS_int, sS_bl, sS_non, sS_str, sS_ap1, sS_ap2, sS_chain, sS_not, sS_and, sS_or, sS_ite, sT_var, sT_int, sT_bl, sT_ap1, sT_ap2, sT_chain, sT_not, sT_and, sT_or, sT_ite, sSs_nil, sSs_cons, sSo_none, sSo_some, z_asT, z_ok, z_okr, z_some, z_stop, z_bind, z_map, z_st, z_as, z_str, z_asr, z_opk, z_ops, z_opb, z_v0, z_v1, z_v2, z_o0, z_o1, z_o2, z_m0, z_m1, z_bl, z_bls, z_blb, z_f1, z_f2, z_a1, z_a2, z_i1, z_i2, z_p0, z_mb, z_bb, z_mm]
  simp (config := {implicitDefEqProofs := false}) only [fn2_F, get1_F, slot_F, set_eq, f_get, f_eq, f_ne, f_in, f_notin, f_add, f_sub, f_lt, f_le, f_gt, f_ge]
  rfl⟩
noncomputable def F_is_steady : Fun0 := ⟨hide Sh_is_steady.1, b_is_steady⟩
theorem sem_is_steady : F_is_steady.sem = Sh_is_steady.1 := hide_eq _
theorem br_is_steady : F_is_steady.br = b_is_steady := rfl
noncomputable def C_roads_to : List Fun0 := [F_joins, F_outs, F_settle, F_settled, F_firings, F_is_steady]
noncomputable def Sh_roads_to : Sh C_roads_to d_roads_to b_roads_to := ⟨_, by
  simp (config := {implicitDefEqProofs := false}) only [d_roads_to, b_roads_to, v, V, run_eq, ms_nil, ms_cons, m_asg, m_asgs, m_ex, m_ifs, m_whl, m_for, m_ret, m_retv, m_retN, m_brk, m_cont, m_pass, m_no, b_name, b_tup, b_st1, b_st2, o_nil, o_cons, s_nil, s_cons, d_nil, d_cons, i_nil, i_cons, op_var, op_s, op_elem, op_tup, op_lst, op_dct, op_ap, op_apA, op_slice, op_call, op_lc, op_mut, op_ite, op_and, op_or, op_not, op_starT, op_cmpE, xF_s, xT_s, xF_var, xT_var, x_elem, x_tup, x_lst, x_dct, x_ap, x_apA, x_slice, x_call, x_lc, x_mut, x_ite, x_and, x_or, xT_not, xF_not, x_no, x_starT, x_upd, x_cmpE, sS_var, sS_int, sS_bl, sS_non, sS_str, sS_ap1, sS_ap2, sS_chain, sS_not, sS_and, sS_or, sS_ite, sT_var, sT_int, sT_bl, sT_ap1, sT_ap2, sT_chain, sT_not, sT_and, sT_or, sT_ite, sSs_nil, sSs_cons, sSo_none, sSo_some, z_asT, z_ok, z_okr, z_some, z_stop, z_bind, z_map, z_st, z_as, z_str, z_asr, z_opk, z_ops, z_opb, z_v0, z_v1, z_v2, z_o0, z_o1, z_o2, z_m0, z_m1, z_bl, z_bls, z_blb, z_f1, z_f2, z_a1, z_a2, z_i1, z_i2, z_p0, z_mb, z_bb, z_mm]
  simp (config := {implicitDefEqProofs := false}) only [fn2_F, get1_F, slot_F, set_eq, f_get, f_eq, f_ne, f_in, f_notin, f_add, f_sub, f_lt, f_le, f_gt, f_ge]
  rfl⟩
noncomputable def F_roads_to : Fun0 := ⟨hide Sh_roads_to.1, b_roads_to⟩
theorem sem_roads_to : F_roads_to.sem = Sh_roads_to.1 := hide_eq _
theorem br_roads_to : F_roads_to.br = b_roads_to := rfl
noncomputable def C_burnt : List Fun0 := [F_joins, F_outs, F_settle, F_settled, F_firings, F_is_steady, F_roads_to]
noncomputable def Sh_burnt : Sh C_burnt d_burnt b_burnt := ⟨_, by
  simp (config := {implicitDefEqProofs := false}) only [d_burnt, b_burnt, v, V, run_eq, ms_nil, ms_cons, m_asg, m_asgs, m_ex, m_ifs, m_whl, m_for, m_ret, m_retv, m_retN, m_brk, m_cont, m_pass, m_no, b_name, b_tup, b_st1, b_st2, o_nil, o_cons, s_nil, s_cons, d_nil, d_cons, i_nil, i_cons, op_var, op_s, op_elem, op_tup, op_lst, op_dct, op_ap, op_apA, op_slice, op_call, op_lc, op_mut, op_ite, op_and, op_or, op_not, op_starT, op_cmpE, xF_s, xT_s, xF_var, xT_var, x_elem, x_tup, x_lst, x_dct, x_ap, x_apA, x_slice, x_call, x_lc, x_mut, x_ite, x_and, x_or, xT_not, xF_not, x_no, x_starT, x_upd, x_cmpE, sS_var, sS_int, sS_bl, sS_non, sS_str, sS_ap1, sS_ap2, sS_chain, sS_not, sS_and, sS_or, sS_ite, sT_var, sT_int, sT_bl, sT_ap1, sT_ap2, sT_chain, sT_not, sT_and, sT_or, sT_ite, sSs_nil, sSs_cons, sSo_none, sSo_some, z_asT, z_ok, z_okr, z_some, z_stop, z_bind, z_map, z_st, z_as, z_str, z_asr, z_opk, z_ops, z_opb, z_v0, z_v1, z_v2, z_o0, z_o1, z_o2, z_m0, z_m1, z_bl, z_bls, z_blb, z_f1, z_f2, z_a1, z_a2, z_i1, z_i2, z_p0, z_mb, z_bb, z_mm]
  simp (config := {implicitDefEqProofs := false}) only [fn2_F, get1_F, slot_F, set_eq, f_get, f_eq, f_ne, f_in, f_notin, f_add, f_sub, f_lt, f_le, f_gt, f_ge]
  rfl⟩
noncomputable def F_burnt : Fun0 := ⟨hide Sh_burnt.1, b_burnt⟩
theorem sem_burnt : F_burnt.sem = Sh_burnt.1 := hide_eq _
theorem br_burnt : F_burnt.br = b_burnt := rfl
noncomputable def C_comes_again : List Fun0 := [F_joins, F_outs, F_settle, F_settled, F_firings, F_is_steady, F_roads_to, F_burnt]
noncomputable def Sh_comes_again : Sh C_comes_again d_comes_again b_comes_again := ⟨_, by
  simp (config := {implicitDefEqProofs := false}) only [d_comes_again, b_comes_again, v, V, run_eq, ms_nil, ms_cons, m_asg, m_asgs, m_ex, m_ifs, m_whl, m_for, m_ret, m_retv, m_retN, m_brk, m_cont, m_pass, m_no, b_name, b_tup, b_st1, b_st2, o_nil, o_cons, s_nil, s_cons, d_nil, d_cons, i_nil, i_cons, op_var, op_s, op_elem, op_tup, op_lst, op_dct, op_ap, op_apA, op_slice, op_call, op_lc, op_mut, op_ite, op_and, op_or, op_not, op_starT, op_cmpE, xF_s, xT_s, xF_var, xT_var, x_elem, x_tup, x_lst, x_dct, x_ap, x_apA, x_slice, x_call, x_lc, x_mut, x_ite, x_and, x_or, xT_not, xF_not, x_no, x_starT, x_upd, x_cmpE, sS_var, sS_int, sS_bl, sS_non, sS_str, sS_ap1, sS_ap2, sS_chain, sS_not, sS_and, sS_or, sS_ite, sT_var, sT_int, sT_bl, sT_ap1, sT_ap2, sT_chain, sT_not, sT_and, sT_or, sT_ite, sSs_nil, sSs_cons, sSo_none, sSo_some, z_asT, z_ok, z_okr, z_some, z_stop, z_bind, z_map, z_st, z_as, z_str, z_asr, z_opk, z_ops, z_opb, z_v0, z_v1, z_v2, z_o0, z_o1, z_o2, z_m0, z_m1, z_bl, z_bls, z_blb, z_f1, z_f2, z_a1, z_a2, z_i1, z_i2, z_p0, z_mb, z_bb, z_mm]
  simp (config := {implicitDefEqProofs := false}) only [fn2_F, get1_F, slot_F, set_eq, f_get, f_eq, f_ne, f_in, f_notin, f_add, f_sub, f_lt, f_le, f_gt, f_ge]
  rfl⟩
noncomputable def F_comes_again : Fun0 := ⟨hide Sh_comes_again.1, b_comes_again⟩
theorem sem_comes_again : F_comes_again.sem = Sh_comes_again.1 := hide_eq _
theorem br_comes_again : F_comes_again.br = b_comes_again := rfl
noncomputable def C_is_least_pile : List Fun0 := [F_joins, F_outs, F_settle, F_settled, F_firings, F_is_steady, F_roads_to, F_burnt, F_comes_again]
noncomputable def Sh_is_least_pile : Sh C_is_least_pile d_is_least_pile b_is_least_pile := ⟨_, by
  simp (config := {implicitDefEqProofs := false}) only [d_is_least_pile, b_is_least_pile, v, V, run_eq, ms_nil, ms_cons, m_asg, m_asgs, m_ex, m_ifs, m_whl, m_for, m_ret, m_retv, m_retN, m_brk, m_cont, m_pass, m_no, b_name, b_tup, b_st1, b_st2, o_nil, o_cons, s_nil, s_cons, d_nil, d_cons, i_nil, i_cons, op_var, op_s, op_elem, op_tup, op_lst, op_dct, op_ap, op_apA, op_slice, op_call, op_lc, op_mut, op_ite, op_and, op_or, op_not, op_starT, op_cmpE, xF_s, xT_s, xF_var, xT_var, x_elem, x_tup, x_lst, x_dct, x_ap, x_apA, x_slice, x_call, x_lc, x_mut, x_ite, x_and, x_or, xT_not, xF_not, x_no, x_starT, x_upd, x_cmpE, sS_var, sS_int, sS_bl, sS_non, sS_str, sS_ap1, sS_ap2, sS_chain, sS_not, sS_and, sS_or, sS_ite, sT_var, sT_int, sT_bl, sT_ap1, sT_ap2, sT_chain, sT_not, sT_and, sT_or, sT_ite, sSs_nil, sSs_cons, sSo_none, sSo_some, z_asT, z_ok, z_okr, z_some, z_stop, z_bind, z_map, z_st, z_as, z_str, z_asr, z_opk, z_ops, z_opb, z_v0, z_v1, z_v2, z_o0, z_o1, z_o2, z_m0, z_m1, z_bl, z_bls, z_blb, z_f1, z_f2, z_a1, z_a2, z_i1, z_i2, z_p0, z_mb, z_bb, z_mm]
  simp (config := {implicitDefEqProofs := false}) only [fn2_F, get1_F, slot_F, set_eq, f_get, f_eq, f_ne, f_in, f_notin, f_add, f_sub, f_lt, f_le, f_gt, f_ge]
  rfl⟩
noncomputable def F_is_least_pile : Fun0 := ⟨hide Sh_is_least_pile.1, b_is_least_pile⟩
theorem sem_is_least_pile : F_is_least_pile.sem = Sh_is_least_pile.1 := hide_eq _
theorem br_is_least_pile : F_is_least_pile.br = b_is_least_pile := rfl
noncomputable def C__law_source : List Fun0 := [F_joins, F_outs, F_settle, F_settled, F_firings, F_is_steady, F_roads_to, F_burnt, F_comes_again, F_is_least_pile]
noncomputable def Sh__law_source : Sh C__law_source d__law_source b__law_source := ⟨_, by
  simp (config := {implicitDefEqProofs := false}) only [d__law_source, b__law_source, v, V, run_eq, ms_nil, ms_cons, m_asg, m_asgs, m_ex, m_ifs, m_whl, m_for, m_ret, m_retv, m_retN, m_brk, m_cont, m_pass, m_no, b_name, b_tup, b_st1, b_st2, o_nil, o_cons, s_nil, s_cons, d_nil, d_cons, i_nil, i_cons, op_var, op_s, op_elem, op_tup, op_lst, op_dct, op_ap, op_apA, op_slice, op_call, op_lc, op_mut, op_ite, op_and, op_or, op_not, op_starT, op_cmpE, xF_s, xT_s, xF_var, xT_var, x_elem, x_tup, x_lst, x_dct, x_ap, x_apA, x_slice, x_call, x_lc, x_mut, x_ite, x_and, x_or, xT_not, xF_not, x_no, x_starT, x_upd, x_cmpE, sS_var, sS_int, sS_bl, sS_non, sS_str, sS_ap1, sS_ap2, sS_chain, sS_not, sS_and, sS_or, sS_ite, sT_var, sT_int, sT_bl, sT_ap1, sT_ap2, sT_chain, sT_not, sT_and, sT_or, sT_ite, sSs_nil, sSs_cons, sSo_none, sSo_some, z_asT, z_ok, z_okr, z_some, z_stop, z_bind, z_map, z_st, z_as, z_str, z_asr, z_opk, z_ops, z_opb, z_v0, z_v1, z_v2, z_o0, z_o1, z_o2, z_m0, z_m1, z_bl, z_bls, z_blb, z_f1, z_f2, z_a1, z_a2, z_i1, z_i2, z_p0, z_mb, z_bb, z_mm]
  simp (config := {implicitDefEqProofs := false}) only [fn2_F, get1_F, slot_F, set_eq, f_get, f_eq, f_ne, f_in, f_notin, f_add, f_sub, f_lt, f_le, f_gt, f_ge]
  rfl⟩
noncomputable def F__law_source : Fun0 := ⟨hide Sh__law_source.1, b__law_source⟩
theorem sem__law_source : F__law_source.sem = Sh__law_source.1 := hide_eq _
theorem br__law_source : F__law_source.br = b__law_source := rfl
noncomputable def C__law_pick : List Fun0 := [F_joins, F_outs, F_settle, F_settled, F_firings, F_is_steady, F_roads_to, F_burnt, F_comes_again, F_is_least_pile, F__law_source]
noncomputable def Sh__law_pick : Sh C__law_pick d__law_pick b__law_pick := ⟨_, by
  simp (config := {implicitDefEqProofs := false}) only [d__law_pick, b__law_pick, v, V, run_eq, ms_nil, ms_cons, m_asg, m_asgs, m_ex, m_ifs, m_whl, m_for, m_ret, m_retv, m_retN, m_brk, m_cont, m_pass, m_no, b_name, b_tup, b_st1, b_st2, o_nil, o_cons, s_nil, s_cons, d_nil, d_cons, i_nil, i_cons, op_var, op_s, op_elem, op_tup, op_lst, op_dct, op_ap, op_apA, op_slice, op_call, op_lc, op_mut, op_ite, op_and, op_or, op_not, op_starT, op_cmpE, xF_s, xT_s, xF_var, xT_var, x_elem, x_tup, x_lst, x_dct, x_ap, x_apA, x_slice, x_call, x_lc, x_mut, x_ite, x_and, x_or, xT_not, xF_not, x_no, x_starT, x_upd, x_cmpE, sS_var, sS_int, sS_bl, sS_non, sS_str, sS_ap1, sS_ap2, sS_chain, sS_not, sS_and, sS_or, sS_ite, sT_var, sT_int, sT_bl, sT_ap1, sT_ap2, sT_chain, sT_not, sT_and, sT_or, sT_ite, sSs_nil, sSs_cons, sSo_none, sSo_some, z_asT, z_ok, z_okr, z_some, z_stop, z_bind, z_map, z_st, z_as, z_str, z_asr, z_opk, z_ops, z_opb, z_v0, z_v1, z_v2, z_o0, z_o1, z_o2, z_m0, z_m1, z_bl, z_bls, z_blb, z_f1, z_f2, z_a1, z_a2, z_i1, z_i2, z_p0, z_mb, z_bb, z_mm]
  simp (config := {implicitDefEqProofs := false}) only [fn2_F, get1_F, slot_F, set_eq, f_get, f_eq, f_ne, f_in, f_notin, f_add, f_sub, f_lt, f_le, f_gt, f_ge]
  rfl⟩
noncomputable def F__law_pick : Fun0 := ⟨hide Sh__law_pick.1, b__law_pick⟩
theorem sem__law_pick : F__law_pick.sem = Sh__law_pick.1 := hide_eq _
theorem br__law_pick : F__law_pick.br = b__law_pick := rfl
noncomputable def C__law_of : List Fun0 := [F_joins, F_outs, F_settle, F_settled, F_firings, F_is_steady, F_roads_to, F_burnt, F_comes_again, F_is_least_pile, F__law_source, F__law_pick]
noncomputable def Sh__law_of : Sh C__law_of d__law_of b__law_of := ⟨_, by
  simp (config := {implicitDefEqProofs := false}) only [d__law_of, b__law_of, v, V, run_eq, ms_nil, ms_cons, m_asg, m_asgs, m_ex, m_ifs, m_whl, m_for, m_ret, m_retv, m_retN, m_brk, m_cont, m_pass, m_no, b_name, b_tup, b_st1, b_st2, o_nil, o_cons, s_nil, s_cons, d_nil, d_cons, i_nil, i_cons, op_var, op_s, op_elem, op_tup, op_lst, op_dct, op_ap, op_apA, op_slice, op_call, op_lc, op_mut, op_ite, op_and, op_or, op_not, op_starT, op_cmpE, xF_s, xT_s, xF_var, xT_var, x_elem, x_tup, x_lst, x_dct, x_ap, x_apA, x_slice, x_call, x_lc, x_mut, x_ite, x_and, x_or, xT_not, xF_not, x_no, x_starT, x_upd, x_cmpE, sS_var, sS_int, sS_bl, sS_non, sS_str, sS_ap1, sS_ap2, sS_chain, sS_not, sS_and, sS_or, sS_ite, sT_var, sT_int, sT_bl, sT_ap1, sT_ap2, sT_chain, sT_not, sT_and, sT_or, sT_ite, sSs_nil, sSs_cons, sSo_none, sSo_some, z_asT, z_ok, z_okr, z_some, z_stop, z_bind, z_map, z_st, z_as, z_str, z_asr, z_opk, z_ops, z_opb, z_v0, z_v1, z_v2, z_o0, z_o1, z_o2, z_m0, z_m1, z_bl, z_bls, z_blb, z_f1, z_f2, z_a1, z_a2, z_i1, z_i2, z_p0, z_mb, z_bb, z_mm]
  simp (config := {implicitDefEqProofs := false}) only [fn2_F, get1_F, slot_F, set_eq, f_get, f_eq, f_ne, f_in, f_notin, f_add, f_sub, f_lt, f_le, f_gt, f_ge]
  rfl⟩
noncomputable def F__law_of : Fun0 := ⟨hide Sh__law_of.1, b__law_of⟩
theorem sem__law_of : F__law_of.sem = Sh__law_of.1 := hide_eq _
theorem br__law_of : F__law_of.br = b__law_of := rfl
noncomputable def C__law_mixed : List Fun0 := [F_joins, F_outs, F_settle, F_settled, F_firings, F_is_steady, F_roads_to, F_burnt, F_comes_again, F_is_least_pile, F__law_source, F__law_pick, F__law_of]
noncomputable def Sh__law_mixed : Sh C__law_mixed d__law_mixed b__law_mixed := ⟨_, by
  simp (config := {implicitDefEqProofs := false}) only [d__law_mixed, b__law_mixed, v, V, run_eq, ms_nil, ms_cons, m_asg, m_asgs, m_ex, m_ifs, m_whl, m_for, m_ret, m_retv, m_retN, m_brk, m_cont, m_pass, m_no, b_name, b_tup, b_st1, b_st2, o_nil, o_cons, s_nil, s_cons, d_nil, d_cons, i_nil, i_cons, op_var, op_s, op_elem, op_tup, op_lst, op_dct, op_ap, op_apA, op_slice, op_call, op_lc, op_mut, op_ite, op_and, op_or, op_not, op_starT, op_cmpE, xF_s, xT_s, xF_var, xT_var, x_elem, x_tup, x_lst, x_dct, x_ap, x_apA, x_slice, x_call, x_lc, x_mut, x_ite, x_and, x_or, xT_not, xF_not, x_no, x_starT, x_upd, x_cmpE, sS_var, sS_int, sS_bl, sS_non, sS_str, sS_ap1, sS_ap2, sS_chain, sS_not, sS_and, sS_or, sS_ite, sT_var, sT_int, sT_bl, sT_ap1, sT_ap2, sT_chain, sT_not, sT_and, sT_or, sT_ite, sSs_nil, sSs_cons, sSo_none, sSo_some, z_asT, z_ok, z_okr, z_some, z_stop, z_bind, z_map, z_st, z_as, z_str, z_asr, z_opk, z_ops, z_opb, z_v0, z_v1, z_v2, z_o0, z_o1, z_o2, z_m0, z_m1, z_bl, z_bls, z_blb, z_f1, z_f2, z_a1, z_a2, z_i1, z_i2, z_p0, z_mb, z_bb, z_mm]
  simp (config := {implicitDefEqProofs := false}) only [fn2_F, get1_F, slot_F, set_eq, f_get, f_eq, f_ne, f_in, f_notin, f_add, f_sub, f_lt, f_le, f_gt, f_ge]
  rfl⟩
noncomputable def F__law_mixed : Fun0 := ⟨hide Sh__law_mixed.1, b__law_mixed⟩
theorem sem__law_mixed : F__law_mixed.sem = Sh__law_mixed.1 := hide_eq _
theorem br__law_mixed : F__law_mixed.br = b__law_mixed := rfl
noncomputable def C__law_other : List Fun0 := [F_joins, F_outs, F_settle, F_settled, F_firings, F_is_steady, F_roads_to, F_burnt, F_comes_again, F_is_least_pile, F__law_source, F__law_pick, F__law_of, F__law_mixed]
noncomputable def Sh__law_other : Sh C__law_other d__law_other b__law_other := ⟨_, by
  simp (config := {implicitDefEqProofs := false}) only [d__law_other, b__law_other, v, V, run_eq, ms_nil, ms_cons, m_asg, m_asgs, m_ex, m_ifs, m_whl, m_for, m_ret, m_retv, m_retN, m_brk, m_cont, m_pass, m_no, b_name, b_tup, b_st1, b_st2, o_nil, o_cons, s_nil, s_cons, d_nil, d_cons, i_nil, i_cons, op_var, op_s, op_elem, op_tup, op_lst, op_dct, op_ap, op_apA, op_slice, op_call, op_lc, op_mut, op_ite, op_and, op_or, op_not, op_starT, op_cmpE, xF_s, xT_s, xF_var, xT_var, x_elem, x_tup, x_lst, x_dct, x_ap, x_apA, x_slice, x_call, x_lc, x_mut, x_ite, x_and, x_or, xT_not, xF_not, x_no, x_starT, x_upd, x_cmpE, sS_var, sS_int, sS_bl, sS_non, sS_str, sS_ap1, sS_ap2, sS_chain, sS_not, sS_and, sS_or, sS_ite, sT_var, sT_int, sT_bl, sT_ap1, sT_ap2, sT_chain, sT_not, sT_and, sT_or, sT_ite, sSs_nil, sSs_cons, sSo_none, sSo_some, z_asT, z_ok, z_okr, z_some, z_stop, z_bind, z_map, z_st, z_as, z_str, z_asr, z_opk, z_ops, z_opb, z_v0, z_v1, z_v2, z_o0, z_o1, z_o2, z_m0, z_m1, z_bl, z_bls, z_blb, z_f1, z_f2, z_a1, z_a2, z_i1, z_i2, z_p0, z_mb, z_bb, z_mm]
  simp (config := {implicitDefEqProofs := false}) only [fn2_F, get1_F, slot_F, set_eq, f_get, f_eq, f_ne, f_in, f_notin, f_add, f_sub, f_lt, f_le, f_gt, f_ge]
  rfl⟩
noncomputable def F__law_other : Fun0 := ⟨hide Sh__law_other.1, b__law_other⟩
theorem sem__law_other : F__law_other.sem = Sh__law_other.1 := hide_eq _
theorem br__law_other : F__law_other.br = b__law_other := rfl
noncomputable def C__law_nexts : List Fun0 := [F_joins, F_outs, F_settle, F_settled, F_firings, F_is_steady, F_roads_to, F_burnt, F_comes_again, F_is_least_pile, F__law_source, F__law_pick, F__law_of, F__law_mixed, F__law_other]
noncomputable def Sh__law_nexts : Sh C__law_nexts d__law_nexts b__law_nexts := ⟨_, by
  simp (config := {implicitDefEqProofs := false}) only [d__law_nexts, b__law_nexts, v, V, run_eq, ms_nil, ms_cons, m_asg, m_asgs, m_ex, m_ifs, m_whl, m_for, m_ret, m_retv, m_retN, m_brk, m_cont, m_pass, m_no, b_name, b_tup, b_st1, b_st2, o_nil, o_cons, s_nil, s_cons, d_nil, d_cons, i_nil, i_cons, op_var, op_s, op_elem, op_tup, op_lst, op_dct, op_ap, op_apA, op_slice, op_call, op_lc, op_mut, op_ite, op_and, op_or, op_not, op_starT, op_cmpE, xF_s, xT_s, xF_var, xT_var, x_elem, x_tup, x_lst, x_dct, x_ap, x_apA, x_slice, x_call, x_lc, x_mut, x_ite, x_and, x_or, xT_not, xF_not, x_no, x_starT, x_upd, x_cmpE, sS_var, sS_int, sS_bl, sS_non, sS_str, sS_ap1, sS_ap2, sS_chain, sS_not, sS_and, sS_or, sS_ite, sT_var, sT_int, sT_bl, sT_ap1, sT_ap2, sT_chain, sT_not, sT_and, sT_or, sT_ite, sSs_nil, sSs_cons, sSo_none, sSo_some, z_asT, z_ok, z_okr, z_some, z_stop, z_bind, z_map, z_st, z_as, z_str, z_asr, z_opk, z_ops, z_opb, z_v0, z_v1, z_v2, z_o0, z_o1, z_o2, z_m0, z_m1, z_bl, z_bls, z_blb, z_f1, z_f2, z_a1, z_a2, z_i1, z_i2, z_p0, z_mb, z_bb, z_mm]
  simp (config := {implicitDefEqProofs := false}) only [fn2_F, get1_F, slot_F, set_eq, f_get, f_eq, f_ne, f_in, f_notin, f_add, f_sub, f_lt, f_le, f_gt, f_ge]
  rfl⟩
noncomputable def F__law_nexts : Fun0 := ⟨hide Sh__law_nexts.1, b__law_nexts⟩
theorem sem__law_nexts : F__law_nexts.sem = Sh__law_nexts.1 := hide_eq _
theorem br__law_nexts : F__law_nexts.br = b__law_nexts := rfl
noncomputable def C__law_spots : List Fun0 := [F_joins, F_outs, F_settle, F_settled, F_firings, F_is_steady, F_roads_to, F_burnt, F_comes_again, F_is_least_pile, F__law_source, F__law_pick, F__law_of, F__law_mixed, F__law_other, F__law_nexts]
noncomputable def Sh__law_spots : Sh C__law_spots d__law_spots b__law_spots := ⟨_, by
  simp (config := {implicitDefEqProofs := false}) only [d__law_spots, b__law_spots, v, V, run_eq, ms_nil, ms_cons, m_asg, m_asgs, m_ex, m_ifs, m_whl, m_for, m_ret, m_retv, m_retN, m_brk, m_cont, m_pass, m_no, b_name, b_tup, b_st1, b_st2, o_nil, o_cons, s_nil, s_cons, d_nil, d_cons, i_nil, i_cons, op_var, op_s, op_elem, op_tup, op_lst, op_dct, op_ap, op_apA, op_slice, op_call, op_lc, op_mut, op_ite, op_and, op_or, op_not, op_starT, op_cmpE, xF_s, xT_s, xF_var, xT_var, x_elem, x_tup, x_lst, x_dct, x_ap, x_apA, x_slice, x_call, x_lc, x_mut, x_ite, x_and, x_or, xT_not, xF_not, x_no, x_starT, x_upd, x_cmpE, sS_var, sS_int, sS_bl, sS_non, sS_str, sS_ap1, sS_ap2, sS_chain, sS_not, sS_and, sS_or, sS_ite, sT_var, sT_int, sT_bl, sT_ap1, sT_ap2, sT_chain, sT_not, sT_and, sT_or, sT_ite, sSs_nil, sSs_cons, sSo_none, sSo_some, z_asT, z_ok, z_okr, z_some, z_stop, z_bind, z_map, z_st, z_as, z_str, z_asr, z_opk, z_ops, z_opb, z_v0, z_v1, z_v2, z_o0, z_o1, z_o2, z_m0, z_m1, z_bl, z_bls, z_blb, z_f1, z_f2, z_a1, z_a2, z_i1, z_i2, z_p0, z_mb, z_bb, z_mm]
  simp (config := {implicitDefEqProofs := false}) only [fn2_F, get1_F, slot_F, set_eq, f_get, f_eq, f_ne, f_in, f_notin, f_add, f_sub, f_lt, f_le, f_gt, f_ge]
  rfl⟩
noncomputable def F__law_spots : Fun0 := ⟨hide Sh__law_spots.1, b__law_spots⟩
theorem sem__law_spots : F__law_spots.sem = Sh__law_spots.1 := hide_eq _
theorem br__law_spots : F__law_spots.br = b__law_spots := rfl
noncomputable def C__law_face : List Fun0 := [F_joins, F_outs, F_settle, F_settled, F_firings, F_is_steady, F_roads_to, F_burnt, F_comes_again, F_is_least_pile, F__law_source, F__law_pick, F__law_of, F__law_mixed, F__law_other, F__law_nexts, F__law_spots]
noncomputable def Sh__law_face : Sh C__law_face d__law_face b__law_face := ⟨_, by
  simp (config := {implicitDefEqProofs := false}) only [d__law_face, b__law_face, v, V, run_eq, ms_nil, ms_cons, m_asg, m_asgs, m_ex, m_ifs, m_whl, m_for, m_ret, m_retv, m_retN, m_brk, m_cont, m_pass, m_no, b_name, b_tup, b_st1, b_st2, o_nil, o_cons, s_nil, s_cons, d_nil, d_cons, i_nil, i_cons, op_var, op_s, op_elem, op_tup, op_lst, op_dct, op_ap, op_apA, op_slice, op_call, op_lc, op_mut, op_ite, op_and, op_or, op_not, op_starT, op_cmpE, xF_s, xT_s, xF_var, xT_var, x_elem, x_tup, x_lst, x_dct, x_ap, x_apA, x_slice, x_call, x_lc, x_mut, x_ite, x_and, x_or, xT_not, xF_not, x_no, x_starT, x_upd, x_cmpE, sS_var, sS_int, sS_bl, sS_non, sS_str, sS_ap1, sS_ap2, sS_chain, sS_not, sS_and, sS_or, sS_ite, sT_var, sT_int, sT_bl, sT_ap1, sT_ap2, sT_chain, sT_not, sT_and, sT_or, sT_ite, sSs_nil, sSs_cons, sSo_none, sSo_some, z_asT, z_ok, z_okr, z_some, z_stop, z_bind, z_map, z_st, z_as, z_str, z_asr, z_opk, z_ops, z_opb, z_v0, z_v1, z_v2, z_o0, z_o1, z_o2, z_m0, z_m1, z_bl, z_bls, z_blb, z_f1, z_f2, z_a1, z_a2, z_i1, z_i2, z_p0, z_mb, z_bb, z_mm]
  simp (config := {implicitDefEqProofs := false}) only [fn2_F, get1_F, slot_F, set_eq, f_get, f_eq, f_ne, f_in, f_notin, f_add, f_sub, f_lt, f_le, f_gt, f_ge]
  rfl⟩
noncomputable def F__law_face : Fun0 := ⟨hide Sh__law_face.1, b__law_face⟩
theorem sem__law_face : F__law_face.sem = Sh__law_face.1 := hide_eq _
theorem br__law_face : F__law_face.br = b__law_face := rfl
noncomputable def C__law_grown : List Fun0 := [F_joins, F_outs, F_settle, F_settled, F_firings, F_is_steady, F_roads_to, F_burnt, F_comes_again, F_is_least_pile, F__law_source, F__law_pick, F__law_of, F__law_mixed, F__law_other, F__law_nexts, F__law_spots, F__law_face]
noncomputable def Sh__law_grown : Sh C__law_grown d__law_grown b__law_grown := ⟨_, by
  simp (config := {implicitDefEqProofs := false}) only [d__law_grown, b__law_grown, v, V, run_eq, ms_nil, ms_cons, m_asg, m_asgs, m_ex, m_ifs, m_whl, m_for, m_ret, m_retv, m_retN, m_brk, m_cont, m_pass, m_no, b_name, b_tup, b_st1, b_st2, o_nil, o_cons, s_nil, s_cons, d_nil, d_cons, i_nil, i_cons, op_var, op_s, op_elem, op_tup, op_lst, op_dct, op_ap, op_apA, op_slice, op_call, op_lc, op_mut, op_ite, op_and, op_or, op_not, op_starT, op_cmpE, xF_s, xT_s, xF_var, xT_var, x_elem, x_tup, x_lst, x_dct, x_ap, x_apA, x_slice, x_call, x_lc, x_mut, x_ite, x_and, x_or, xT_not, xF_not, x_no, x_starT, x_upd, x_cmpE, sS_var, sS_int, sS_bl, sS_non, sS_str, sS_ap1, sS_ap2, sS_chain, sS_not, sS_and, sS_or, sS_ite, sT_var, sT_int, sT_bl, sT_ap1, sT_ap2, sT_chain, sT_not, sT_and, sT_or, sT_ite, sSs_nil, sSs_cons, sSo_none, sSo_some, z_asT, z_ok, z_okr, z_some, z_stop, z_bind, z_map, z_st, z_as, z_str, z_asr, z_opk, z_ops, z_opb, z_v0, z_v1, z_v2, z_o0, z_o1, z_o2, z_m0, z_m1, z_bl, z_bls, z_blb, z_f1, z_f2, z_a1, z_a2, z_i1, z_i2, z_p0, z_mb, z_bb, z_mm]
  simp (config := {implicitDefEqProofs := false}) only [fn2_F, get1_F, slot_F, set_eq, f_get, f_eq, f_ne, f_in, f_notin, f_add, f_sub, f_lt, f_le, f_gt, f_ge]
  rfl⟩
noncomputable def F__law_grown : Fun0 := ⟨hide Sh__law_grown.1, b__law_grown⟩
theorem sem__law_grown : F__law_grown.sem = Sh__law_grown.1 := hide_eq _
theorem br__law_grown : F__law_grown.br = b__law_grown := rfl
noncomputable def C__law_renamed : List Fun0 := [F_joins, F_outs, F_settle, F_settled, F_firings, F_is_steady, F_roads_to, F_burnt, F_comes_again, F_is_least_pile, F__law_source, F__law_pick, F__law_of, F__law_mixed, F__law_other, F__law_nexts, F__law_spots, F__law_face, F__law_grown]
noncomputable def Sh__law_renamed : Sh C__law_renamed d__law_renamed b__law_renamed := ⟨_, by
  simp (config := {implicitDefEqProofs := false}) only [d__law_renamed, b__law_renamed, v, V, run_eq, ms_nil, ms_cons, m_asg, m_asgs, m_ex, m_ifs, m_whl, m_for, m_ret, m_retv, m_retN, m_brk, m_cont, m_pass, m_no, b_name, b_tup, b_st1, b_st2, o_nil, o_cons, s_nil, s_cons, d_nil, d_cons, i_nil, i_cons, op_var, op_s, op_elem, op_tup, op_lst, op_dct, op_ap, op_apA, op_slice, op_call, op_lc, op_mut, op_ite, op_and, op_or, op_not, op_starT, op_cmpE, xF_s, xT_s, xF_var, xT_var, x_elem, x_tup, x_lst, x_dct, x_ap, x_apA, x_slice, x_call, x_lc, x_mut, x_ite, x_and, x_or, xT_not, xF_not, x_no, x_starT, x_upd, x_cmpE, sS_var, sS_int, sS_bl, sS_non, sS_str, sS_ap1, sS_ap2, sS_chain, sS_not, sS_and, sS_or, sS_ite, sT_var, sT_int, sT_bl, sT_ap1, sT_ap2, sT_chain, sT_not, sT_and, sT_or, sT_ite, sSs_nil, sSs_cons, sSo_none, sSo_some, z_asT, z_ok, z_okr, z_some, z_stop, z_bind, z_map, z_st, z_as, z_str, z_asr, z_opk, z_ops, z_opb, z_v0, z_v1, z_v2, z_o0, z_o1, z_o2, z_m0, z_m1, z_bl, z_bls, z_blb, z_f1, z_f2, z_a1, z_a2, z_i1, z_i2, z_p0, z_mb, z_bb, z_mm]
  simp (config := {implicitDefEqProofs := false}) only [fn2_F, get1_F, slot_F, set_eq, f_get, f_eq, f_ne, f_in, f_notin, f_add, f_sub, f_lt, f_le, f_gt, f_ge]
  rfl⟩
noncomputable def F__law_renamed : Fun0 := ⟨hide Sh__law_renamed.1, b__law_renamed⟩
theorem sem__law_renamed : F__law_renamed.sem = Sh__law_renamed.1 := hide_eq _
theorem br__law_renamed : F__law_renamed.br = b__law_renamed := rfl
noncomputable def C__law_web : List Fun0 := [F_joins, F_outs, F_settle, F_settled, F_firings, F_is_steady, F_roads_to, F_burnt, F_comes_again, F_is_least_pile, F__law_source, F__law_pick, F__law_of, F__law_mixed, F__law_other, F__law_nexts, F__law_spots, F__law_face, F__law_grown, F__law_renamed]
noncomputable def Sh__law_web : Sh C__law_web d__law_web b__law_web := ⟨_, by
  simp (config := {implicitDefEqProofs := false}) only [d__law_web, b__law_web, v, V, run_eq, ms_nil, ms_cons, m_asg, m_asgs, m_ex, m_ifs, m_whl, m_for, m_ret, m_retv, m_retN, m_brk, m_cont, m_pass, m_no, b_name, b_tup, b_st1, b_st2, o_nil, o_cons, s_nil, s_cons, d_nil, d_cons, i_nil, i_cons, op_var, op_s, op_elem, op_tup, op_lst, op_dct, op_ap, op_apA, op_slice, op_call, op_lc, op_mut, op_ite, op_and, op_or, op_not, op_starT, op_cmpE, xF_s, xT_s, xF_var, xT_var, x_elem, x_tup, x_lst, x_dct, x_ap, x_apA, x_slice, x_call, x_lc, x_mut, x_ite, x_and, x_or, xT_not, xF_not, x_no, x_starT, x_upd, x_cmpE, sS_var, sS_int, sS_bl, sS_non, sS_str, sS_ap1, sS_ap2, sS_chain, sS_not, sS_and, sS_or, sS_ite, sT_var, sT_int, sT_bl, sT_ap1, sT_ap2, sT_chain, sT_not, sT_and, sT_or, sT_ite, sSs_nil, sSs_cons, sSo_none, sSo_some, z_asT, z_ok, z_okr, z_some, z_stop, z_bind, z_map, z_st, z_as, z_str, z_asr, z_opk, z_ops, z_opb, z_v0, z_v1, z_v2, z_o0, z_o1, z_o2, z_m0, z_m1, z_bl, z_bls, z_blb, z_f1, z_f2, z_a1, z_a2, z_i1, z_i2, z_p0, z_mb, z_bb, z_mm]
  simp (config := {implicitDefEqProofs := false}) only [fn2_F, get1_F, slot_F, set_eq, f_get, f_eq, f_ne, f_in, f_notin, f_add, f_sub, f_lt, f_le, f_gt, f_ge]
  rfl⟩
noncomputable def F__law_web : Fun0 := ⟨hide Sh__law_web.1, b__law_web⟩
theorem sem__law_web : F__law_web.sem = Sh__law_web.1 := hide_eq _
theorem br__law_web : F__law_web.br = b__law_web := rfl
noncomputable def C__law_joins : List Fun0 := [F_joins, F_outs, F_settle, F_settled, F_firings, F_is_steady, F_roads_to, F_burnt, F_comes_again, F_is_least_pile, F__law_source, F__law_pick, F__law_of, F__law_mixed, F__law_other, F__law_nexts, F__law_spots, F__law_face, F__law_grown, F__law_renamed, F__law_web]
noncomputable def Sh__law_joins : Sh C__law_joins d__law_joins b__law_joins := ⟨_, by
  simp (config := {implicitDefEqProofs := false}) only [d__law_joins, b__law_joins, v, V, run_eq, ms_nil, ms_cons, m_asg, m_asgs, m_ex, m_ifs, m_whl, m_for, m_ret, m_retv, m_retN, m_brk, m_cont, m_pass, m_no, b_name, b_tup, b_st1, b_st2, o_nil, o_cons, s_nil, s_cons, d_nil, d_cons, i_nil, i_cons, op_var, op_s, op_elem, op_tup, op_lst, op_dct, op_ap, op_apA, op_slice, op_call, op_lc, op_mut, op_ite, op_and, op_or, op_not, op_starT, op_cmpE, xF_s, xT_s, xF_var, xT_var, x_elem, x_tup, x_lst, x_dct, x_ap, x_apA, x_slice, x_call, x_lc, x_mut, x_ite, x_and, x_or, xT_not, xF_not, x_no, x_starT, x_upd, x_cmpE, sS_var, sS_int, sS_bl, sS_non, sS_str, sS_ap1, sS_ap2, sS_chain, sS_not, sS_and, sS_or, sS_ite, sT_var, sT_int, sT_bl, sT_ap1, sT_ap2, sT_chain, sT_not, sT_and, sT_or, sT_ite, sSs_nil, sSs_cons, sSo_none, sSo_some, z_asT, z_ok, z_okr, z_some, z_stop, z_bind, z_map, z_st, z_as, z_str, z_asr, z_opk, z_ops, z_opb, z_v0, z_v1, z_v2, z_o0, z_o1, z_o2, z_m0, z_m1, z_bl, z_bls, z_blb, z_f1, z_f2, z_a1, z_a2, z_i1, z_i2, z_p0, z_mb, z_bb, z_mm]
  simp (config := {implicitDefEqProofs := false}) only [fn2_F, get1_F, slot_F, set_eq, f_get, f_eq, f_ne, f_in, f_notin, f_add, f_sub, f_lt, f_le, f_gt, f_ge]
  rfl⟩
noncomputable def F__law_joins : Fun0 := ⟨hide Sh__law_joins.1, b__law_joins⟩
theorem sem__law_joins : F__law_joins.sem = Sh__law_joins.1 := hide_eq _
theorem br__law_joins : F__law_joins.br = b__law_joins := rfl
noncomputable def C__law_pile : List Fun0 := [F_joins, F_outs, F_settle, F_settled, F_firings, F_is_steady, F_roads_to, F_burnt, F_comes_again, F_is_least_pile, F__law_source, F__law_pick, F__law_of, F__law_mixed, F__law_other, F__law_nexts, F__law_spots, F__law_face, F__law_grown, F__law_renamed, F__law_web, F__law_joins]
noncomputable def Sh__law_pile : Sh C__law_pile d__law_pile b__law_pile := ⟨_, by
  simp (config := {implicitDefEqProofs := false}) only [d__law_pile, b__law_pile, v, V, run_eq, ms_nil, ms_cons, m_asg, m_asgs, m_ex, m_ifs, m_whl, m_for, m_ret, m_retv, m_retN, m_brk, m_cont, m_pass, m_no, b_name, b_tup, b_st1, b_st2, o_nil, o_cons, s_nil, s_cons, d_nil, d_cons, i_nil, i_cons, op_var, op_s, op_elem, op_tup, op_lst, op_dct, op_ap, op_apA, op_slice, op_call, op_lc, op_mut, op_ite, op_and, op_or, op_not, op_starT, op_cmpE, xF_s, xT_s, xF_var, xT_var, x_elem, x_tup, x_lst, x_dct, x_ap, x_apA, x_slice, x_call, x_lc, x_mut, x_ite, x_and, x_or, xT_not, xF_not, x_no, x_starT, x_upd, x_cmpE, sS_var, sS_int, sS_bl, sS_non, sS_str, sS_ap1, sS_ap2, sS_chain, sS_not, sS_and, sS_or, sS_ite, sT_var, sT_int, sT_bl, sT_ap1, sT_ap2, sT_chain, sT_not, sT_and, sT_or, sT_ite, sSs_nil, sSs_cons, sSo_none, sSo_some, z_asT, z_ok, z_okr, z_some, z_stop, z_bind, z_map, z_st, z_as, z_str, z_asr, z_opk, z_ops, z_opb, z_v0, z_v1, z_v2, z_o0, z_o1, z_o2, z_m0, z_m1, z_bl, z_bls, z_blb, z_f1, z_f2, z_a1, z_a2, z_i1, z_i2, z_p0, z_mb, z_bb, z_mm]
  simp (config := {implicitDefEqProofs := false}) only [fn2_F, get1_F, slot_F, set_eq, f_get, f_eq, f_ne, f_in, f_notin, f_add, f_sub, f_lt, f_le, f_gt, f_ge]
  rfl⟩
noncomputable def F__law_pile : Fun0 := ⟨hide Sh__law_pile.1, b__law_pile⟩
theorem sem__law_pile : F__law_pile.sem = Sh__law_pile.1 := hide_eq _
theorem br__law_pile : F__law_pile.br = b__law_pile := rfl
noncomputable def C__law_is_least : List Fun0 := [F_joins, F_outs, F_settle, F_settled, F_firings, F_is_steady, F_roads_to, F_burnt, F_comes_again, F_is_least_pile, F__law_source, F__law_pick, F__law_of, F__law_mixed, F__law_other, F__law_nexts, F__law_spots, F__law_face, F__law_grown, F__law_renamed, F__law_web, F__law_joins, F__law_pile]
noncomputable def Sh__law_is_least : Sh C__law_is_least d__law_is_least b__law_is_least := ⟨_, by
  simp (config := {implicitDefEqProofs := false}) only [d__law_is_least, b__law_is_least, v, V, run_eq, ms_nil, ms_cons, m_asg, m_asgs, m_ex, m_ifs, m_whl, m_for, m_ret, m_retv, m_retN, m_brk, m_cont, m_pass, m_no, b_name, b_tup, b_st1, b_st2, o_nil, o_cons, s_nil, s_cons, d_nil, d_cons, i_nil, i_cons, op_var, op_s, op_elem, op_tup, op_lst, op_dct, op_ap, op_apA, op_slice, op_call, op_lc, op_mut, op_ite, op_and, op_or, op_not, op_starT, op_cmpE, xF_s, xT_s, xF_var, xT_var, x_elem, x_tup, x_lst, x_dct, x_ap, x_apA, x_slice, x_call, x_lc, x_mut, x_ite, x_and, x_or, xT_not, xF_not, x_no, x_starT, x_upd, x_cmpE, sS_var, sS_int, sS_bl, sS_non, sS_str, sS_ap1, sS_ap2, sS_chain, sS_not, sS_and, sS_or, sS_ite, sT_var, sT_int, sT_bl, sT_ap1, sT_ap2, sT_chain, sT_not, sT_and, sT_or, sT_ite, sSs_nil, sSs_cons, sSo_none, sSo_some, z_asT, z_ok, z_okr, z_some, z_stop, z_bind, z_map, z_st, z_as, z_str, z_asr, z_opk, z_ops, z_opb, z_v0, z_v1, z_v2, z_o0, z_o1, z_o2, z_m0, z_m1, z_bl, z_bls, z_blb, z_f1, z_f2, z_a1, z_a2, z_i1, z_i2, z_p0, z_mb, z_bb, z_mm]
  simp (config := {implicitDefEqProofs := false}) only [fn2_F, get1_F, slot_F, set_eq, f_get, f_eq, f_ne, f_in, f_notin, f_add, f_sub, f_lt, f_le, f_gt, f_ge]
  rfl⟩
noncomputable def F__law_is_least : Fun0 := ⟨hide Sh__law_is_least.1, b__law_is_least⟩
theorem sem__law_is_least : F__law_is_least.sem = Sh__law_is_least.1 := hide_eq _
theorem br__law_is_least : F__law_is_least.br = b__law_is_least := rfl
noncomputable def C_law : List Fun0 := [F_joins, F_outs, F_settle, F_settled, F_firings, F_is_steady, F_roads_to, F_burnt, F_comes_again, F_is_least_pile, F__law_source, F__law_pick, F__law_of, F__law_mixed, F__law_other, F__law_nexts, F__law_spots, F__law_face, F__law_grown, F__law_renamed, F__law_web, F__law_joins, F__law_pile, F__law_is_least]
noncomputable def Sh_law : Sh C_law d_law b_law := ⟨_, by
  simp (config := {implicitDefEqProofs := false}) only [d_law, b_law, v, V, run_eq, ms_nil, ms_cons, m_asg, m_asgs, m_ex, m_ifs, m_whl, m_for, m_ret, m_retv, m_retN, m_brk, m_cont, m_pass, m_no, b_name, b_tup, b_st1, b_st2, o_nil, o_cons, s_nil, s_cons, d_nil, d_cons, i_nil, i_cons, op_var, op_s, op_elem, op_tup, op_lst, op_dct, op_ap, op_apA, op_slice, op_call, op_lc, op_mut, op_ite, op_and, op_or, op_not, op_starT, op_cmpE, xF_s, xT_s, xF_var, xT_var, x_elem, x_tup, x_lst, x_dct, x_ap, x_apA, x_slice, x_call, x_lc, x_mut, x_ite, x_and, x_or, xT_not, xF_not, x_no, x_starT, x_upd, x_cmpE, sS_var, sS_int, sS_bl, sS_non, sS_str, sS_ap1, sS_ap2, sS_chain, sS_not, sS_and, sS_or, sS_ite, sT_var, sT_int, sT_bl, sT_ap1, sT_ap2, sT_chain, sT_not, sT_and, sT_or, sT_ite, sSs_nil, sSs_cons, sSo_none, sSo_some, z_asT, z_ok, z_okr, z_some, z_stop, z_bind, z_map, z_st, z_as, z_str, z_asr, z_opk, z_ops, z_opb, z_v0, z_v1, z_v2, z_o0, z_o1, z_o2, z_m0, z_m1, z_bl, z_bls, z_blb, z_f1, z_f2, z_a1, z_a2, z_i1, z_i2, z_p0, z_mb, z_bb, z_mm]
  simp (config := {implicitDefEqProofs := false}) only [fn2_F, get1_F, slot_F, set_eq, f_get, f_eq, f_ne, f_in, f_notin, f_add, f_sub, f_lt, f_le, f_gt, f_ge]
  rfl⟩
noncomputable def F_law : Fun0 := ⟨hide Sh_law.1, b_law⟩
theorem sem_law : F_law.sem = Sh_law.1 := hide_eq _
theorem br_law : F_law.br = b_law := rfl
noncomputable def CA : List Fun0 := [F_joins, F_outs, F_settle, F_settled, F_firings, F_is_steady, F_roads_to, F_burnt, F_comes_again, F_is_least_pile, F__law_source, F__law_pick, F__law_of, F__law_mixed, F__law_other, F__law_nexts, F__law_spots, F__law_face, F__law_grown, F__law_renamed, F__law_web, F__law_joins, F__law_pile, F__law_is_least, F_law]
theorem CC0 : mkC KK par (defs.take 0) [] = [] := rfl
theorem CC1 : mkC KK par (defs.take 1) [] = [F_joins] := mkC_next (xs := defs.take 0) CC0 (Sh_joins.2.trans (hide_eq _).symm)
theorem CC2 : mkC KK par (defs.take 2) [] = [F_joins, F_outs] := mkC_next (xs := defs.take 1) CC1 (Sh_outs.2.trans (hide_eq _).symm)
theorem CC3 : mkC KK par (defs.take 3) [] = [F_joins, F_outs, F_settle] := mkC_next (xs := defs.take 2) CC2 (Sh_settle.2.trans (hide_eq _).symm)
theorem CC4 : mkC KK par (defs.take 4) [] = [F_joins, F_outs, F_settle, F_settled] := mkC_next (xs := defs.take 3) CC3 (Sh_settled.2.trans (hide_eq _).symm)
theorem CC5 : mkC KK par (defs.take 5) [] = [F_joins, F_outs, F_settle, F_settled, F_firings] := mkC_next (xs := defs.take 4) CC4 (Sh_firings.2.trans (hide_eq _).symm)
theorem CC6 : mkC KK par (defs.take 6) [] = [F_joins, F_outs, F_settle, F_settled, F_firings, F_is_steady] := mkC_next (xs := defs.take 5) CC5 (Sh_is_steady.2.trans (hide_eq _).symm)
theorem CC7 : mkC KK par (defs.take 7) [] = [F_joins, F_outs, F_settle, F_settled, F_firings, F_is_steady, F_roads_to] := mkC_next (xs := defs.take 6) CC6 (Sh_roads_to.2.trans (hide_eq _).symm)
theorem CC8 : mkC KK par (defs.take 8) [] = [F_joins, F_outs, F_settle, F_settled, F_firings, F_is_steady, F_roads_to, F_burnt] := mkC_next (xs := defs.take 7) CC7 (Sh_burnt.2.trans (hide_eq _).symm)
theorem CC9 : mkC KK par (defs.take 9) [] = [F_joins, F_outs, F_settle, F_settled, F_firings, F_is_steady, F_roads_to, F_burnt, F_comes_again] := mkC_next (xs := defs.take 8) CC8 (Sh_comes_again.2.trans (hide_eq _).symm)
theorem CC10 : mkC KK par (defs.take 10) [] = [F_joins, F_outs, F_settle, F_settled, F_firings, F_is_steady, F_roads_to, F_burnt, F_comes_again, F_is_least_pile] := mkC_next (xs := defs.take 9) CC9 (Sh_is_least_pile.2.trans (hide_eq _).symm)
theorem CC11 : mkC KK par (defs.take 11) [] = [F_joins, F_outs, F_settle, F_settled, F_firings, F_is_steady, F_roads_to, F_burnt, F_comes_again, F_is_least_pile, F__law_source] := mkC_next (xs := defs.take 10) CC10 (Sh__law_source.2.trans (hide_eq _).symm)
theorem CC12 : mkC KK par (defs.take 12) [] = [F_joins, F_outs, F_settle, F_settled, F_firings, F_is_steady, F_roads_to, F_burnt, F_comes_again, F_is_least_pile, F__law_source, F__law_pick] := mkC_next (xs := defs.take 11) CC11 (Sh__law_pick.2.trans (hide_eq _).symm)
theorem CC13 : mkC KK par (defs.take 13) [] = [F_joins, F_outs, F_settle, F_settled, F_firings, F_is_steady, F_roads_to, F_burnt, F_comes_again, F_is_least_pile, F__law_source, F__law_pick, F__law_of] := mkC_next (xs := defs.take 12) CC12 (Sh__law_of.2.trans (hide_eq _).symm)
theorem CC14 : mkC KK par (defs.take 14) [] = [F_joins, F_outs, F_settle, F_settled, F_firings, F_is_steady, F_roads_to, F_burnt, F_comes_again, F_is_least_pile, F__law_source, F__law_pick, F__law_of, F__law_mixed] := mkC_next (xs := defs.take 13) CC13 (Sh__law_mixed.2.trans (hide_eq _).symm)
theorem CC15 : mkC KK par (defs.take 15) [] = [F_joins, F_outs, F_settle, F_settled, F_firings, F_is_steady, F_roads_to, F_burnt, F_comes_again, F_is_least_pile, F__law_source, F__law_pick, F__law_of, F__law_mixed, F__law_other] := mkC_next (xs := defs.take 14) CC14 (Sh__law_other.2.trans (hide_eq _).symm)
theorem CC16 : mkC KK par (defs.take 16) [] = [F_joins, F_outs, F_settle, F_settled, F_firings, F_is_steady, F_roads_to, F_burnt, F_comes_again, F_is_least_pile, F__law_source, F__law_pick, F__law_of, F__law_mixed, F__law_other, F__law_nexts] := mkC_next (xs := defs.take 15) CC15 (Sh__law_nexts.2.trans (hide_eq _).symm)
theorem CC17 : mkC KK par (defs.take 17) [] = [F_joins, F_outs, F_settle, F_settled, F_firings, F_is_steady, F_roads_to, F_burnt, F_comes_again, F_is_least_pile, F__law_source, F__law_pick, F__law_of, F__law_mixed, F__law_other, F__law_nexts, F__law_spots] := mkC_next (xs := defs.take 16) CC16 (Sh__law_spots.2.trans (hide_eq _).symm)
theorem CC18 : mkC KK par (defs.take 18) [] = [F_joins, F_outs, F_settle, F_settled, F_firings, F_is_steady, F_roads_to, F_burnt, F_comes_again, F_is_least_pile, F__law_source, F__law_pick, F__law_of, F__law_mixed, F__law_other, F__law_nexts, F__law_spots, F__law_face] := mkC_next (xs := defs.take 17) CC17 (Sh__law_face.2.trans (hide_eq _).symm)
theorem CC19 : mkC KK par (defs.take 19) [] = [F_joins, F_outs, F_settle, F_settled, F_firings, F_is_steady, F_roads_to, F_burnt, F_comes_again, F_is_least_pile, F__law_source, F__law_pick, F__law_of, F__law_mixed, F__law_other, F__law_nexts, F__law_spots, F__law_face, F__law_grown] := mkC_next (xs := defs.take 18) CC18 (Sh__law_grown.2.trans (hide_eq _).symm)
theorem CC20 : mkC KK par (defs.take 20) [] = [F_joins, F_outs, F_settle, F_settled, F_firings, F_is_steady, F_roads_to, F_burnt, F_comes_again, F_is_least_pile, F__law_source, F__law_pick, F__law_of, F__law_mixed, F__law_other, F__law_nexts, F__law_spots, F__law_face, F__law_grown, F__law_renamed] := mkC_next (xs := defs.take 19) CC19 (Sh__law_renamed.2.trans (hide_eq _).symm)
theorem CC21 : mkC KK par (defs.take 21) [] = [F_joins, F_outs, F_settle, F_settled, F_firings, F_is_steady, F_roads_to, F_burnt, F_comes_again, F_is_least_pile, F__law_source, F__law_pick, F__law_of, F__law_mixed, F__law_other, F__law_nexts, F__law_spots, F__law_face, F__law_grown, F__law_renamed, F__law_web] := mkC_next (xs := defs.take 20) CC20 (Sh__law_web.2.trans (hide_eq _).symm)
theorem CC22 : mkC KK par (defs.take 22) [] = [F_joins, F_outs, F_settle, F_settled, F_firings, F_is_steady, F_roads_to, F_burnt, F_comes_again, F_is_least_pile, F__law_source, F__law_pick, F__law_of, F__law_mixed, F__law_other, F__law_nexts, F__law_spots, F__law_face, F__law_grown, F__law_renamed, F__law_web, F__law_joins] := mkC_next (xs := defs.take 21) CC21 (Sh__law_joins.2.trans (hide_eq _).symm)
theorem CC23 : mkC KK par (defs.take 23) [] = [F_joins, F_outs, F_settle, F_settled, F_firings, F_is_steady, F_roads_to, F_burnt, F_comes_again, F_is_least_pile, F__law_source, F__law_pick, F__law_of, F__law_mixed, F__law_other, F__law_nexts, F__law_spots, F__law_face, F__law_grown, F__law_renamed, F__law_web, F__law_joins, F__law_pile] := mkC_next (xs := defs.take 22) CC22 (Sh__law_pile.2.trans (hide_eq _).symm)
theorem CC24 : mkC KK par (defs.take 24) [] = [F_joins, F_outs, F_settle, F_settled, F_firings, F_is_steady, F_roads_to, F_burnt, F_comes_again, F_is_least_pile, F__law_source, F__law_pick, F__law_of, F__law_mixed, F__law_other, F__law_nexts, F__law_spots, F__law_face, F__law_grown, F__law_renamed, F__law_web, F__law_joins, F__law_pile, F__law_is_least] := mkC_next (xs := defs.take 23) CC23 (Sh__law_is_least.2.trans (hide_eq _).symm)
theorem CC25 : mkC KK par (defs.take 25) [] = [F_joins, F_outs, F_settle, F_settled, F_firings, F_is_steady, F_roads_to, F_burnt, F_comes_again, F_is_least_pile, F__law_source, F__law_pick, F__law_of, F__law_mixed, F__law_other, F__law_nexts, F__law_spots, F__law_face, F__law_grown, F__law_renamed, F__law_web, F__law_joins, F__law_pile, F__law_is_least, F_law] := mkC_next (xs := defs.take 24) CC24 (Sh_law.2.trans (hide_eq _).symm)
end K77
end
section
set_option linter.all false
set_option maxRecDepth 100000
set_option maxHeartbeats 4000000
/-! Q1: joins, outs. -/
namespace K77
open Mi
theorem joins_ev (w : Web) (hw : WOk w) : F_joins.sem [(w.pv, 0)] = .ok (tab w.n (jn w.roads), 2) [(w.pv, 0)] := by
  have hn : w.n < 1000000 := by have := hw.few; omega
  have hp := hw.pos
  rw [sem_joins]; unfold Sh_joins
  push_cast [rep0 _ _ hn, w1 _ hn]
  generalize hl : lcLoop _ _ _ _ _ _ _ = o
  obtain ⟨s', rfl⟩ : ∃ s' : Unit, o = _ := by
    rw [← hl]
    refine lc_M pN (fun _ : Unit => [some (w.pv, 0), none, none, none, none]) (fun _ => lF w.n fun _ => 0) 1 (List.range w.n) () (by simp; omega) (fun x s hx => ⟨(), ?_⟩)
    push_cast [rep0 _ _ hn]
  clear hl
  have hm := minD_l (fun _ => lF w.n fun _ => 0) 1 (List.range w.n) (by simp; omega) (fun _ _ => rfl)
  push_cast [hm, tabD w.n fun _ _ => 0]
  generalize hl : fLoop _ _ _ _ = o
  obtain ⟨s', l', rfl, hs⟩ : ∃ (s' : Nat → Nat → Int) (l' : Option (Nat × Nat)), o = .nx [some (w.pv, 0), some (tab w.n s', 2), none, l'.map fun x => (pN x.1, 0), l'.map fun x => (pN x.2, 0)] ∧ s' = jn w.roads := by
    rw [← hl]
    refine fLoop_J road (fun l s => [some (w.pv, 0), some (tab w.n s, 2), none, l.map fun x => (pN x.1, 0), l.map fun x => (pN x.2, 0)]) (fun pre s => s = jn pre) w.roads _ none (by funext v u; rfl) ?_
    intro pre x post s l e hs
    obtain ⟨h1, h2⟩ := hw.ends x (by rw [e]; simp)
    by_cases hx : x.1 = x.2
    · refine ⟨s, ?_, ?_⟩
      · push_cast [hx, decide_true, Bool.not_true]
      · rw [hs]; funext v u; rw [jn_snoc]; simp [hx]
    · refine ⟨?s, ?a, ?b⟩
      case a =>
        push_cast [hx, decide_false, Bool.not_false, gtb _ _ _ h1, gtb _ _ _ h2, glF _ _ _ h1, glF _ _ _ h2, set2 h1 h2, set2 h2 h1]
        rfl
      case b =>
        rw [hs]; funext v u; rw [jn_snoc]
        exact join_step _ hx v u
  rw [hs]
  push_cast []
theorem outs_ev (w : Web) (hw : WOk w) : F_outs.sem [(w.pv, 0)] = .ok (tF w.n (dg w), 0) [(w.pv, 0)] := by
  have hn : w.n < 1000000 := by have := hw.few; omega
  have hp := hw.pos
  rw [sem_outs]; unfold Sh_outs
  push_cast [C_outs, br_joins, b_joins, joins_ev w hw]
  generalize hl : lcLoop _ _ _ _ _ _ _ = o
  obtain ⟨s', rfl⟩ : ∃ s' : Unit, o = _ := by
    rw [← hl]
    refine lc_M (fun v => lF w.n (jn w.roads v)) (fun _ : Unit => [some (w.pv, 0), none]) (fun v => .int (dg w v)) 0 (List.range w.n) () (by simp; omega) (fun x s hx => ⟨(), ?_⟩)
    push_cast []
    rfl
  clear hl
  push_cast [lFD]
end K77
end
section
set_option linter.all false
set_option maxRecDepth 100000
set_option maxHeartbeats 4000000
/-! Q2: settle. -/
namespace K77
open Mi
structure SSt where
  now : Nat → Int
  f : Nat → Int
  b : Bool
  v : Option Nat
  t : Option Int
  u : Option Nat
  d : Nat
def sq (w : Web) (h : Nat) (p : Nat → Int) (s : SSt) : Rho := [some (w.pv, 0), some (pN h, 0), some (tF w.n p, 0), some (tab w.n (jn w.roads), s.d), some (tF w.n (dg w), 0), some (lF w.n s.now, 1), some (lF w.n s.f, 1), some (.bl s.b, 0), s.v.map fun x => (pN x, 0), s.t.map fun x => (.int x, 0), s.u.map fun x => (pN x, 0)]
structure SJ (w : Web) (h : Nat) (p : Nat → Int) (s : SSt) : Prop where
  go : Going w h p s.now s.f
  le : ∀ g', Tame w h p g' → ∀ v, v < w.n → s.f v ≤ g' v
  hm : s.now h = p h ∨ s.now h = 0
  nn : ∀ v, v < w.n → 0 ≤ s.now v
def SQ (w : Web) (h : Nat) (s : SSt) : Prop := ∀ v, v < w.n → v ≠ h → s.now v < dg w v
/-- one crossing fires in a batch -/
theorem batch {w : Web} {h : Nat} {p : Nat → Int} {now f : Nat → Int} {b : Bool} {x y z : _} {d : Nat} (j : SJ w h p ⟨now, f, b, x, y, z, d⟩) (h0 : h < w.n) {v : Nat} (hv : v < w.n) (hh : v ≠ h) (hd : 0 < dg w v) {t : Int} (ht : 0 < t) (h1 : t * dg w v ≤ now v)
    {now' : Nat → Int} (e : now' = fun i => if i < w.n then (if i ≠ h then upd now v (now v - t * dg w v) i + t * jn w.roads v i else 0) else upd now v (now v - t * dg w v) i) (b' : Bool) (x' : Option Nat) (y' : Option Int) (z' : Option Nat) (d' : Nat) : SJ w h p ⟨now', upd f v (f v + t), b', x', y', z', d'⟩ := by
  subst e
  refine ⟨j.go.step hv hh (Int.le_of_lt ht) fun u hu hu' => ?_, fun g' hg' u hu => ?_, .inr ?_, fun u hu => ?_⟩
  · simp only [hu, hu', if_true, ne_eq, not_false_eq_true, upd]
    split
    · next e => subst e; rw [jn_diag]; simp
    · rfl
  · dsimp only [upd]
    split
    · next e =>
      subst e
      refine fire_le hg' (j.le g' hg') hu hh ?_ hd
      rw [← j.go.now u hu hh]
      exact h1
    · exact j.le g' hg' u hu
  · dsimp only
    by_cases hx : h < w.n
    · simp [hx]
    · exact absurd h0 hx
  · dsimp only
    rw [if_pos hu]
    split
    · have := Int.mul_nonneg (Int.le_of_lt ht) (jn_nonneg w.roads v u)
      have := j.nn u hu
      dsimp only at this
      unfold upd
      split
      · next e => subst e; omega
      · omega
    · exact Int.le_refl _

theorem times_rng {a d : Int} (ha : 0 ≤ a) (hd : 0 < d) : a.fdiv d * d ≤ a ∧ (a.fdiv d ≤ 0 → a < d) := by
  rw [Int.fdiv_eq_ediv_of_nonneg _ (Int.le_of_lt hd)]
  have h1 := Int.ediv_mul_le a (Int.ne_of_gt hd)
  refine ⟨h1, fun h => ?_⟩
  have h2 := Int.lt_ediv_add_one_mul_self a hd
  have h3 : (a / d + 1) * d ≤ 1 * d := Int.mul_le_mul_of_nonneg_right (by omega) (Int.le_of_lt hd)
  omega
theorem settle_ev (w : Web) (hw : WOk w) (h : Nat) (hh : h < w.n) (p g : Nat → Int) (hp : ∀ v, v < w.n → 0 ≤ p v) (hd : ∀ v, v < w.n → v ≠ h → 0 < dg w v) (hg : Tame w h p g) (hK : S w.n g + 2 < KK) :
    ∃ now f, Going w h p now f ∧ Tame w h p f ∧ (∀ g', Tame w h p g' → ∀ v, v < w.n → f v ≤ g' v) ∧ (now h = p h ∨ now h = 0) ∧
     F_settle.sem [(w.pv, 0), (pN h, 0), (tF w.n p, 0)] = .ok (.tup [tF w.n now, tF w.n f], 0) [(w.pv, 0), (pN h, 0), (tF w.n p, 0)] := by
  have hn : w.n < 1000000 := by have := hw.few; omega
  rw [sem_settle]; unfold Sh_settle
  push_cast [C_settle, br_joins, b_joins, joins_ev w hw, br_outs, b_outs, outs_ev w hw, rep0 _ _ hn, w1 _ hn]
  generalize hl : wLoop _ _ _ _ = o
  obtain ⟨s, rfl, hJ, hQ⟩ : ∃ s : SSt, o = .nx (sq w h p s) ∧ (SJ w h p s ∧ (s.b = false → SQ w h s)) ∧ SQ w h s := by
    rw [← hl]
    clear hl
    refine wLoop_J (sq w h p) (fun s => SJ w h p s ∧ (s.b = false → SQ w h s)) (SQ w h) (fun s => if s.b then (S w.n g - S w.n s.f).toNat + 1 else 0) ?_ KK ⟨p, fun _ => 0, true, none, none, none, 2⟩ ⟨⟨Going.zero w h p, fun g' hg' v hv => hg'.nn v hv, .inl rfl, hp⟩, fun h => Bool.noConfusion h⟩ ?_
    · rintro ⟨now, f, b, x, y, z, d⟩ ⟨j, jb⟩
      cases b with
      | false => exact .inr ⟨⟨now, f, false, x, y, z, d⟩, by push_cast [sq], ⟨j, jb⟩, jb rfl⟩
      | true =>
        refine .inl ⟨⟨now, f, true, x, y, z, d⟩, by push_cast [sq], ?_⟩
        push_cast [sq, w1 _ hn]
        generalize hl : fLoop _ _ _ _ = o
        obtain ⟨s, l, rfl, hJ, h1, h2⟩ : ∃ (s : SSt) (l : Option Nat), o = .nx [some (w.pv, 0), some (pN h, 0), some (tF w.n p, 0), some (tab w.n (jn w.roads), s.d), some (tF w.n (dg w), 0), some (lF w.n s.now, 1), some (lF w.n s.f, 1), some (.bl s.b, 0), l.map fun x => (pN x, 0), s.t.map fun x => (.int x, 0), s.u.map fun x => (pN x, 0)] ∧ 
            SJ w h p s ∧ (s.b = false → s.now = now ∧ s.f = f ∧ ∀ v, v ∈ List.range w.n → v ≠ h → now v < dg w v) ∧ (s.b = true → S w.n f < S w.n s.f) := by
          rw [← hl]
          clear hl
          refine fLoop_J pN (fun l s => [some (w.pv, 0), some (pN h, 0), some (tF w.n p, 0), some (tab w.n (jn w.roads), s.d), some (tF w.n (dg w), 0), some (lF w.n s.now, 1), some (lF w.n s.f, 1), some (.bl s.b, 0), l.map fun x => (pN x, 0), s.t.map fun x => (.int x, 0), s.u.map fun x => (pN x, 0)])
            (fun pre s => SJ w h p s ∧ (s.b = false → s.now = now ∧ s.f = f ∧ ∀ v, v ∈ pre → v ≠ h → now v < dg w v) ∧ (s.b = true → S w.n f < S w.n s.f)) (List.range w.n) ⟨now, f, false, none, y, z, d⟩ x ⟨⟨j.go, j.le, j.hm, j.nn⟩, fun _ => ⟨rfl, rfl, fun v hv => by cases hv⟩, fun h => by cases h⟩ ?_
          rintro pre v post ⟨now', f', b, x', y', z', d'⟩ l e ⟨j', h1, h2⟩
          have hv : v < w.n := by
            have : v ∈ List.range w.n := by rw [e]; simp
            simpa using this
          dsimp only at h1 h2
          by_cases hvh : v = h
          · subst hvh
            refine ⟨⟨now', f', b, x', some 0, z', d'⟩, ?_, ⟨j'.go, j'.le, j'.hm, j'.nn⟩, fun hb => ⟨(h1 hb).1, (h1 hb).2.1, fun u hu hu' => ?_⟩, h2⟩
            · push_cast [decide_true, Bool.not_true, Int.lt_irrefl, decide_false]
            · rcases List.mem_append.mp hu with hu | hu
              · exact (h1 hb).2.2 u hu hu'
              · exact absurd (List.mem_singleton.mp hu) hu'
          · have hdv := hd v hv hvh
            have hle := dg_le hw v
            have hfit : dg w v ≠ 0 ∧ (dg w v).natAbs < 1073741824 := by omega
            obtain ⟨t1, t2⟩ := times_rng (j'.nn v hv) hdv
            generalize ht : (now' v).fdiv (dg w v) = t at t1 t2
            by_cases h0 : 0 < t
            · have sm : small (dg w v) = true := smallI (by omega) (by omega)
              push_cast [hvh, decide_false, Bool.not_false, h0, gtF _ _ _ hv, glF _ _ _ hv, fdivE, hfit, ht, ne_eq, not_false_eq_true, decide_true, set1 hv (Nat.le_refl 1), mulE, sm, Bool.or_true, w1 _ hn]
              generalize hl : fLoop _ _ _ _ = o
              obtain ⟨l', rfl⟩ : ∃ l' : Option Nat, o = .nx [some (w.pv, 0), some (pN h, 0), some (tF w.n p, 0), some (tab w.n (jn w.roads), d'), some (tF w.n (dg w), 0), some (lF w.n ((List.range w.n).foldl (fun s u => upd s u (if u ≠ h then s u + t * jn w.roads v u else 0)) (upd now' v (now' v - t * dg w v))), 1), some (lF w.n (upd f' v (f' v + t)), 1), some (.bl true, 0), some (pN v, 0), some (.int t, 0), l'.map fun x => (pN x, 0)] := by
                rw [← hl]
                clear hl
                refine fLoop_F pN (fun l s => [some (w.pv, 0), some (pN h, 0), some (tF w.n p, 0), some (tab w.n (jn w.roads), d'), some (tF w.n (dg w), 0), some (lF w.n s, 1), some (lF w.n (upd f' v (f' v + t)), 1), some (.bl true, 0), some (pN v, 0), some (.int t, 0), l.map fun x => (pN x, 0)])
                  (fun s u => upd s u (if u ≠ h then s u + t * jn w.roads v u else 0)) (List.range w.n) _ z' ?_
                intro u s l hu
                have hu := List.mem_range.mp hu
                have sj : small (jn w.roads v u) = true := smallI (by have := jn_nonneg w.roads v u; omega) (by have := jn_le w.roads v u; have := hw.fewR; omega)
                by_cases hc : u = h
                · subst hc
                  push_cast [decide_true, Bool.not_true, set1 hu (Nat.le_refl 1), ne_eq, not_true_eq_false]
                · push_cast [hc, decide_false, Bool.not_false, gtb _ _ _ hv, glF _ _ _ hu, mulE, sj, Bool.or_true, set1 hu (Nat.le_refl 1), ne_eq, not_false_eq_true]
              clear hl
              rw [foldl_upd (fun u x => if u ≠ h then x + t * jn w.roads v u else 0)]
              push_cast []
              refine ⟨⟨fun i => if i < w.n then (if i ≠ h then upd now' v (now' v - t * dg w v) i + t * jn w.roads v i else 0) else upd now' v (now' v - t * dg w v) i, upd f' v (f' v + t), true, some v, some t, l', d'⟩, rfl, batch j' hh hv hvh hdv h0 t1 rfl _ _ _ _ _, fun h => Bool.noConfusion h, ?_⟩
              intro _
              dsimp only
              rw [S_upd _ _ hv]
              cases b with
              | true => have := h2 rfl; omega
              | false => have := (h1 rfl).2.1; rw [this]; omega
            · refine ⟨⟨now', f', b, x', some t, z', d'⟩, ?_, ⟨j'.go, j'.le, j'.hm, j'.nn⟩, fun hb => ⟨(h1 hb).1, (h1 hb).2.1, fun u hu hu' => ?_⟩, h2⟩
              · push_cast [hvh, decide_false, Bool.not_false, h0, gtF _ _ _ hv, glF _ _ _ hv, fdivE, hfit, ht, ne_eq, not_false_eq_true]
              · rcases List.mem_append.mp hu with hu | hu
                · exact (h1 hb).2.2 u hu hu'
                · have e1 := List.mem_singleton.mp hu
                  subst e1
                  have e2 := (h1 hb).1
                  subst e2
                  exact t2 (by omega)
        clear hl
        obtain ⟨now', f', b, x', y', z', d'⟩ := s
        push_cast []
        refine ⟨⟨now', f', b, l, y', z', d'⟩, rfl, ⟨⟨hJ.go, hJ.le, hJ.hm, hJ.nn⟩, fun hb => ?_⟩, ?_⟩
        · obtain ⟨e1, _, e3⟩ := h1 hb
          dsimp only at e1
          subst e1
          intro v hv hvh
          exact e3 v (List.mem_range.mpr hv) hvh
        · dsimp only at h2 ⊢
          have hle : S w.n f' ≤ S w.n g := S_le fun v hv => hJ.le g hg v hv
          cases b with
          | false => simp
          | true =>
            have := h2 rfl
            simp only [if_true]
            omega
    · simp only [S_const0, if_true]
      have := S_nonneg (n := w.n) (f := g) fun v hv => hg.nn v hv
      omega
  clear hl
  obtain ⟨now, f, b, x, y, z, d⟩ := s
  refine ⟨now, f, hJ.1.go, ⟨hJ.1.go.nn, hJ.1.go.home, fun v hv hvh => ?_⟩, hJ.1.le, hJ.1.hm, ?_⟩
  · rw [← hJ.1.go.now v hv hvh]
    exact hQ v hv hvh
  · push_cast [sq]
end K77
end
section
set_option linter.all false
set_option maxRecDepth 100000
set_option maxHeartbeats 4000000
/-! Q3: settled, firings, steady, burning, least piles. -/
namespace K77
open Mi
theorem settled_ev (w : Web) (hw : WOk w) (h : Nat) (hh : h < w.n) (p g : Nat → Int) (hp : ∀ v, v < w.n → 0 ≤ p v) (hd : ∀ v, v < w.n → v ≠ h → 0 < dg w v) (hg : Tame w h p g) (hK : S w.n g + 2 < KK) :
    ∃ now f, Settled w h p now f ∧ F_settled.sem [(w.pv, 0), (pN h, 0), (tF w.n p, 0)] = .ok (tF w.n now, 0) [(w.pv, 0), (pN h, 0), (tF w.n p, 0)] := by
  obtain ⟨now, f, a, b, c, d, e⟩ := settle_ev w hw h hh p g hp hd hg hK
  refine ⟨now, f, ⟨a, b, c, d⟩, ?_⟩
  rw [sem_settled]; unfold Sh_settled
  push_cast [C_settled, br_settle, b_settle, e]
theorem firings_ev (w : Web) (hw : WOk w) (h : Nat) (hh : h < w.n) (p g : Nat → Int) (hp : ∀ v, v < w.n → 0 ≤ p v) (hd : ∀ v, v < w.n → v ≠ h → 0 < dg w v) (hg : Tame w h p g) (hK : S w.n g + 2 < KK) :
    ∃ now f, Settled w h p now f ∧ F_firings.sem [(w.pv, 0), (pN h, 0), (tF w.n p, 0)] = .ok (tF w.n f, 0) [(w.pv, 0), (pN h, 0), (tF w.n p, 0)] := by
  obtain ⟨now, f, a, b, c, d, e⟩ := settle_ev w hw h hh p g hp hd hg hK
  refine ⟨now, f, ⟨a, b, c, d⟩, ?_⟩
  rw [sem_firings]; unfold Sh_firings
  push_cast [C_firings, br_settle, b_settle, e]
theorem is_steady_ev (w : Web) (hw : WOk w) (h : Nat) (hh : h < w.n) (p : Nat → Int) :
    F_is_steady.sem [(w.pv, 0), (pN h, 0), (tF w.n p, 0)] = .ok (.bl (decide (∀ v, v < w.n → v ≠ h → p v < dg w v)), 0) [(w.pv, 0), (pN h, 0), (tF w.n p, 0)] := by
  have hn : w.n < 1000000 := by have := hw.few; omega
  rw [sem_is_steady]; unfold Sh_is_steady
  push_cast [C_is_steady, br_outs, b_outs, outs_ev w hw, w1 _ hn]
  generalize hl : lcLoop _ _ _ _ _ _ _ = o
  obtain ⟨s', rfl⟩ : ∃ s' : Unit, o = _ := by
    rw [← hl]
    refine lc_P pN (fun _ : Unit => [some (w.pv, 0), some (pN h, 0), some (tF w.n p, 0), some (tF w.n (dg w), 0), none]) (fun v => decide (v ≠ h) && decide (dg w v ≤ p v)) pN 0 (List.range w.n) () (by simp; omega) (fun v s hx => ⟨(), ?_⟩)
    have hv := List.mem_range.mp hx
    by_cases hvh : v = h
    · push_cast [hvh, decide_true, Bool.not_true, ne_eq, not_true_eq_false, decide_false]
    · by_cases hc : dg w v ≤ p v
      · push_cast [hvh, hc, gtF _ _ _ hv, decide_false, Bool.not_false, ne_eq, not_false_eq_true, decide_true]
      · push_cast [hvh, hc, gtF _ _ _ hv, decide_false, Bool.not_false, ne_eq, not_false_eq_true, decide_true]
  clear hl
  push_cast [lND, minD_c pN 0 (List.filter (fun v => decide (v ≠ h) && decide (dg w v ≤ p v)) (List.range w.n)) (fun _ _ => rfl)]
  congr 3
  rw [decide_eq_decide, List.filter_eq_nil_iff]
  constructor
  · intro a v hv hvh
    have := a v (List.mem_range.mpr hv)
    simp [hvh] at this
    exact this
  · intro a v hv
    have hv := List.mem_range.mp hv
    simp only [Bool.and_eq_true, decide_eq_true_eq, not_and]
    intro b
    have := a v hv b
    omega
theorem roads_to_ev (n : Nat) (f : Nat → Int) (xs : List Nat) (d d' : Nat) (hx : ∀ v ∈ xs, v < n) (hl : xs.length ≤ 1000) :
    F_roads_to.sem [(lF n f, d), (lN xs, d')] = .ok (.int (xs.map f).sum, 0) [(lF n f, d), (lN xs, 0)] := by
  rw [sem_roads_to]; unfold Sh_roads_to
  push_cast []
  generalize hl : lcLoop _ _ _ _ _ _ _ = o
  obtain ⟨s', rfl⟩ : ∃ s' : Unit, o = _ := by
    rw [← hl]
    refine lc_M pN (fun _ : Unit => [some (lF n f, d), some (lN xs, 0), none]) (fun v => .int (f v)) 0 xs () (by omega) (fun v s hv => ⟨(), ?_⟩)
    push_cast [glF _ _ _ (hx v hv)]
  clear hl
  push_cast [sumMap]

structure BSt where
  found : List Nat
  late : List Nat
  rest : Option (List Nat)
  df : Nat
  dl : Nat
  dt : Nat
def bq (w : Web) (h : Nat) (p : Nat → Int) (s : BSt) : Rho := [some (w.pv, 0), some (pN h, 0), some (tF w.n p, 0), some (tab w.n (jn w.roads), s.dt), some (tF w.n (dg w), 0), some (lN s.found, s.df), some (lN s.late, s.dl), s.rest.map fun r => (lN r, 0), none]
theorem burnt_ev (w : Web) (hw : WOk w) (h : Nat) (hh : h < w.n) (p : Nat → Int) :
    ∃ found, Grown w.n h (bcond w p) found ∧ Shut w.n (bcond w p) found ∧ F_burnt.sem [(w.pv, 0), (pN h, 0), (tF w.n p, 0)] = .ok (lN found, 1) [(w.pv, 0), (pN h, 0), (tF w.n p, 0)] := by
  have hn : w.n < 1000000 := by have := hw.few; omega
  rw [sem_burnt]; unfold Sh_burnt
  push_cast [C_burnt, br_joins, b_joins, joins_ev w hw, br_outs, b_outs, outs_ev w hw]
  generalize hl : wLoop _ _ _ _ = o
  obtain ⟨s, rfl, hJ, hQ⟩ : ∃ s : BSt, o = .nx (bq w h p s) ∧ (Grown w.n h (bcond w p) s.found ∧ s.df = 1 ∧ (s.late = [] → Shut w.n (bcond w p) s.found)) ∧ s.late = [] := by
    rw [← hl]
    clear hl
    refine wLoop_J (bq w h p) (fun s => Grown w.n h (bcond w p) s.found ∧ s.df = 1 ∧ (s.late = [] → Shut w.n (bcond w p) s.found)) (fun s => s.late = []) (fun s => if s.late = [] then 0 else w.n + 1 - s.found.length) ?_ KK ⟨[h], [h], none, 1, 1, 2⟩ ⟨.start, rfl, fun e => by cases e⟩ ?_
    · rintro ⟨found, late, rest, df, dl, dt⟩ ⟨j1, j2, j3⟩
      dsimp only at j1 j2 j3
      subst j2
      by_cases hlate : late = []
      · exact .inr ⟨⟨found, late, rest, 1, dl, dt⟩, by push_cast [bq, hlate, decide_true, Bool.not_true], ⟨j1, rfl, j3⟩, hlate⟩
      · refine .inl ⟨⟨found, late, rest, 1, dl, dt⟩, by push_cast [bq, hlate, decide_false, Bool.not_false], ?_⟩
        have hfl := j1.len hh
        have hfx := j1.lt hh
        have hf3 := hw.few
        push_cast [bq, w1 _ hn]
        generalize hl : lcLoop _ _ _ _ _ _ _ = o
        obtain ⟨s', rfl⟩ : ∃ s' : Unit, o = _ := by
          rw [← hl]
          refine lc_P pN (fun _ : Unit => [some (w.pv, 0), some (pN h, 0), some (tF w.n p, 0), some (tab w.n (jn w.roads), dt), some (tF w.n (dg w), 0), some (lN found, 1), some (lN late, dl), Option.map (fun r => (lN r, 0)) rest, none]) (fun v => decide (v ∉ found)) pN 0 (List.range w.n) () (by simp; omega) (fun v s hv => ⟨(), ?_⟩)
          by_cases hc : v ∈ found
          · push_cast [hc, decide_true, Bool.not_true, not_true_eq_false, decide_false]
          · push_cast [hc, decide_false, Bool.not_false, not_false_eq_true, decide_true]
        clear hl
        generalize hrest : List.filter (fun v => decide (v ∉ found)) (List.range w.n) = rs
        have hr : ∀ v ∈ rs, v < w.n := by
          intro v hv
          rw [← hrest] at hv
          exact List.mem_range.mp (List.mem_filter.mp hv).1
        have hrl : rs.length ≤ w.n := by
          rw [← hrest]
          exact Nat.le_trans (List.length_filter_le _ _) (by simp)
        push_cast [lND, minD_c pN 0 rs (fun _ _ => rfl)]
        generalize hl : lcLoop _ _ _ _ _ _ _ = o
        obtain ⟨s', rfl⟩ : ∃ s' : Nat × Nat, o = .ok ((rs.filter (bcond w p found)).map fun x => (pN x, 0)) [some (w.pv, 0), some (pN h, 0), some (tF w.n p, 0), some (tab w.n (jn w.roads), s'.1), some (tF w.n (dg w), 0), some (lN found, s'.2), some (lN late, dl), some (lN rs, 0), none] := by
          rw [← hl]
          refine lc_P pN (fun s : Nat × Nat => [some (w.pv, 0), some (pN h, 0), some (tF w.n p, 0), some (tab w.n (jn w.roads), s.1), some (tF w.n (dg w), 0), some (lN found, s.2), some (lN late, dl), some (lN rs, 0), none]) (bcond w p found) pN 0 rs (dt, 1) (by omega) (fun v s hv => ⟨(min s.1 1, 0), ?_⟩)
          have hv' := hr v hv
          unfold bcond
          by_cases hc : dg w v ≤ p v + (found.map (jn w.roads v)).sum
          · push_cast [hc, gtF _ _ _ hv', gtb _ _ _ hv', br_roads_to, b_roads_to, C_burnt, roads_to_ev _ _ _ _ _ hfx (by omega), decide_true]
          · push_cast [hc, gtF _ _ _ hv', gtb _ _ _ hv', br_roads_to, b_roads_to, C_burnt, roads_to_ev _ _ _ _ _ hfx (by omega), decide_false]
        clear hl
        generalize hla : rs.filter (bcond w p found) = la
        have hg : Grown w.n h (bcond w p) (found ++ la) := by
          rw [← hla, ← hrest]; exact j1.layer
        have hgl := hg.len hh
        rw [List.length_append] at hgl
        push_cast [lND, minD_c pN 0 la (fun _ _ => rfl), catN found la (by omega)]
        refine ⟨⟨found ++ la, la, some rs, 1, 1, s'.1⟩, rfl, ⟨hg, rfl, fun e => ?_⟩, ?_⟩
        · dsimp only at e ⊢
          subst e
          rw [List.append_nil]
          exact shut_of (by rw [hrest]; exact hla)
        · rw [if_neg hlate]
          dsimp only
          by_cases e : la = []
          · rw [if_pos e]; omega
          · rw [if_neg e, List.length_append]
            have : 0 < la.length := List.length_pos_iff.mpr e
            omega
    · dsimp only
      rw [if_neg (by simp)]
      have := hw.few
      unfold KK
      simp
      omega
  obtain ⟨found, late, rest, df, dl, dt⟩ := s
  obtain ⟨j1, j2, j3⟩ := hJ
  dsimp only at j1 j2 j3 hQ
  subst j2
  refine ⟨found, j1, j3 hQ, ?_⟩
  push_cast [bq]
theorem comes_again_ev (w : Web) (hw : WOk w) (h : Nat) (hh : h < w.n) (p : Nat → Int) :
    ∃ found, Grown w.n h (bcond w p) found ∧ Shut w.n (bcond w p) found ∧ F_comes_again.sem [(w.pv, 0), (pN h, 0), (tF w.n p, 0)] = .ok (.bl (decide (∀ v, v < w.n → v ≠ h → p v < dg w v) && decide (found.length = w.n)), 0) [(w.pv, 0), (pN h, 0), (tF w.n p, 0)] := by
  obtain ⟨found, g, s, e⟩ := burnt_ev w hw h hh p
  refine ⟨found, g, s, ?_⟩
  rw [sem_comes_again]; unfold Sh_comes_again
  by_cases hc : ∀ v, v < w.n → v ≠ h → p v < dg w v
  · push_cast [C_comes_again, br_is_steady, b_is_steady, is_steady_ev w hw h hh p, decide_eq_true hc, br_burnt, b_burnt, e]
  · push_cast [C_comes_again, br_is_steady, b_is_steady, is_steady_ev w hw h hh p, decide_eq_false hc, br_burnt, b_burnt, e]
def lq (w : Web) (h : Nat) (p : Nat → Int) (s : BSt) : Rho := [some (w.pv, 0), some (pN h, 0), some (tF w.n p, 0), some (tab w.n (jn w.roads), s.dt), some (lN s.found, s.df), some (lN s.late, s.dl), s.rest.map fun r => (lN r, 0), none]
theorem least_ev (w : Web) (hw : WOk w) (h : Nat) (hh : h < w.n) (p : Nat → Int) :
    ∃ found, Grown w.n h (lcond w p) found ∧ Shut w.n (lcond w p) found ∧ F_is_least_pile.sem [(w.pv, 0), (pN h, 0), (tF w.n p, 0)] = .ok (.bl (decide (found.length = w.n)), 0) [(w.pv, 0), (pN h, 0), (tF w.n p, 0)] := by
  have hn : w.n < 1000000 := by have := hw.few; omega
  rw [sem_is_least_pile]; unfold Sh_is_least_pile
  push_cast [C_is_least_pile, br_joins, b_joins, joins_ev w hw]
  generalize hl : wLoop _ _ _ _ = o
  obtain ⟨s, rfl, hJ, hQ⟩ : ∃ s : BSt, o = .nx (lq w h p s) ∧ (Grown w.n h (lcond w p) s.found ∧ s.df = 1 ∧ (s.late = [] → Shut w.n (lcond w p) s.found)) ∧ s.late = [] := by
    rw [← hl]
    clear hl
    refine wLoop_J (lq w h p) (fun s => Grown w.n h (lcond w p) s.found ∧ s.df = 1 ∧ (s.late = [] → Shut w.n (lcond w p) s.found)) (fun s => s.late = []) (fun s => if s.late = [] then 0 else w.n + 1 - s.found.length) ?_ KK ⟨[h], [h], none, 1, 1, 2⟩ ⟨.start, rfl, fun e => by cases e⟩ ?_
    · rintro ⟨found, late, rest, df, dl, dt⟩ ⟨j1, j2, j3⟩
      dsimp only at j1 j2 j3
      subst j2
      by_cases hlate : late = []
      · exact .inr ⟨⟨found, late, rest, 1, dl, dt⟩, by push_cast [lq, hlate, decide_true, Bool.not_true], ⟨j1, rfl, j3⟩, hlate⟩
      · refine .inl ⟨⟨found, late, rest, 1, dl, dt⟩, by push_cast [lq, hlate, decide_false, Bool.not_false], ?_⟩
        have hfl := j1.len hh
        have hfx := j1.lt hh
        have hf3 := hw.few
        push_cast [lq, w1 _ hn]
        generalize hl : lcLoop _ _ _ _ _ _ _ = o
        obtain ⟨s', rfl⟩ : ∃ s' : Unit, o = _ := by
          rw [← hl]
          refine lc_P pN (fun _ : Unit => [some (w.pv, 0), some (pN h, 0), some (tF w.n p, 0), some (tab w.n (jn w.roads), dt), some (lN found, 1), some (lN late, dl), Option.map (fun r => (lN r, 0)) rest, none]) (fun v => decide (v ∉ found)) pN 0 (List.range w.n) () (by simp; omega) (fun v s hv => ⟨(), ?_⟩)
          by_cases hc : v ∈ found
          · push_cast [hc, decide_true, Bool.not_true, not_true_eq_false, decide_false]
          · push_cast [hc, decide_false, Bool.not_false, not_false_eq_true, decide_true]
        clear hl
        generalize hrest : List.filter (fun v => decide (v ∉ found)) (List.range w.n) = rs
        have hr : ∀ v ∈ rs, v < w.n := by
          intro v hv
          rw [← hrest] at hv
          exact List.mem_range.mp (List.mem_filter.mp hv).1
        have hrl : rs.length ≤ w.n := by
          rw [← hrest]
          exact Nat.le_trans (List.length_filter_le _ _) (by simp)
        push_cast [lND, minD_c pN 0 rs (fun _ _ => rfl)]
        generalize hl : lcLoop _ _ _ _ _ _ _ = o
        obtain ⟨s', rfl⟩ : ∃ s' : Nat × Nat, o = .ok ((rs.filter (lcond w p found)).map fun x => (pN x, 0)) [some (w.pv, 0), some (pN h, 0), some (tF w.n p, 0), some (tab w.n (jn w.roads), s'.1), some (lN found, s'.2), some (lN late, dl), some (lN rs, 0), none] := by
          rw [← hl]
          refine lc_P pN (fun s : Nat × Nat => [some (w.pv, 0), some (pN h, 0), some (tF w.n p, 0), some (tab w.n (jn w.roads), s.1), some (lN found, s.2), some (lN late, dl), some (lN rs, 0), none]) (lcond w p found) pN 0 rs (dt, 1) (by omega) (fun v s hv => ⟨(min s.1 1, 0), ?_⟩)
          have hv' := hr v hv
          unfold lcond
          by_cases hc : p v < (found.map (jn w.roads v)).sum
          · push_cast [hc, gtF _ _ _ hv', gtb _ _ _ hv', br_roads_to, b_roads_to, C_is_least_pile, roads_to_ev _ _ _ _ _ hfx (by omega), decide_true]
          · push_cast [hc, gtF _ _ _ hv', gtb _ _ _ hv', br_roads_to, b_roads_to, C_is_least_pile, roads_to_ev _ _ _ _ _ hfx (by omega), decide_false]
        clear hl
        generalize hla : rs.filter (lcond w p found) = la
        have hg : Grown w.n h (lcond w p) (found ++ la) := by
          rw [← hla, ← hrest]; exact j1.layer
        have hgl := hg.len hh
        rw [List.length_append] at hgl
        push_cast [lND, minD_c pN 0 la (fun _ _ => rfl), catN found la (by omega)]
        refine ⟨⟨found ++ la, la, some rs, 1, 1, s'.1⟩, rfl, ⟨hg, rfl, fun e => ?_⟩, ?_⟩
        · dsimp only at e ⊢
          subst e
          rw [List.append_nil]
          exact shut_of (by rw [hrest]; exact hla)
        · rw [if_neg hlate]
          dsimp only
          by_cases e : la = []
          · rw [if_pos e]; omega
          · rw [if_neg e, List.length_append]
            have : 0 < la.length := List.length_pos_iff.mpr e
            omega
    · dsimp only
      rw [if_neg (by simp)]
      have := hw.few
      unfold KK
      simp
      omega
  obtain ⟨found, late, rest, df, dl, dt⟩ := s
  obtain ⟨j1, j2, j3⟩ := hJ
  dsimp only at j1 j2 j3 hQ
  subst j2
  refine ⟨found, j1, j3 hQ, ?_⟩
  push_cast [lq]
end K77
end
section
set_option linter.all false
set_option maxRecDepth 100000
set_option maxHeartbeats 4000000
/-! Q4: draws. -/
namespace K77
open Mi
theorem source_ok (ns : List Int) (hl : ns.length ≤ 63) : ∃ s : Sce.St, s.cells.length ≤ 63 ∧ F__law_source.sem [(.scr ns, 0)] = .ok (s.pv, 2) [(.scr ns, 0)] := by
  refine ⟨_, ?_, ((sem__law_source).trans Sh__law_source.2.symm ▸ Sce.source_ev (G := ⟨C__law_source, KK, par⟩) hl : _)⟩
  simpa using hl
theorem pick_ok (s : Sce.St) (many : Nat) (h0 : many < 1000000000) (hk : s.cells.length ≤ 63) :
    ∃ (r : Nat) (s' : Sce.St), r < max 1 many ∧ s'.cells.length ≤ 63 ∧ F__law_pick.sem [(s.pv, 2), (pN many, 0)] = .ok (pN r, 0) [(s'.pv, 2), (pN many, 0)] := by
  obtain ⟨a, b⟩ := Sce.pick_rng s (many := (many : Int))
  have hl := Sce.pick_len s (many : Int)
  refine ⟨(Sce.pickF s many).1.toNat, (Sce.pickF s many).2, by omega, by omega, ?_⟩
  have e := Sce.pick_ev (G := ⟨C__law_pick, KK, par⟩) (s := s) (many := (many : Int)) (by omega) (by show _ < KK; unfold KK; omega)
  have q : pN (Sce.pickF s many).1.toNat = .int (Sce.pickF s many).1 := by
    unfold pN
    rw [Int.toNat_of_nonneg a]
  rw [q, sem__law_pick, ← Sh__law_pick.2]
  exact e
theorem of_ok (s : Sce.St) (xs : List Nat) (d : Nat) (h : xs ≠ []) (h0 : xs.length < 1000000000) (hk : s.cells.length ≤ 63) :
    ∃ (r : Nat) (s' : Sce.St), r ∈ xs ∧ s'.cells.length ≤ 63 ∧ F__law_of.sem [(s.pv, 2), (lN xs, d)] = .ok (pN r, 0) [(s'.pv, 2), (lN xs, d)] := by
  obtain ⟨i, s', hi, hs, e⟩ := pick_ok s xs.length h0 hk
  have hl : 0 < xs.length := List.length_pos_iff.mpr h
  have hi' : i < xs.length := by omega
  refine ⟨xs[i], s', List.getElem_mem hi', hs, ?_⟩
  rw [sem__law_of]; unfold Sh__law_of
  push_cast [C__law_of, br__law_pick, b__law_pick, e, glN xs i hi']
theorem mixed_ok (s : Sce.St) (xs : List Nat) (d : Nat) (h0 : xs.length < 1000000) (hk : s.cells.length ≤ 63) :
    ∃ (ys : List Nat) (s' : Sce.St), ys.Perm xs ∧ s'.cells.length ≤ 63 ∧ F__law_mixed.sem [(s.pv, 2), (lN xs, d)] = .ok (lN ys, 1) [(s'.pv, 2), (lN xs, min d 1)] := by
  rw [sem__law_mixed]; unfold Sh__law_mixed
  push_cast [C__law_mixed, w1 _ h0]
  generalize hl : lcLoop _ _ _ _ _ _ _ = o
  obtain ⟨acc, s', rfl, ⟨ys, hacc, hperm, hlen, hs⟩⟩ : ∃ acc, ∃ s' : Sce.St × List Nat, o = .ok acc [some (s'.1.pv, 2), some (lN xs, min d 1), some (lN s'.2, 1), none] ∧
      (∃ ys : List Nat, acc = ys.map (fun y => (pN y, 0)) ∧ (ys ++ s'.2).Perm xs ∧ s'.2.length + (List.range xs.length).length = xs.length ∧ s'.1.cells.length ≤ 63) := by
    rw [← hl]
    clear hl
    refine lc_J pN (fun s : Sce.St × List Nat => [some (s.1.pv, 2), some (lN xs, min d 1), some (lN s.2, 1), none])
      (fun pre acc s => ∃ ys : List Nat, acc = ys.map (fun y => (pN y, 0)) ∧ (ys ++ s.2).Perm xs ∧ s.2.length + pre.length = xs.length ∧ s.1.cells.length ≤ 63) (List.range xs.length) [] [] (s, xs) ⟨[], rfl, List.Perm.refl _, rfl, hk⟩ (by simp; omega) ?_
    rintro pre x post acc ⟨s, rest⟩ e ⟨ys, hacc, hperm, hlen, hs⟩
    dsimp only at hperm hlen hs
    have hpl : pre.length < xs.length := by
      have := congrArg List.length e
      simp at this
      omega
    rw [List.nil_append] at hlen
    obtain ⟨i, s', hi, hs', e⟩ := pick_ok s rest.length (by omega) hs
    have hi' : i < rest.length := by omega
    refine ⟨some (pN rest[i], 0), (s', rest.eraseIdx i), ?_, ys ++ [rest[i]], ?_, ?_, ?_, hs'⟩
    · push_cast [br__law_pick, b__law_pick, e, pop1N hi' (by omega) (Nat.le_refl 1)]
    · rw [hacc]; simp
    · refine List.Perm.trans ?_ hperm
      rw [List.append_assoc]
      refine List.Perm.append_left _ ?_
      rw [List.eraseIdx_eq_take_drop_succ]
      have h1 : rest = rest.take i ++ rest[i] :: rest.drop (i + 1) := by
        rw [List.getElem_cons_drop hi', List.take_append_drop]
      conv => rhs; rw [h1]
      show List.Perm (rest[i] :: (rest.take i ++ rest.drop (i + 1))) _
      exact List.perm_middle.symm
    · rw [List.length_eraseIdx]
      simp [hi']
      omega
  clear hl
  have h0 : s'.2 = [] := by
    simp at hlen
    exact hlen
  rw [h0, List.append_nil] at hperm
  refine ⟨ys, s'.1, hperm, hs, ?_⟩
  subst hacc
  push_cast [lND, minD_c pN 0 ys (fun _ _ => rfl)]

theorem fmodN (a b : Nat) : fn2F .mod (pN a) (.int (b : Int)) = if (b : Int) ≠ 0 then some (.int ((a : Int).fmod b)) else none := rfl
theorem other_ev (e : Nat) : F__law_other.sem [(pN e, 0)] = .ok (pN (ot e), 0) [(pN e, 0)] := by
  rw [sem__law_other]; unfold Sh__law_other
  have h1 : fn1 .int (pN e) = some (pN e) := rfl
  have h2 : fn2F .mod (pN e) (.int 2) = some (.int ((e : Int).fmod 2)) := by
    show (if (2 : Int) ≠ 0 then some (PV.int ((e : Int).fmod 2)) else none) = _
    rw [if_pos (by decide)]
  have h3 : small 2 = true := by decide
  push_cast [h1, h2, mulE, h3, Bool.true_or]
  have h4 : ((e : Int) + 1 - 2 * (e : Int).fmod 2) = (ot e : Int) := by
    rw [Int.fmod_eq_emod_of_nonneg _ (by decide)]
    unfold ot
    split <;> omega
  have h5 : (((e + 1 : Nat) : Int) - 2 * (e : Int).fmod 2) = (ot e : Int) := by rw [← h4]; rfl
  first
    | rw [h4]
    | rw [h5]
  rfl
theorem spots_ev (w : Web) (hm : w.roads.length ≤ 1000) : F__law_spots.sem [(w.pv, 0)] = .ok (lN (spotsF w.roads), 1) [(w.pv, 0)] := by
  rw [sem__law_spots]; unfold Sh__law_spots
  push_cast []
  generalize hl : fLoop _ _ _ _ = o
  obtain ⟨s', l', rfl, hs⟩ : ∃ (s' : List Nat) (l' : Option (Nat × Nat)), o = .nx [some (w.pv, 0), some (lN s', 1), l'.map fun x => (road x, 0)] ∧ s' = spotsF w.roads := by
    rw [← hl]
    clear hl
    refine fLoop_J road (fun l s => [some (w.pv, 0), some (lN s, 1), l.map fun x => (road x, 0)]) (fun pre s => s = spotsF pre) w.roads [] none rfl ?_
    intro pre x post s l e hs
    have hb : s.length + 2 ≤ 16777216 := by
      rw [hs, spots_len]
      have : w.roads.length = pre.length + (post.length + 1) := by rw [e]; simp
      omega
    refine ⟨s ++ [x.1, x.2], ?_, by rw [hs]; simp [spotsF]⟩
    push_cast [catN2 s x.1 x.2 hb]
  clear hl
  rw [hs]
  push_cast []
/-- the ends in the turns -/
def EndsOk (w : Web) : Prop := ∀ t ∈ w.turns, ∀ e ∈ t, e < 2 * w.roads.length
theorem nexts_ok (w : Web) (hm : w.roads.length ≤ 1000) (he : EndsOk w) (ht : ∀ t ∈ w.turns, t.length ≤ 2000) :
    ∃ f : Nat → Nat, (∀ e, f e ≤ 2 * w.roads.length - 1) ∧ F__law_nexts.sem [(w.pv, 0)] = .ok (lF (2 * w.roads.length) (fun e => f e), 1) [(w.pv, 0)] := by
  rw [sem__law_nexts]; unfold Sh__law_nexts
  have h3 : small 2 = true := by decide
  have h4 : fn2F .mul (.int 2) (pN w.roads.length) = some (pN (2 * w.roads.length)) := by
    show (if small 2 || small (w.roads.length : Int) then some (PV.int (2 * (w.roads.length : Int))) else none) = _
    rw [h3, Bool.true_or, if_pos rfl]
    rfl
  push_cast [List.length_map, h4, rep0 _ _ (show 2 * w.roads.length < 1000000 by omega)]
  generalize hl : fLoop _ _ _ _ = o
  obtain ⟨s', l', rfl, hs⟩ : ∃ (s' : (Nat → Nat) × Option (Nat × Nat)) (l' : Option (List Nat)), o = .nx [some (w.pv, 0), some (lF (2 * w.roads.length) fun e => s'.1 e, 1), l'.map fun x => (tN x, 0), s'.2.map fun x => (pN x.2, 0), s'.2.map fun x => (pN x.1, 0)] ∧ (∀ e, s'.1 e ≤ 2 * w.roads.length - 1) := by
    rw [← hl]
    clear hl
    refine fLoop_J tN (fun l (s : (Nat → Nat) × Option (Nat × Nat)) => [some (w.pv, 0), some (lF (2 * w.roads.length) fun e => s.1 e, 1), l.map fun x => (tN x, 0), s.2.map fun x => (pN x.2, 0), s.2.map fun x => (pN x.1, 0)]) (fun pre s => ∀ e, s.1 e ≤ 2 * w.roads.length - 1) w.turns (fun _ => 0, none) none (fun e => by simp) ?_
    rintro pre t post ⟨f, l2⟩ l e hf
    have htm : t ∈ w.turns := by rw [e]; simp
    push_cast [wetN]
    generalize hl : fLoop _ _ _ _ = o
    obtain ⟨s', l', rfl, hs⟩ : ∃ (s' : Nat → Nat) (l' : Option (Nat × Nat)), o = .nx [some (w.pv, 0), some (lF (2 * w.roads.length) fun e => s' e, 1), some (tN t, 0), l'.map fun x => (pN x.2, 0), l'.map fun x => (pN x.1, 0)] ∧ (∀ e, s' e ≤ 2 * w.roads.length - 1) := by
      rw [← hl]
      clear hl
      refine fLoop_J (fun q : Nat × Nat => .tup [pN q.2, pN q.1]) (fun l (s : Nat → Nat) => [some (w.pv, 0), some (lF (2 * w.roads.length) fun e => s e, 1), some (tN t, 0), l.map fun x => (pN x.2, 0), l.map fun x => (pN x.1, 0)]) (fun pre s => ∀ e, s e ≤ 2 * w.roads.length - 1) t.zipIdx f l2 hf ?_
      rintro pre q post f l e hf
      obtain ⟨hk, hq⟩ := zip_mem (xs := t) (q := q) (by rw [e]; simp)
      obtain ⟨j, hj, _, _, hp⟩ := getPrev hk
      have h1 := he t htm _ (List.getElem_mem hj)
      have h2 := he t htm _ (List.getElem_mem hk)
      rw [hq] at h2
      refine ⟨upd f t[j] q.1, ?_, fun e => ?_⟩
      · have e1 := set1 (f := fun e => (f e : Int)) (y := (q.1 : Int)) (d := 1) h1 (Nat.le_refl 1)
        have e2 : (upd (fun e => (f e : Int)) t[j] (q.1 : Int)) = fun e => ((upd f t[j] q.1 e : Nat) : Int) := by
          funext i; unfold upd; split <;> rfl
        rw [e2] at e1
        push_cast [hp, show pN q.1 = .int (q.1 : Int) from rfl, e1]
      · unfold upd
        split
        · omega
        · exact hf e
    clear hl
    exact ⟨(s', l'), by push_cast [], hs⟩
  clear hl
  refine ⟨s'.1, hs, ?_⟩
  push_cast []
/-- the ends of a face, from one on -/
theorem face_ok (w : Web) (hm : w.roads.length ≤ 1000) (he : EndsOk w) (ht : ∀ t ∈ w.turns, t.length ≤ 2000) (e0 : Nat) (h0 : e0 < 2 * w.roads.length) :
    ∃ xs : List Nat, e0 ∈ xs ∧ (∀ e ∈ xs, e < 2 * w.roads.length) ∧ xs.length ≤ 2 * w.roads.length ∧ F__law_face.sem [(w.pv, 0), (pN e0, 0)] = .ok (lN xs, 1) [(w.pv, 0), (.non, 0)] := by
  obtain ⟨f, hf, e⟩ := nexts_ok w hm he ht
  rw [sem__law_face]; unfold Sh__law_face
  push_cast [C__law_face, br__law_nexts, b__law_nexts, e]
  generalize hl : wLoop _ _ _ _ = o
  obtain ⟨s, rfl, hJ, hQ⟩ : ∃ s : List Nat × Nat, o = .nx [some (w.pv, 0), some (pN s.2, 0), some (lF (2 * w.roads.length) (fun e => f e), 1), some (lN s.1, 1)] ∧ (s.1.Nodup ∧ (∀ e ∈ s.1, e < 2 * w.roads.length) ∧ s.2 < 2 * w.roads.length ∧ (s.1 = [] → s.2 = e0) ∧ (s.1 ≠ [] → e0 ∈ s.1)) ∧ s.2 ∈ s.1 := by
    rw [← hl]
    clear hl
    refine wLoop_J (fun s : List Nat × Nat => [some (w.pv, 0), some (pN s.2, 0), some (lF (2 * w.roads.length) (fun e => f e), 1), some (lN s.1, 1)]) (fun s => s.1.Nodup ∧ (∀ e ∈ s.1, e < 2 * w.roads.length) ∧ s.2 < 2 * w.roads.length ∧ (s.1 = [] → s.2 = e0) ∧ (s.1 ≠ [] → e0 ∈ s.1)) (fun s => s.2 ∈ s.1) (fun s => 2 * w.roads.length + 1 - s.1.length) ?_ KK ([], e0) ⟨List.nodup_nil, (fun e h => by cases h), h0, fun _ => rfl, fun h => absurd rfl h⟩ (by unfold KK; simp; omega)
    rintro ⟨xs, x⟩ ⟨j1, j2, j3, j4, j5⟩
    dsimp only at j1 j2 j3 j4 j5
    have hl := nodup_len j1 j2
    by_cases hx : x ∈ xs
    · exact .inr ⟨(xs, x), by push_cast [hx, decide_true, Bool.not_true], ⟨j1, j2, j3, j4, j5⟩, hx⟩
    · have hot : ot x < 2 * w.roads.length := ot_lt j3
      have hd : (xs ++ [x]).Nodup := by
        rw [List.nodup_append]
        exact ⟨j1, by simp, fun a ha b hb e => by simp at hb; subst hb; subst e; exact hx ha⟩
      have hb : ∀ e ∈ xs ++ [x], e < 2 * w.roads.length := by
        intro e h
        rcases List.mem_append.mp h with h | h
        · exact j2 e h
        · rw [List.mem_singleton.mp h]; exact j3
      have hl2 := nodup_len hd hb
      refine .inl ⟨(xs, x), by push_cast [hx, decide_false, Bool.not_false], (xs ++ [x], f (ot x)), ?_, ⟨hd, hb, ?_, fun h => by simp at h, fun _ => ?_⟩, ?_⟩
      · have hg := glF (2 * w.roads.length) (ot x) (fun e => (f e : Int)) hot
        push_cast [appN (xs := xs) (y := x) (d := 1) (by omega) (Nat.le_refl 1), C__law_face, br__law_other, b__law_other, other_ev, hg]
        rfl
      · have := hf (ot x)
        dsimp only
        omega
      · dsimp only
        by_cases hn : xs = []
        · rw [j4 hn]; simp
        · exact List.mem_append_left _ (j5 hn)
      · simp at hl2 ⊢
        omega
  clear hl
  obtain ⟨xs, x⟩ := s
  obtain ⟨j1, j2, j3, j4, j5⟩ := hJ
  refine ⟨xs, j5 (fun h => by dsimp only at h hQ; rw [h] at hQ; cases hQ), j2, nodup_len j1 j2, ?_⟩
  push_cast []
end K77
end
section
set_option linter.all false
set_option maxRecDepth 100000
set_option maxHeartbeats 4000000
/-! Q5: drawn webs. -/
namespace K77
open Mi
theorem grown_ok (s : Sce.St) (w : Web) (hw : WebGood w) (way : Nat) (hn : w.n ≤ 100) (hm : w.roads.length ≤ 400) (hk : s.cells.length ≤ 63) :
    ∃ (w' : Web) (s' : Sce.St), WebGood w' ∧ w'.n = w.n ∧ w'.roads.length = w.roads.length + 1 ∧ s'.cells.length ≤ 63 ∧ F__law_grown.sem [(s.pv, 2), (w.pv, 0), (pN way, 0)] = .ok (w'.pv, 0) [(s'.pv, 2), (w.pv, 0), (pN way, 0)] := by
  rw [sem__law_grown]; unfold Sh__law_grown
  push_cast []
  generalize hl : lcLoop _ _ _ _ _ _ _ = o
  obtain ⟨s1, rfl⟩ : ∃ s1 : Unit, o = _ := by
    rw [← hl]
    refine lc_M tN (fun _ : Unit => [some (s.pv, 2), some (w.pv, 0), some (pN way, 0), none, none, none, none, none, none, none, none, none, none]) lN 1 w.turns () (by rw [hw.len]; omega) (fun x s hx => ⟨(), ?_⟩)
    push_cast []
  clear hl
  have hm1 := minD_l lN 1 w.turns (fun h => by have := hw.len; rw [h] at this; have := hw.pos; simp at *; omega) (fun _ _ => rfl)
  by_cases h0 : w.roads.length = 0
  · have e0 : ((w.roads.length : Nat) : Int) = 0 := by omega
    refine ⟨⟨1, [(0, 0)], [[0, 1]]⟩, s, web1_good, (hw.one h0).symm, by rw [h0]; rfl, hk, ?_⟩
    push_cast [hm1, List.length_map, e0, decide_true]
    rw [hw.one h0]
    rfl
  have e0 : ¬ ((w.roads.length : Nat) : Int) = 0 := by omega
  obtain ⟨one, s2, hone, hs2, e1⟩ := pick_ok s (2 * w.roads.length) (by omega) hk
  have hone : one < 2 * w.roads.length := by omega
  have e2 := spots_ev w (by omega)
  push_cast [hm1, List.length_map, e0, decide_false, C__law_grown, br__law_pick, b__law_pick, e1, br__law_spots, b__law_spots, e2]
  generalize hA : Out.run _ _ = oA
  obtain ⟨xs, rfl, hx1, hx2⟩ : ∃ xs : List Nat, oA = .nx [some (s2.pv, 2), some (w.pv, 0), some (pN way, 0), some (pN w.n, 0), some (.lst (w.roads.map road), 1), some (lLN w.turns, 2), none, some (pN w.roads.length, 0), some (pN one, 0), some (lN (spotsF w.roads), 1), some (lN xs, 1), none, none] ∧ (∀ e ∈ xs, e < 2 * w.roads.length) ∧ ((way = 0 ∧ one ∈ xs ∧ xs.length ≤ 2 * w.roads.length) ∨ xs = List.range (2 * w.roads.length)) := by
    rw [← hA]
    clear hA
    by_cases hway : (way : Int) = 0
    · obtain ⟨xs, a1, a2, a3, a4⟩ := face_ok w (by omega) hw.ends_ok (fun t ht => by have := hw.len_ok t ht; omega) one hone
      refine ⟨xs, ?_, a2, .inl ⟨by omega, a1, a3⟩⟩
      push_cast [hway, decide_true, C__law_grown, br__law_face, b__law_face, a4]
    · refine ⟨List.range (2 * w.roads.length), ?_, fun e he => List.mem_range.mp he, .inr rfl⟩
      push_cast [hway, decide_false, wrngN _ (show 2 * w.roads.length < 1000000 by omega)]
  clear hA
  push_cast []
  generalize hB : orStop _ _ = oB
  obtain ⟨ys, d, rfl, hy1, hy2, hy3⟩ : ∃ (ys : List Nat) (d : Nat), oB = .nx [some (s2.pv, 2), some (w.pv, 0), some (pN way, 0), some (pN w.n, 0), some (.lst (w.roads.map road), 1), some (lLN w.turns, 2), none, some (pN w.roads.length, 0), some (pN one, 0), some (lN (spotsF w.roads), 1), some (lN ys, d), none, none] ∧ (∀ e ∈ ys, e < 2 * w.roads.length) ∧ ys ≠ [] ∧ ys.length ≤ 1000 := by
    rw [← hB]
    clear hB
    by_cases c : (way : Int) = 2 ∧ 1 < (w.n : Int)
    · obtain ⟨c1, c2⟩ := c
      have hx : xs = List.range (2 * w.roads.length) := by
        rcases hx2 with ⟨h, _⟩ | h
        · omega
        · exact h
      push_cast [c1, c2, decide_true]
      generalize hl : lcLoop _ _ _ _ _ _ _ = o
      obtain ⟨s1, rfl⟩ : ∃ s1 : Unit, o = .ok ((xs.filter fun e => decide (sp w.roads e ≠ sp w.roads one)).map fun e => (pN e, 0)) [some (s2.pv, 2), some (w.pv, 0), some (pN way, 0), some (pN w.n, 0), some (.lst (w.roads.map road), 1), some (lLN w.turns, 2), none, some (pN w.roads.length, 0), some (pN one, 0), some (lN (spotsF w.roads), 1), some (lN xs, 0), none, none] := by
        rw [← hl]
        refine lc_P pN (fun _ : Unit => [some (s2.pv, 2), some (w.pv, 0), some (pN way, 0), some (pN w.n, 0), some (.lst (w.roads.map road), 1), some (lLN w.turns, 2), none, some (pN w.roads.length, 0), some (pN one, 0), some (lN (spotsF w.roads), 1), some (lN xs, 0), none, none]) (fun e => decide (sp w.roads e ≠ sp w.roads one)) pN 0 xs () (by rw [hx]; simp; omega) (fun x s hxm => ⟨(), ?_⟩)
        have hxl := hx1 x hxm
        by_cases e : sp w.roads x = sp w.roads one
        · push_cast [lnSp _ _ hxl, lnSp _ _ hone, e, decide_true, Bool.not_true, ne_eq, not_true_eq_false, decide_false]
        · push_cast [lnSp _ _ hxl, lnSp _ _ hone, e, decide_false, Bool.not_false, ne_eq, not_false_eq_true, decide_true]
      clear hl
      generalize hys : (xs.filter fun e => decide (sp w.roads e ≠ sp w.roads one)) = ys
      refine ⟨ys, 1, ?_, ?_, ?_, ?_⟩
      · push_cast [lND, minD_c pN 0 ys (fun _ _ => rfl)]
      · intro e he
        rw [← hys] at he
        exact hx1 e (List.mem_filter.mp he).1
      · obtain ⟨e, h1, h2⟩ := hw.else_ (by omega) (sp w.roads one)
        intro h
        rw [h] at hys
        have := List.filter_eq_nil_iff.mp hys e (by rw [hx]; exact List.mem_range.mpr h1)
        simp at this
        exact h2 this
      · rw [← hys]
        refine Nat.le_trans (List.length_filter_le _ _) ?_
        rw [hx]; simp; omega
    · refine ⟨xs, 0, ?_, hx1, ?_, ?_⟩
      · by_cases c1 : (way : Int) = 2
        · have c2 : ¬ 1 < (w.n : Int) := fun h => c ⟨c1, h⟩
          push_cast [c1, c2, decide_true, decide_false]
        · push_cast [c1, decide_false]
      · rcases hx2 with ⟨_, h, _⟩ | h
        · intro e; rw [e] at h; cases h
        · rw [h]; intro e; have := congrArg List.length e; simp at this; omega
      · rcases hx2 with ⟨_, _, h⟩ | h
        · omega
        · rw [h]; simp; omega
  clear hB
  have hyl : ys.length < 1000000000 := by omega
  obtain ⟨other, s3, ho, hs3, e3⟩ := of_ok s2 ys d hy2 hyl hs2
  have ho := hy1 other ho
  have ha := sp_lt hw.ends hone
  have hb := sp_lt hw.ends ho
  have hla : sp w.roads one < w.turns.length := by rw [hw.len]; exact ha
  have hlb : sp w.roads other < w.turns.length := by rw [hw.len]; exact hb
  have hm3 := (hw.mem _ ha one).mpr ⟨hone, rfl⟩
  refine ⟨grownW w one other, s3, grown_good hw hone ho, rfl, by simp [grownW], hs3, ?_⟩
  have la := hw.t_len ha
  have lb := hw.t_len hb
  have g1 : getF (lLN w.turns) (pN (sp w.roads one)) = some (lN (w.t (sp w.roads one))) := glLN' w.turns _ hla
  have i1 := indexNF hm3
  have m1 := insLN' (ts := w.turns) (v := sp w.roads one) (i := (w.t (sp w.roads one)).idxOf one) (e := 2 * w.roads.length) hla (by have := List.idxOf_lt_length_iff.mpr hm3; omega) (by show (w.t (sp w.roads one)).length < _; omega)
  generalize ht1 : w.turns.set (sp w.roads one) (insAt ((w.t (sp w.roads one)).idxOf one) (2 * w.roads.length) (w.t (sp w.roads one))) = t1
  have hl1 : t1.length = w.turns.length := by rw [← ht1, List.length_set]
  have hlb' : sp w.roads other < t1.length := by rw [hl1]; exact hlb
  have hx : ∀ e, e ∈ w.t (sp w.roads other) → e ∈ (t1[sp w.roads other]?).getD [] := by
    intro e he
    rw [← ht1, t_set hla]
    split
    · next h => rw [insAt_mem]; rw [h] at he; exact .inr he
    · exact he
  have hxl : ((t1[sp w.roads other]?).getD []).length ≤ 2000 := by
    rw [← ht1, t_set hla]
    split
    · rw [insAt_len]; omega
    · show (w.t (sp w.roads other)).length ≤ _; omega
  have hm4 := hx other ((hw.mem _ hb other).mpr ⟨ho, rfl⟩)
  have g2 := glLN' t1 _ hlb'
  have i2 := indexNF hm4
  have m2 := insLN' (ts := t1) (v := sp w.roads other) (i := ((t1[sp w.roads other]?).getD []).idxOf other) (e := 2 * w.roads.length + 1) hlb' (by have := List.idxOf_lt_length_iff.mpr hm4; omega) (by omega)
  have ht1' : w.turns.set (sp w.roads one) (insAt ((w.t (sp w.roads one)).idxOf one) (2 * w.roads.length) ((w.turns[sp w.roads one]?).getD [])) = t1 := ht1
  rw [ht1'] at m1
  have hG : (grownW w one other).pv = .tup [pN w.n, .tup (w.roads.map road ++ [.tup [pN (sp w.roads one), pN (sp w.roads other)]]), .tup ((t1.set (sp w.roads other) (insAt (((t1[sp w.roads other]?).getD []).idxOf other) (2 * w.roads.length + 1) ((t1[sp w.roads other]?).getD []))).map tN)] := by
    unfold grownW Web.pv
    dsimp only
    rw [ht1, List.map_append]
    rfl
  rw [hG]
  have ht2 : (t1.set (sp w.roads other) (insAt (((t1[sp w.roads other]?).getD []).idxOf other) (2 * w.roads.length + 1) ((t1[sp w.roads other]?).getD []))).length = w.n := by rw [List.length_set, hl1, hw.len]
  generalize t1.set (sp w.roads other) (insAt (((t1[sp w.roads other]?).getD []).idxOf other) (2 * w.roads.length + 1) ((t1[sp w.roads other]?).getD [])) = t2 at m2 ht2
  push_cast [C__law_grown, br__law_of, b__law_of, e3, lnSp _ _ hone, lnSp _ _ ho, appL (xs := w.roads.map road) (y := .tup [pN (sp w.roads one), pN (sp w.roads other)]) (d := 1) (by simp; omega) (Nat.le_refl 1) rfl, rec_ins hla, rec_ins hlb', g1, i1, m1, g2, i2, m2]
  generalize hl : lcLoop _ _ _ _ _ _ _ = o
  obtain ⟨s1, rfl⟩ : ∃ s1 : Unit, o = _ := by
    rw [← hl]
    refine lc_M lN (fun _ : Unit => [some (s3.pv, 2), some (w.pv, 0), some (pN way, 0), some (pN w.n, 0), some (PV.lst (List.map road w.roads ++ [PV.tup [pN (sp w.roads one), pN (sp w.roads other)]]), 1), some (lLN t2, 0), none, some (pN w.roads.length, 0), some (pN one, 0), some (lN (spotsF w.roads), 1), some (lN ys, d), none, some (pN other, 0)]) tN 0 t2 () (by omega) (fun x s hx => ⟨(), ?_⟩)
    push_cast []
  clear hl
  push_cast [minD_c tN 0 t2 (fun _ _ => rfl)]
end K77
end
section
set_option linter.all false
set_option maxRecDepth 100000
set_option maxHeartbeats 4000000
/-! Q6: webs called otherwise. -/
namespace K77
open Mi
theorem renamed_ok (s : Sce.St) (w : Web) (hw : WebGood w) (hn : w.n ≤ 100) (hm : w.roads.length ≤ 400) (hk : s.cells.length ≤ 63) :
    ∃ (w' : Web) (s' : Sce.St), WebGood w' ∧ w'.n = w.n ∧ w'.roads.length = w.roads.length ∧ s'.cells.length ≤ 63 ∧ F__law_renamed.sem [(s.pv, 2), (w.pv, 0)] = .ok (w'.pv, 0) [(s'.pv, 2), (w.pv, 0)] := by
  rw [sem__law_renamed]; unfold Sh__law_renamed
  obtain ⟨names, s1, hp1, hs1, e1⟩ := mixed_ok s (List.range w.n) 1 (by simp; omega) hk
  obtain ⟨places, s2, hp2, hs2, e2⟩ := mixed_ok s1 (List.range w.roads.length) 1 (by simp; omega) hs1
  push_cast [List.length_map, wrngN w.n (by omega), wrngN w.roads.length (by omega), C__law_renamed, br__law_mixed, b__law_mixed, e1, e2, rep1 w.n _ (show w.n < 1000000 by omega), w1 w.roads.length (by omega), lT0, nd0]
  generalize hl : fLoop _ _ _ _ = o
  have hpl1 := perm_len hp1
  have hpl2 := perm_len hp2
  obtain ⟨⟨k, f⟩, l', rfl, hk1, hf⟩ : ∃ (st : Nat × (Nat → Nat)) (l' : Option Nat), o = .nx [some (s2.pv, 2), some (w.pv, 0), some (pN w.n, 0), some (pN w.roads.length, 0), some (lN names, 1), some (lN places, 1), some (.dct (dE st.1 st.2), 1), some (lTN (List.map (fun x => []) (List.range w.n)), 1), l'.map fun x => (pN x, 0), none, none, none, none, none] ∧ st.1 = 2 * (List.range w.roads.length).length ∧ ∀ e, e < st.1 → st.2 e = em places e := by
    rw [← hl]
    clear hl
    refine fLoop_J pN (fun l (st : Nat × (Nat → Nat)) => [some (s2.pv, 2), some (w.pv, 0), some (pN w.n, 0), some (pN w.roads.length, 0), some (lN names, 1), some (lN places, 1), some (.dct (dE st.1 st.2), 1), some (lTN (List.map (fun x => []) (List.range w.n)), 1), l.map fun x => (pN x, 0), none, none, none, none, none]) (fun pre st => st.1 = 2 * pre.length ∧ ∀ e, e < st.1 → st.2 e = em places e) (List.range w.roads.length) (0, fun _ => 0) none ⟨rfl, fun e h => absurd h (by simp)⟩ ?_
    rintro pre x post ⟨k, f⟩ l e ⟨hk1, hf⟩
    dsimp only at hk1 hf
    obtain ⟨hx, hxm⟩ := range_split e
    have hxl : x < places.length := by omega
    have hk2 : k = 2 * x := by omega
    clear hk1
    subst hk2
    refine ⟨(2 * x + 2, upd (upd f (2 * x) (2 * nmOf places x)) (2 * x + 1) (2 * nmOf places x + 1)), ?_, ?_, ?_⟩
    · push_cast [lnNm _ _ hxl, keyN, nd2', mnF, updDE (show 2 * x < 1000000 by omega)]
    · simp; omega
    · intro e he
      dsimp only at he ⊢
      unfold upd
      by_cases c1 : e = 2 * x + 1
      · rw [if_pos c1, c1]
        unfold em nmOf
        have e1 : (2 * x + 1) / 2 = x := by omega
        have e2 : (2 * x + 1) % 2 = 1 := by omega
        rw [e1, e2]
      · rw [if_neg c1]
        by_cases c2 : e = 2 * x
        · rw [if_pos c2, c2]
          unfold em nmOf
          have e1 : (2 * x) / 2 = x := by omega
          have e2 : (2 * x) % 2 = 0 := by omega
          rw [e1, e2]
          rfl
        · rw [if_neg c2]
          exact hf e (by omega)
  clear hl
  dsimp only at hk1 hf
  have hk2 : k = 2 * w.roads.length := by simpa using hk1
  clear hk1
  subst hk2
  push_cast [enumT]
  generalize hl : fLoop _ _ _ _ = o
  obtain ⟨⟨s3, T, kk⟩, l2, rfl, hTl, hs3, hT⟩ : ∃ (st : Sce.St × List (List Nat) × Option Int) (l2 : Option (List Nat × Nat)), o = .nx [some (st.1.pv, 2), some (w.pv, 0), some (pN w.n, 0), some (pN w.roads.length, 0), some (lN names, 1), some (lN places, 1), some (.dct (dE (2 * w.roads.length) f), 1), some (lTN st.2.1, 1), l'.map fun x => (pN x, 0), l2.map fun x => (pN x.2, 0), l2.map fun x => (tN x.1, 0), st.2.2.map fun x => (.int x, 0), none, none] ∧ st.2.1.length = w.n ∧ st.1.cells.length ≤ 63 ∧ ∀ v, v < w.turns.zipIdx.length → ((st.2.1[nmOf names v]?).getD []).Perm ((w.t v).map (em places)) := by
    rw [← hl]
    clear hl
    refine fLoop_J (fun q : List Nat × Nat => .tup [pN q.2, tN q.1]) (fun l2 (st : Sce.St × List (List Nat) × Option Int) => [some (st.1.pv, 2), some (w.pv, 0), some (pN w.n, 0), some (pN w.roads.length, 0), some (lN names, 1), some (lN places, 1), some (.dct (dE (2 * w.roads.length) f), 1), some (lTN st.2.1, 1), l'.map fun x => (pN x, 0), l2.map fun x => (pN x.2, 0), l2.map fun x => (tN x.1, 0), st.2.2.map fun x => (.int x, 0), none, none]) (fun pre st => st.2.1.length = w.n ∧ st.1.cells.length ≤ 63 ∧ ∀ v, v < pre.length → ((st.2.1[nmOf names v]?).getD []).Perm ((w.t v).map (em places))) w.turns.zipIdx (s2, (List.range w.n).map fun _ => [], none) none ⟨by simp, hs2, fun v h => absurd h (by simp)⟩ ?_
    rintro pre ⟨t, v⟩ post ⟨s, T, kk⟩ l2 e ⟨hTl, hs, hT⟩
    dsimp only at hTl hs hT
    obtain ⟨hv1, hv2, hv3⟩ := zip_split e
    dsimp only at hv1 hv2 hv3
    rw [hw.len] at hv2
    have ht : t = w.t v := by unfold Web.t; rw [hv3]; rfl
    have htl : t.length ≤ 2 * w.roads.length := by rw [ht]; exact hw.t_len hv2
    have htm : ∀ x ∈ t, x < 2 * w.roads.length := by rw [ht]; exact hw.t_lt hv2
    have hnv := nmOf_lt hp1 hv2
    obtain ⟨k, s', hk, hs', e3⟩ : ∃ (k : Nat) (s' : Sce.St), k ≤ t.length ∧ s'.cells.length ≤ 63 ∧ (t = [] → k = 0 ∧ s' = s) ∧ (t ≠ [] → F__law_pick.sem [(s.pv, 2), (pN t.length, 0)] = .ok (.int (k : Int), 0) [(s'.pv, 2), (pN t.length, 0)]) := by
      by_cases ht0 : t = []
      · exact ⟨0, s, by omega, hs, fun _ => ⟨rfl, rfl⟩, fun h => absurd ht0 h⟩
      · obtain ⟨k, s', h1, h2, h3⟩ := pick_ok s t.length (by omega) hs
        have : 0 < t.length := List.length_pos_iff.mpr ht0
        exact ⟨k, s', by omega, h2, fun h => absurd h ht0, fun _ => h3⟩
    have hlc : ∀ (ρ8 : Option Mi.Arg) (xs : List Nat) (o : Out (List Mi.Arg)), (∀ x ∈ xs, x < 2 * w.roads.length) → xs.length ≤ 10000 → 
      lcLoop (fun x ρ => if 12 < List.length ρ then some (setF ρ 12 (some (x, 0))) else none) (fun ρ => Out.ok true ρ) (fun ρ => orStuck (slotF ρ 6) fun a => orStuck (Option.map (fun x => x.fst) (slotF ρ 12)) fun y => orStuck (getF a.fst y) fun x => Out.ok (x, 0) (if isL x = true then lower 6 1 ρ else ρ)) [12] (xs.map pN) []
        [some (s'.pv, 2), some (w.pv, 0), some (pN w.n, 0), some (pN w.roads.length, 0), some (lN names, 1), some (lN places, 1), some (.dct (dE (2 * w.roads.length) f), 1), some (lTN T, 1), ρ8, some (pN v, 0), some (tN t, 0), some (.int (k : Int), 0), none, none] = .ok (xs.map fun e => (pN (f e), 0)) [some (s'.pv, 2), some (w.pv, 0), some (pN w.n, 0), some (pN w.roads.length, 0), some (lN names, 1), some (lN places, 1), some (.dct (dE (2 * w.roads.length) f), 1), some (lTN T, 1), ρ8, some (pN v, 0), some (tN t, 0), some (.int (k : Int), 0), none, none] := by
      intro ρ8 xs o hxs hxl
      obtain ⟨_, h⟩ := lc_M (bind := fun x ρ => if 12 < List.length ρ then some (setF ρ 12 (some (x, 0))) else none) (test := fun ρ => Out.ok true ρ) (elt := fun ρ => orStuck (slotF ρ 6) fun a => orStuck (Option.map (fun x => x.fst) (slotF ρ 12)) fun y => orStuck (getF a.fst y) fun x => Out.ok (x, 0) (if isL x = true then lower 6 1 ρ else ρ)) (own := [12]) pN (fun _ : Unit => [some (s'.pv, 2), some (w.pv, 0), some (pN w.n, 0), some (pN w.roads.length, 0), some (lN names, 1), some (lN places, 1), some (.dct (dE (2 * w.roads.length) f), 1), some (lTN T, 1), ρ8, some (pN v, 0), some (tN t, 0), some (.int (k : Int), 0), none, none]) (fun e => pN (f e)) 0 xs () (by omega) (fun x _ hx => ⟨(), by
        push_cast [dE_get _ _ _ (hxs x hx)]⟩)
      exact h
    refine ⟨(s', T.set (nmOf names v) ((t.drop k ++ t.take k).map f), some (k : Int)), ?_, ?_, hs', ?_⟩
    · have hst := set1T (ts := T) (v := nmOf names v) (t := (t.drop k ++ t.take k).map f) (by rw [hTl]; exact hnv)
      have hnv' : v < names.length := by omega
      have hcat := catTN (t.drop k) (t.take k) (by simp; omega)
      have hlc' := fun ρ8 => hlc ρ8 (t.drop k ++ t.take k) .stuck (fun x hx => htm x ((rot_perm t k).mem_iff.mp hx)) (by rw [(rot_perm t k).length_eq]; omega)
      have hmD := minD_c (fun e => pN (f e)) 0 (t.drop k ++ t.take k) (fun _ _ => rfl)
      have hsf := slFrom t k hk
      have hst2 := slTo t k hk
      generalize t.drop k ++ t.take k = rt at hst hcat hlc' hmD
      by_cases ht0 : t = []
      · obtain ⟨rfl, rfl⟩ := e3.1 ht0
        have c0 : ((0 : Nat) : Int) = 0 := rfl
        have hd0 : decide (t = []) = true := decide_eq_true ht0
        simp only [c0] at hlc' hsf hst2
        push_cast [vO, vV, peqT0, hd0, Bool.not_true, wide0, hsf, hst2, hcat, hlc', hmD, tNmap, lnNm _ _ hnv', hst, c0]
      · push_cast [vO, vV, peqT0, ht0, decide_false, Bool.not_false, C__law_renamed, br__law_pick, b__law_pick, e3.2 ht0, idxD k (by omega), hsf, hst2, hcat, hlc', hmD, tNmap, lnNm _ _ hnv', hst]
    · simpa using hTl
    · intro u hu
      rw [List.length_append, List.length_singleton] at hu
      dsimp only
      rw [t_set (by rw [hTl]; exact hnv)]
      by_cases c : u = v
      · subst c
        rw [if_pos rfl, ← ht]
        refine ((rot_perm t k).map f).trans ?_
        rw [List.map_congr_left fun x hx => hf x (htm x hx)]
      · rw [if_neg (fun h => c (nmOf_inj hp1 (by omega) hv2 h))]
        exact hT u (by omega)
  clear hl
  dsimp only at hTl hs3 hT
  push_cast [lwMN, w1 w.roads.length (by omega)]
  generalize hl : lcLoop _ _ _ _ _ _ _ = o
  obtain ⟨s1, rfl⟩ : ∃ s1 : Unit, o = .ok ((List.range w.roads.length).map fun r => (road (nmOf names (sp w.roads (2 * places.idxOf r)), nmOf names (sp w.roads (2 * places.idxOf r + 1))), 0)) [some (s3.pv, 2), some (w.pv, 0), some (pN w.n, 0), some (pN w.roads.length, 0), some (lN names, 1), some (lN places, 1), some (PV.dct (dE (2 * w.roads.length) f), 1), some (lTN T, 1), none, Option.map (fun x => (pN x.snd, 0)) l2, Option.map (fun x => (tN x.fst, 0)) l2, Option.map (fun x => (PV.int x, 0)) kk, none, none] := by
    rw [← hl]
    refine lc_M pN (fun _ : Unit => [some (s3.pv, 2), some (w.pv, 0), some (pN w.n, 0), some (pN w.roads.length, 0), some (lN names, 1), some (lN places, 1), some (PV.dct (dE (2 * w.roads.length) f), 1), some (lTN T, 1), none, Option.map (fun x => (pN x.snd, 0)) l2, Option.map (fun x => (tN x.fst, 0)) l2, Option.map (fun x => (PV.int x, 0)) kk, none, none]) (fun r => road (nmOf names (sp w.roads (2 * places.idxOf r)), nmOf names (sp w.roads (2 * places.idxOf r + 1)))) 0 (List.range w.roads.length) () (by simp; omega) (fun r s hr => ⟨(), ?_⟩)
    have hr := List.mem_range.mp hr
    have hmem := (perm_mem hp2).mpr hr
    obtain ⟨hi, _⟩ := nmOf_ix hp2 hr
    have hn1 := hw.ends _ (List.getElem_mem hi)
    push_cast [indexNF hmem, webRd _ _ hi, sp_e0 hi, sp_e1 hi, lnNm names _ (show (w.roads[places.idxOf r]).1 < names.length by omega), lnNm names _ (show (w.roads[places.idxOf r]).2 < names.length by omega)]
    rfl
  clear hl
  have hR : Renamed w ⟨w.n, (List.range w.roads.length).map fun r => (nmOf names (sp w.roads (2 * places.idxOf r)), nmOf names (sp w.roads (2 * places.idxOf r + 1))), T⟩ names places := ⟨rfl, rfl, hTl, fun v hv => hT v (by rw [List.length_zipIdx, hw.len]; exact hv)⟩
  refine ⟨_, s3, renamed_good hw hp1 hp2 hR, rfl, by simp, hs3, ?_⟩
  have hmD := minD_c (fun r => road (nmOf names (sp w.roads (2 * places.idxOf r)), nmOf names (sp w.roads (2 * places.idxOf r + 1)))) 0 (List.range w.roads.length) (fun _ _ => rfl)
  push_cast [hmD]
  unfold Web.pv
  simp only [List.map_map, Function.comp_def]
end K77
end
section
set_option linter.all false
set_option maxRecDepth 100000
set_option maxHeartbeats 4000000
/-! Q7: a drawn web. -/
namespace K77
open Mi
theorem web_ok (s : Sce.St) (c m : Nat) (hc : 1 ≤ c) (hc2 : c ≤ 100) (hm : m ≤ 100) (hk : s.cells.length ≤ 63) :
    ∃ (w : Web) (s' : Sce.St), WebGood w ∧ w.n = c ∧ w.roads.length = c - 1 + m ∧ s'.cells.length ≤ 63 ∧ F__law_web.sem [(s.pv, 2), (pN c, 0), (pN m, 0), (.int 3, 0)] = .ok (w.pv, 0) [(s'.pv, 2), (pN c, 0), (pN m, 0), (.non, 0)] := by
  rw [sem__law_web]; unfold Sh__law_web
  obtain ⟨way, s1, hway, hs1, e1⟩ := pick_ok s 3 (by omega) hk
  have e1 : F__law_pick.sem [(s.pv, 2), (.int 3, 0)] = .ok (pN way, 0) [(s1.pv, 2), (.int 3, 0)] := e1
  have w0 : PV.tup [PV.int 1, PV.tup [], PV.tup [PV.tup []]] = (⟨1, [], [[]]⟩ : Web).pv := rfl
  push_cast [C__law_web, br__law_pick, b__law_pick, e1, decide_true, w2 c (by omega), w0]
  generalize hl : fLoop _ _ _ _ = o
  obtain ⟨⟨s2, w, tl⟩, l', rfl, hg, hwn, hwr, hs2⟩ : ∃ (st : Sce.St × Web × Option (Nat × Nat × List (List Nat) × Nat × Nat × PV)) (l' : Option Nat), o = .nx [some (st.1.pv, 2), some (pN c, 0), some (pN m, 0), some (pN way, 0), some (st.2.1.pv, 0), l'.map fun x => (pN x, 0), st.2.2.map fun x => (pN x.1, 0), st.2.2.map fun x => (pN x.2.1, 0), st.2.2.map fun x => (lTN x.2.2.1, 1), st.2.2.map fun x => (pN x.2.2.2.1, 0), st.2.2.map fun x => (.int (x.2.2.2.2.1 : Int), 0), st.2.2.map fun x => (x.2.2.2.2.2, 0), none] ∧ WebGood st.2.1 ∧ st.2.1.n = (List.range' 1 (c - 1)).length + 1 ∧ st.2.1.roads.length = (List.range' 1 (c - 1)).length ∧ st.1.cells.length ≤ 63 := by
    rw [← hl]
    clear hl
    refine fLoop_J pN (fun l (st : Sce.St × Web × Option (Nat × Nat × List (List Nat) × Nat × Nat × PV)) => [some (st.1.pv, 2), some (pN c, 0), some (pN m, 0), some (pN way, 0), some (st.2.1.pv, 0), l.map fun x => (pN x, 0), st.2.2.map fun x => (pN x.1, 0), st.2.2.map fun x => (pN x.2.1, 0), st.2.2.map fun x => (lTN x.2.2.1, 1), st.2.2.map fun x => (pN x.2.2.2.1, 0), st.2.2.map fun x => (.int (x.2.2.2.2.1 : Int), 0), st.2.2.map fun x => (x.2.2.2.2.2, 0), none]) (fun pre st => WebGood st.2.1 ∧ st.2.1.n = pre.length + 1 ∧ st.2.1.roads.length = pre.length ∧ st.1.cells.length ≤ 63) (List.range' 1 (c - 1)) (s1, ⟨1, [], [[]]⟩, none) none ⟨web0_good, rfl, rfl, hs1⟩ ?_
    rintro pre v post ⟨s, w, tl⟩ l e ⟨hg, hwn, hwr, hs⟩
    dsimp only at hg hwn hwr hs
    obtain ⟨hv1, hv2⟩ := range'_split e
    have hvn : v = w.n := by omega
    subst hvn
    obtain ⟨at_, s2, ha, hs2, e2⟩ := pick_ok s w.n (by omega) hs
    obtain ⟨side, s3, hsd, hs3, e3⟩ := pick_ok s2 2 (by omega) hs2
    have e3 : F__law_pick.sem [(s2.pv, 2), (.int 2, 0)] = .ok (pN side, 0) [(s3.pv, 2), (.int 2, 0)] := e3
    have ha : at_ < w.n := by have := hg.pos; omega
    have hsd : side < 2 := by omega
    have hla : at_ < w.turns.length := by rw [hg.len]; exact ha
    have htl := hg.t_len ha
    obtain ⟨k, s4, hk4, hs4, e4⟩ := pick_ok s3 ((w.t at_).length + 1) (by omega) hs3
    have e4 : F__law_pick.sem [(s3.pv, 2), (pN ((w.t at_).length + 1), 0)] = .ok (.int (k : Int), 0) [(s4.pv, 2), (pN ((w.t at_).length + 1), 0)] := e4
    have hk4 : k ≤ (w.t at_).length := by omega
    have g1 : getF (lTN w.turns) (pN at_) = some (tN (w.t at_)) := glTN' w.turns _ hla
    have tl1 : fa1 .toL (.tup (w.turns.map tN)) = some (lTN w.turns) := rfl
    have c1 : fa2 .cat (tN (List.take k (w.t at_))) (PV.tup [PV.int (((2 * w.roads.length : Nat) : Int) + (side : Int))]) = some (tN (List.take k (w.t at_) ++ [2 * w.roads.length + side])) := catTN _ [2 * w.roads.length + side] (by simp; omega)
    have c2 : fa2 .cat (tN (List.take k (w.t at_) ++ [2 * w.roads.length + side])) (tN (List.drop k (w.t at_))) = some (tN (insAt k (2 * w.roads.length + side) (w.t at_))) := by
      rw [catTN _ _ (by simp; omega), List.append_assoc]; rfl
    have st1 := set1T (ts := w.turns) (v := at_) (t := insAt k (2 * w.roads.length + side) (w.t at_)) hla
    have c3 : ∀ p : Nat × Nat, fa2 .cat (.tup (w.roads.map road)) (PV.tup [PV.tup [pN p.1, pN p.2]]) = some (.tup ((w.roads ++ [p]).map road)) := by
      intro p
      show (fit (w.roads.map road ++ [road p])).map PV.tup = _
      rw [fit_ok (by simp; omega)]
      simp
    have hlt : (w.turns.set at_ (insAt k (2 * w.roads.length + side) (w.t at_))).length = w.n := by rw [List.length_set, hg.len]
    have hG : ∀ p : Nat × Nat, p = (if side = 0 then (at_, w.n) else (w.n, at_)) → PV.tup [pN (w.n + 1), .tup ((w.roads ++ [p]).map road), .tup ((w.turns.set at_ (insAt k (2 * w.roads.length + side) (w.t at_)) ++ [[2 * w.roads.length + 1 - side]]).map tN)] = (moreW w at_ side k).pv := by
      rintro p rfl; rfl
    generalize w.turns.set at_ (insAt k (2 * w.roads.length + side) (w.t at_)) = t1 at st1 hlt hG
    have c4 : fa2 .cat (lTN t1) (PV.lst [PV.tup [PV.int (((2 * w.roads.length + 1 : Nat) : Int) - (side : Int))]]) = some (lTN (t1 ++ [[2 * w.roads.length + 1 - side]])) := by
      rw [subN _ _ (by omega)]
      show (fit (t1.map tN ++ [tN [2 * w.roads.length + 1 - side]])).map PV.lst = _
      rw [fit_ok (by simp; omega)]
      simp [lTN]
    have hgood := more_good hg (at_ := at_) (side := side) (k := k) ha hsd
    by_cases h0 : side = 0
    · have hd : decide ((side : Int) = 0) = true := decide_eq_true (by omega)
      have hG' := hG (at_, w.n) (by rw [if_pos h0])
      push_cast [C__law_web, br__law_pick, b__law_pick, e2, e3, e4, g1, tl1, lTND, List.length_map, idxD k (by omega), slFrom _ _ hk4, slTo _ _ hk4, vO, vV, ilTN, c1, c2, st1, hd, c3 (at_, w.n), c4, hG']
      exact ⟨(s4, moreW w at_ side k, some (at_, side, t1, w.roads.length, k, .tup [pN at_, pN w.n])), rfl, hgood, by simp [moreW, hwn], by simp [moreW, hwr], hs4⟩
    · have hd : decide ((side : Int) = 0) = false := decide_eq_false (by omega)
      have hG' := hG (w.n, at_) (by rw [if_neg h0])
      push_cast [C__law_web, br__law_pick, b__law_pick, e2, e3, e4, g1, tl1, lTND, List.length_map, idxD k (by omega), slFrom _ _ hk4, slTo _ _ hk4, vO, vV, ilTN, c1, c2, st1, hd, c3 (w.n, at_), c4, hG']
      exact ⟨(s4, moreW w at_ side k, some (at_, side, t1, w.roads.length, k, .tup [pN w.n, pN at_])), rfl, hgood, by simp [moreW, hwn], by simp [moreW, hwr], hs4⟩
  clear hl
  dsimp only at hg hwn hwr hs2
  rw [List.length_range'] at hwn hwr
  push_cast [w1 m (by omega)]
  generalize hl : fLoop _ _ _ _ = o
  obtain ⟨⟨s3, w', tl'⟩, l2, rfl, hg', hwn', hwr', hs3⟩ : ∃ (st : Sce.St × Web × Unit) (l2 : Option Nat), o = .nx [some (st.1.pv, 2), some (pN c, 0), some (pN m, 0), some (pN way, 0), some (st.2.1.pv, 0), l'.map fun x => (pN x, 0), tl.map fun x => (pN x.1, 0), tl.map fun x => (pN x.2.1, 0), tl.map fun x => (lTN x.2.2.1, 1), tl.map fun x => (pN x.2.2.2.1, 0), tl.map fun x => (.int (x.2.2.2.2.1 : Int), 0), tl.map fun x => (x.2.2.2.2.2, 0), l2.map fun x => (pN x, 0)] ∧ WebGood st.2.1 ∧ st.2.1.n = c ∧ st.2.1.roads.length = c - 1 + (List.range m).length ∧ st.1.cells.length ≤ 63 := by
    rw [← hl]
    clear hl
    refine fLoop_J pN (fun l2 (st : Sce.St × Web × Unit) => [some (st.1.pv, 2), some (pN c, 0), some (pN m, 0), some (pN way, 0), some (st.2.1.pv, 0), l'.map fun x => (pN x, 0), tl.map fun x => (pN x.1, 0), tl.map fun x => (pN x.2.1, 0), tl.map fun x => (lTN x.2.2.1, 1), tl.map fun x => (pN x.2.2.2.1, 0), tl.map fun x => (.int (x.2.2.2.2.1 : Int), 0), tl.map fun x => (x.2.2.2.2.2, 0), l2.map fun x => (pN x, 0)]) (fun pre st => WebGood st.2.1 ∧ st.2.1.n = c ∧ st.2.1.roads.length = c - 1 + pre.length ∧ st.1.cells.length ≤ 63) (List.range m) (s2, w, ()) none ⟨hg, by dsimp only; omega, by simpa using hwr, hs2⟩ ?_
    rintro pre x post ⟨s, w, _⟩ l e ⟨hg, hwn, hwr, hs⟩
    dsimp only at hg hwn hwr hs
    obtain ⟨hx1, hx2⟩ := range_split e
    obtain ⟨w2, s', hg2, hn2, hr2, hs', e5⟩ := grown_ok s w hg way (by omega) (by omega) hs
    push_cast [C__law_web, br__law_grown, b__law_grown, e5]
    exact ⟨(s', w2, ()), rfl, hg2, by dsimp only; omega, by simp; omega, hs'⟩
  clear hl
  dsimp only at hg' hwn' hwr' hs3
  rw [List.length_range] at hwr'
  obtain ⟨w2, s', hg2, hn2, hr2, hs', e5⟩ := renamed_ok s3 w' hg' (by omega) (by omega) hs3
  refine ⟨w2, s', hg2, by omega, by omega, hs', ?_⟩
  push_cast [C__law_web, br__law_renamed, b__law_renamed, e5]
end K77
end
section
set_option linter.all false
set_option maxRecDepth 100000
set_option maxHeartbeats 4000000
/-! Q8: the law's joins, piles. -/
namespace K77
open Mi
theorem ljoins_ev (w : Web) (hw : WOk w) : F__law_joins.sem [(w.pv, 0)] = .ok (tab w.n (jn w.roads), 2) [(w.pv, 0)] := by
  have hn : w.n < 1000000 := by have := hw.few; omega
  have hp := hw.pos
  rw [sem__law_joins]; unfold Sh__law_joins
  push_cast [rep0 _ _ hn, w1 _ hn]
  generalize hl : lcLoop _ _ _ _ _ _ _ = o
  obtain ⟨s', rfl⟩ : ∃ s' : Unit, o = _ := by
    rw [← hl]
    refine lc_M pN (fun _ : Unit => [some (w.pv, 0), none, none, none, none, none]) (fun _ => lF w.n fun _ => 0) 1 (List.range w.n) () (by simp; omega) (fun x s hx => ⟨(), ?_⟩)
    push_cast [rep0 _ _ hn]
  clear hl
  have hm := minD_l (fun _ => lF w.n fun _ => 0) 1 (List.range w.n) (by simp; omega) (fun _ _ => rfl)
  push_cast [hm, tabD w.n fun _ _ => 0]
  generalize hl : fLoop _ _ _ _ = o
  obtain ⟨s', l', rfl, hs⟩ : ∃ (s' : (Nat → Nat → Int) × Option (Nat × Nat)) (l' : Option (Nat × Nat)), o = .nx [some (w.pv, 0), some (tab w.n s'.1, 2), s'.2.map fun x => (pN x.2, 0), l'.map fun x => (pN x.1, 0), l'.map fun x => (pN x.2, 0), s'.2.map fun x => (pN x.1, 0)] ∧ s'.1 = jn w.roads := by
    rw [← hl]
    clear hl
    refine fLoop_J road (fun l (s : (Nat → Nat → Int) × Option (Nat × Nat)) => [some (w.pv, 0), some (tab w.n s.1, 2), s.2.map fun x => (pN x.2, 0), l.map fun x => (pN x.1, 0), l.map fun x => (pN x.2, 0), s.2.map fun x => (pN x.1, 0)]) (fun pre s => s.1 = jn pre) w.roads (_, none) none (by funext v u; rfl) ?_
    rintro pre x post ⟨s, l2⟩ l e hs
    dsimp only at hs
    obtain ⟨h1, h2⟩ := hw.ends x (by rw [e]; simp)
    by_cases hx : x.1 = x.2
    · refine ⟨(s, l2), ?_, ?_⟩
      · push_cast [hx, decide_true, Bool.not_true, fLoop_nil]
      · dsimp only; rw [hs]; funext v u; rw [jn_snoc]; simp [hx]
    · refine ⟨(?s, some x), ?a, ?b⟩
      case a =>
        push_cast [hx, decide_false, Bool.not_false, gtb _ _ _ h1, gtb _ _ _ h2, glF _ _ _ h1, glF _ _ _ h2, set2 h1 h2, set2 h2 h1, fLoop_nil, fLoop_cons]
        rfl
      case b =>
        dsimp only
        rw [hs]; funext v u; rw [jn_snoc]
        exact join_step _ hx v u
  clear hl
  rw [hs]
  push_cast []

theorem pile_ok (s : Sce.St) (w : Web) (hw : WOk w) (h way : Nat) (hh : h < w.n) (hk : s.cells.length ≤ 63) :
    ∃ (p : Nat → Int) (s' : Sce.St), (∀ v, 0 ≤ p v ∧ p v ≤ 1000000) ∧ p h = 0 ∧ (way < 2 → ∀ v, v < w.n → 1 ≤ dg w v → p v < dg w v) ∧ s'.cells.length ≤ 63 ∧ F__law_pile.sem [(s.pv, 2), (w.pv, 0), (pN h, 0), (pN way, 0)] = .ok (tF w.n p, 0) [(s'.pv, 2), (w.pv, 0), (pN h, 0), (pN way, 0)] := by
  have hn : w.n < 1000000 := by have := hw.few; omega
  have hp := hw.pos
  rw [sem__law_pile]; unfold Sh__law_pile
  push_cast [C__law_pile, br__law_joins, b__law_joins, ljoins_ev w hw]
  generalize hl : lcLoop _ _ _ _ _ _ _ = o
  obtain ⟨s', rfl⟩ : ∃ s' : Unit, o = _ := by
    rw [← hl]
    refine lc_M (fun v => lF w.n (jn w.roads v)) (fun _ : Unit => [some (s.pv, 2), some (w.pv, 0), some (pN h, 0), some (pN way, 0), none, none, none, none, none, none]) (fun v => .int (dg w v)) 0 (List.range w.n) () (by simp; omega) (fun x s hx => ⟨(), ?_⟩)
    push_cast []
    rfl
  clear hl
  have hm := minD_c (fun v => PV.int (dg w v)) 0 (List.range w.n) (fun _ _ => rfl)
  push_cast [hm, lFD]
  rw [lF0 fun _ => 0]
  generalize hl : fLoop _ _ _ _ = o
  obtain ⟨⟨s2, k, p, l9⟩, l', rfl, hs2, hk2, hp0, hp1, hp2⟩ : ∃ (st : Sce.St × Nat × (Nat → Int) × Option Int) (l' : Option Nat), o = .nx [some (st.1.pv, 2), some (w.pv, 0), some (pN h, 0), some (pN way, 0), some (lF w.n fun v => dg w v, 0), none, some (lF st.2.1 st.2.2.1, 1), l'.map fun x => (pN x, 0), l'.map fun x => (.int (dg w x), 0), st.2.2.2.map fun x => (.int x, 0)] ∧ st.1.cells.length ≤ 63 ∧ st.2.1 = (List.range w.n).length ∧ (∀ v, 0 ≤ st.2.2.1 v ∧ st.2.2.1 v ≤ 1000000) ∧ st.2.2.1 h = 0 ∧ (way < 2 → ∀ v, v < st.2.1 → 1 ≤ dg w v → st.2.2.1 v < dg w v) := by
    rw [← hl]
    clear hl
    refine fLoop_J (fun v => .tup [pN v, .int (dg w v)]) (fun l' (st : Sce.St × Nat × (Nat → Int) × Option Int) => [some (st.1.pv, 2), some (w.pv, 0), some (pN h, 0), some (pN way, 0), some (lF w.n fun v => dg w v, 0), none, some (lF st.2.1 st.2.2.1, 1), l'.map fun x => (pN x, 0), l'.map fun x => (.int (dg w x), 0), st.2.2.2.map fun x => (.int x, 0)]) (fun pre st => st.1.cells.length ≤ 63 ∧ st.2.1 = pre.length ∧ (∀ v, 0 ≤ st.2.2.1 v ∧ st.2.2.1 v ≤ 1000000) ∧ st.2.2.1 h = 0 ∧ (way < 2 → ∀ v, v < st.2.1 → 1 ≤ dg w v → st.2.2.1 v < dg w v)) (List.range w.n) (s, 0, fun _ => 0, none) none ⟨hk, rfl, fun v => ⟨Int.le_refl _, by dsimp only; omega⟩, rfl, fun _ v hv => absurd hv (by simp)⟩ ?_
    rintro pre v post ⟨s, k, p, l9⟩ l e ⟨hs, hk, hp0, hp1, hp2⟩
    dsimp only at hs hk hp0 hp1 hp2
    obtain ⟨hv1, hv2⟩ := range_split e
    have hkv : k = v := by omega
    subst hkv
    have hd0 := dg_nonneg w k
    have hd1 := dg_le hw k
    have hM : fn2F .max2 (.int 1) (.int (dg w k)) = some (pN (max 1 (dg w k)).toNat) := by
      rw [max2E]
      unfold pN
      congr 2
      split <;> omega
    obtain ⟨r1, s1, h1, hs1, e1⟩ := pick_ok s (max 1 (dg w k)).toNat (by omega) hs
    obtain ⟨r2, s2, h2, hs2, e2⟩ := pick_ok s1 2 (by omega) hs1
    obtain ⟨r3, s3, h3, hs3, e3⟩ := pick_ok s2 9 (by omega) hs2
    have e2 : F__law_pick.sem [(s1.pv, 2), (.int 2, 0)] = .ok (pN r2, 0) [(s2.pv, 2), (.int 2, 0)] := e2
    have e3 : F__law_pick.sem [(s2.pv, 2), (.int 9, 0)] = .ok (pN r3, 0) [(s3.pv, 2), (.int 9, 0)] := e3
    obtain ⟨y, hy, y0, y1, y2⟩ : ∃ y : Int, getF (.lst [pN r1, .int (if (0 : Int) < dg w k - 1 - (r2 : Int) then dg w k - 1 - (r2 : Int) else 0), pN r3]) (pN (min way 2)) = some (.int y) ∧ 0 ≤ y ∧ y ≤ 1000000 ∧ (way < 2 → 1 ≤ dg w k → y < dg w k) := by
      rw [gLn]
      by_cases c0 : way = 0
      · subst c0
        exact ⟨r1, rfl, by omega, by omega, fun _ _ => by omega⟩
      · by_cases c1 : way = 1
        · subst c1
          refine ⟨_, rfl, ?_, ?_, fun _ _ => ?_⟩ <;> split <;> omega
        · have : min way 2 = 2 := by omega
          rw [this]
          exact ⟨r3, rfl, by omega, by omega, fun h => by omega⟩
    by_cases hkh : k = h
    · subst hkh
      refine ⟨(s3, k + 1, upd p k 0, some y), ?_, hs3, by simp [hv1], fun v => ?_, ?_, fun hw2 v hv hd => ?_⟩
      · push_cast [hM, br__law_pick, b__law_pick, e1, e2, e3, max2E', mnF, min2N, hy, recF, decide_true, appF (k := k) (f := p) (y := 0) (d := 1) (by omega) (Nat.le_refl 1)]
      · dsimp only [upd]
        split
        · exact ⟨Int.le_refl _, by decide⟩
        · exact hp0 v
      · simp [upd]
      · dsimp only [upd] at hv ⊢
        split
        · next e => subst e; omega
        · exact hp2 hw2 v (by omega) hd
    · by_cases hw3 : way < 3
      · have hw3' : (way : Int) < 3 := by omega
        refine ⟨(s3, k + 1, upd p k y, some y), ?_, hs3, by simp [hv1], fun v => ?_, ?_, fun hw2 v hv hd => ?_⟩
        · push_cast [hM, br__law_pick, b__law_pick, e1, e2, e3, max2E', mnF, min2N, hy, recF, hkh, hw3', decide_true, decide_false, appF (k := k) (f := p) (y := y) (d := 1) (by omega) (Nat.le_refl 1)]
        · dsimp only [upd]
          split
          · exact ⟨y0, y1⟩
          · exact hp0 v
        · simp [upd, Ne.symm hkh]
          exact hp1
        · dsimp only [upd] at hv ⊢
          split
          · next e => subst e; exact y2 hw2 hd
          · exact hp2 hw2 v (by omega) hd
      · have hw3' : ¬ (way : Int) < 3 := by omega
        obtain ⟨r4, s4, h4, hs4, e4⟩ := pick_ok s3 1000001 (by omega) hs3
        have e4 : F__law_pick.sem [(s3.pv, 2), (.int (1000000 + 1), 0)] = .ok (.int (r4 : Int), 0) [(s4.pv, 2), (.int (1000000 + 1), 0)] := e4
        refine ⟨(s4, k + 1, upd p k r4, some y), ?_, hs4, by simp [hv1], fun v => ?_, ?_, fun hw2 v hv hd => by omega⟩
        · push_cast [hM, br__law_pick, b__law_pick, e1, e2, e3, max2E', mnF, min2N, hy, recF, hkh, hw3', decide_true, decide_false, pow6, e4, appF (k := k) (f := p) (y := r4) (d := 1) (by omega) (Nat.le_refl 1)]
        · dsimp only [upd]
          split
          · omega
          · exact hp0 v
        · simp [upd, Ne.symm hkh]
          exact hp1
  clear hl
  dsimp only at hs2 hk2 hp0 hp1 hp2
  rw [List.length_range] at hk2
  subst hk2
  refine ⟨p, s2, hp0, hp1, hp2, hs2, ?_⟩
  push_cast []
end K77
end
section
set_option linter.all false
set_option maxRecDepth 100000
set_option maxHeartbeats 4000000
/-! Q9: the law's least piles. -/
namespace K77
open Mi
theorem lleast_ev (w : Web) (hw : WOk w) (hn9 : w.n ≤ 16) (h : Nat) (hh : h < w.n) (p : Nat → Int) :
    ∃ b : Bool, (b = true ↔ LeastLaw w h p) ∧ F__law_is_least.sem [(w.pv, 0), (pN h, 0), (tF w.n p, 0)] = .ok (.bl b, 0) [(w.pv, 0), (pN h, 0), (tF w.n p, 0)] := by
  have hn : w.n < 1000000 := by omega
  rw [sem__law_is_least]; unfold Sh__law_is_least
  have t0 : PV.lst [PV.tup []] = lTN [[]] := rfl
  push_cast [C__law_is_least, br__law_joins, b__law_joins, ljoins_ev w hw, t0, w1 _ hn]
  generalize hl : lcLoop _ _ _ _ _ _ _ = o
  obtain ⟨s', rfl⟩ : ∃ s' : Unit, o = .ok ((others w.n h).map fun x => (pN x, 0)) [some (w.pv, 0), some (pN h, 0), some (tF w.n p, 0), some (tab w.n (jn w.roads), 2), some (lTN [[]], 1), none, none, none] := by
    rw [← hl]
    have hmd : 1 + (minD [(PV.tup [], 0)]).getD 0 = 1 := rfl
    rw [hmd]
    refine lc_P pN (fun _ : Unit => [some (w.pv, 0), some (pN h, 0), some (tF w.n p, 0), some (tab w.n (jn w.roads), 2), some (lTN [[]], 1), none, none, none]) (fun v => decide (v ≠ h)) pN 0 (List.range w.n) () (by simp; omega) (fun v s hx => ⟨(), ?_⟩)
    by_cases c : v = h
    · push_cast [c, decide_true, Bool.not_true, ne_eq, not_true_eq_false, decide_false]
    · push_cast [c, decide_false, Bool.not_false, ne_eq, not_false_eq_true, decide_true]
  clear hl
  have hol := others_len hh
  have hom : ∀ v ∈ others w.n h, v < w.n := fun v hv => (others_mem.mp hv).1
  generalize ho : others w.n h = os at hol hom
  push_cast [lND]
  generalize hl : fLoop _ _ _ _ = o
  obtain ⟨L, l5, rfl, hL⟩ : ∃ (L : List (List Nat)) (l5 : Option Nat), o = .nx [some (w.pv, 0), some (pN h, 0), some (tF w.n p, 0), some (tab w.n (jn w.roads), 2), some (lTN L, 1), l5.map fun x => (pN x, 0), none, none] ∧ L = subsF os := by
    rw [← hl]
    clear hl
    refine fLoop_J pN (fun l5 (L : List (List Nat)) => [some (w.pv, 0), some (pN h, 0), some (tF w.n p, 0), some (tab w.n (jn w.roads), 2), some (lTN L, 1), l5.map fun x => (pN x, 0), none, none]) (fun pre L => L = subsF pre) os [[]] none rfl ?_
    intro pre v post L l5 e hL
    have hpl : pre.length < os.length := by rw [e]; simp
    have hLl : L.length ≤ 2 ^ 16 := by
      rw [hL, subs_len]
      exact Nat.pow_le_pow_right (by decide) (by omega)
    have hTl : ∀ T ∈ L, T.length ≤ 16 := by
      intro T hT
      rw [hL] at hT
      have := ((subs_mem pre T).mp hT).length_le
      omega
    push_cast [lwMN]
    generalize hl : lcLoop _ _ _ _ _ _ _ = o
    obtain ⟨s', rfl⟩ : ∃ s' : Unit, o = .ok (L.map fun T => (tN (T ++ [v]), 0)) [some (w.pv, 0), some (pN h, 0), some (tF w.n p, 0), some (tab w.n (jn w.roads), 2), some (lTN L, 0), some (pN v, 0), none, none] := by
      rw [← hl]
      refine lc_M tN (fun _ : Unit => [some (w.pv, 0), some (pN h, 0), some (tF w.n p, 0), some (tab w.n (jn w.roads), 2), some (lTN L, 0), some (pN v, 0), none, none]) (fun T => tN (T ++ [v])) 0 L () (by omega) (fun T s hT => ⟨(), ?_⟩)
      have c1 : fa2 .cat (tN T) (PV.tup [pN v]) = some (tN (T ++ [v])) := catTN T [v] (by have := hTl T hT; simp; omega)
      push_cast [c1]
    clear hl
    have hmD := minD_c (fun T : List Nat => tN (T ++ [v])) 0 L (fun _ _ => rfl)
    have hf : PV.lst (List.map (fun T => tN (T ++ [v])) L) = lTN (L.map fun s => s ++ [v]) := by simp [lTN, Function.comp_def]
    have hc := catLTN L (L.map fun s => s ++ [v]) (by simp; omega)
    refine ⟨L ++ L.map fun s => s ++ [v], ?_, by rw [subs_snoc, ← hL]⟩
    push_cast [hmD, hf, hc]
  clear hl
  have hLl : L.length ≤ 2 ^ 16 := by
    rw [hL, subs_len]
    exact Nat.pow_le_pow_right (by decide) (by omega)
  have w1' : wide 1 = true := by decide
  push_cast [w1', vO, drop1]
  generalize hl : fLoop _ _ _ _ = o
  have hLm : ∀ T ∈ L.drop 1, T.length ≤ 16 ∧ ∀ v ∈ T, v < w.n := by
    intro T hT
    rw [hL] at hT
    have h1 := (subs_drop.mp hT).1
    exact ⟨by have := h1.length_le; omega, fun v hv => hom v (h1.subset hv)⟩
  have hcase : (∃ (s' : Unit) (l6 : Option (List Nat)), o = .nx [some (w.pv, 0), some (pN h, 0), some (tF w.n p, 0), some (tab w.n (jn w.roads), 2), some (lTN L, 1), l5.map fun x => (pN x, 0), l6.map fun x => (tN x, 0), none] ∧ ∀ T ∈ [] ++ L.drop 1, T.filter (fires w p T) ≠ []) ∨ 
      ∃ (pre : List (List Nat)) (T : List Nat) (post : List (List Nat)) (a : Mi.Arg) (ρ : Rho), [] ++ L.drop 1 = pre ++ T :: post ∧ o = .rt a ρ ∧ (a = (.bl false, 0) ∧ T.filter (fires w p T) = [] ∧ ∃ l5 l6 l7, ρ = [some (w.pv, 0), some (pN h, 0), some (tF w.n p, 0), some (tab w.n (jn w.roads), 2), some (lTN L, 1), l5, l6, l7]) := by
    rw [← hl]
    clear hl
    refine fLoop_R tN (fun l6 (s : Unit) => [some (w.pv, 0), some (pN h, 0), some (tF w.n p, 0), some (tab w.n (jn w.roads), 2), some (lTN L, 1), l5.map fun x => (pN x, 0), l6.map fun x => (tN x, 0), none]) (fun pre _ => ∀ T ∈ pre, T.filter (fires w p T) ≠ [])
      (fun pre T post a ρ => a = (.bl false, 0) ∧ T.filter (fires w p T) = [] ∧ ∃ l5 l6 l7, ρ = [some (w.pv, 0), some (pN h, 0), some (tF w.n p, 0), some (tab w.n (jn w.roads), 2), some (lTN L, 1), l5, l6, l7]) (L.drop 1) [] () none (fun T h => by cases h) ?_
    intro pre T post s l e hJ
    obtain ⟨hT1, hT2⟩ := hLm T (by rw [e]; simp)
    push_cast [lwMN]
    generalize hl : lcLoop _ _ _ _ _ _ _ = o
    obtain ⟨s', rfl⟩ : ∃ s' : Unit, o = .ok ((T.filter (fires w p T)).map fun x => (pN x, 0)) [some (w.pv, 0), some (pN h, 0), some (tF w.n p, 0), some (tab w.n (jn w.roads), 2), some (lTN L, 1), none, some (tN T, 0), none] := by
      rw [← hl]
      refine lc_P pN (fun _ : Unit => [some (w.pv, 0), some (pN h, 0), some (tF w.n p, 0), some (tab w.n (jn w.roads), 2), some (lTN L, 1), none, some (tN T, 0), none]) (fires w p T) pN 0 T () (by omega) (fun v s hv => ⟨(), ?_⟩)
      have hv' := hT2 v hv
      push_cast [gtF _ _ _ hv', gtb _ _ _ hv']
      generalize hl : lcLoop _ _ _ _ _ _ _ = o
      obtain ⟨s', rfl⟩ : ∃ s' : Unit, o = .ok (T.map fun x => (.int (jn w.roads v x), 0)) [some (w.pv, 0), some (pN h, 0), some (tF w.n p, 0), some (tab w.n (jn w.roads), 2), some (lTN L, 1), some (pN v, 0), some (tN T, 0), none] := by
        rw [← hl]
        refine lc_M pN (fun _ : Unit => [some (w.pv, 0), some (pN h, 0), some (tF w.n p, 0), some (tab w.n (jn w.roads), 2), some (lTN L, 1), some (pN v, 0), some (tN T, 0), none]) (fun x => .int (jn w.roads v x)) 0 T () (by omega) (fun u s hu => ⟨(), ?_⟩)
        have hu' := hT2 u hu
        push_cast [glF _ _ _ hu', gtb _ _ _ hv']
      clear hl
      have hmD := minD_c (fun x => PV.int (jn w.roads v x)) 0 T (fun _ _ => rfl)
      have hS : S w.n (jn w.roads v) = dg w v := rfl
      by_cases c : p v < dg w v - (T.map (jn w.roads v)).sum
      · have hf : fires w p T v = true := decide_eq_true c
        push_cast [hmD, sumMap, hS, c, hf, decide_true]
      · have hf : fires w p T v = false := decide_eq_false c
        push_cast [hmD, sumMap, hS, c, hf, decide_false]
    clear hl
    have hmD := minD_c pN 0 (T.filter (fires w p T)) (fun _ _ => rfl)
    by_cases c : T.filter (fires w p T) = []
    · have hd := decide_eq_true c
      push_cast [lND, hmD, hd]
      exact .inr ⟨_, _, rfl, rfl, c, _, _, _, rfl⟩
    · have hd := decide_eq_false c
      push_cast [lND, hmD, hd]
      refine .inl ⟨(), (by first | rfl | trivial), fun T' hT' => ?_⟩
      rcases List.mem_append.mp hT' with h | h
      · exact hJ T' h
      · rw [List.mem_singleton.mp h]; exact c
  rcases hcase with ⟨s', l6, rfl, hA⟩ | ⟨pre, T, post, a, ρ, e, rfl, rfl, hT, l5, l6, l7, rfl⟩
  · refine ⟨true, ⟨fun _ T hT hT0 => ?_, fun _ => rfl⟩, ?_⟩
    · rw [ho] at hT
      have hm : T ∈ [] ++ L.drop 1 := by rw [hL]; exact subs_drop.mpr ⟨hT, hT0⟩
      have hne := hA T hm
      cases hf : T.filter (fires w p T) with
      | nil => exact absurd hf hne
      | cons v r =>
        have : v ∈ T.filter (fires w p T) := by rw [hf]; exact List.mem_cons_self
        obtain ⟨h1, h2⟩ := List.mem_filter.mp this
        exact ⟨v, h1, of_decide_eq_true h2⟩
    · push_cast []
  · refine ⟨false, ⟨fun h => (Bool.noConfusion h), fun hL' => ?_⟩, ?_⟩
    · have hm : T ∈ L.drop 1 := by rw [← List.nil_append (L.drop 1), e]; simp
      rw [hL] at hm
      obtain ⟨h1, h2⟩ := subs_drop.mp hm
      obtain ⟨v, h3, h4⟩ := hL' T (by rw [ho]; exact h1) h2
      have := List.filter_eq_nil_iff.mp hT v h3
      exact absurd (decide_eq_true h4) this
    · push_cast []
end K77
end
section
set_option linter.all false
set_option maxRecDepth 100000
set_option maxHeartbeats 8000000
/-! L77: the law at every script. -/
namespace K77
open Mi
theorem getL4 (a b c d : Int) (l : Nat) (hl : l < 4) (h : (0 ≤ a ∧ a ≤ 8) ∧ (0 ≤ b ∧ b ≤ 8) ∧ (0 ≤ c ∧ c ≤ 8) ∧ (0 ≤ d ∧ d ≤ 8)) : ∃ k : Nat, k ≤ 8 ∧ getF (.lst [.int a, .int b, .int c, .int d]) (pN l) = some (pN k) := by
  rw [gLn]
  have e : ∀ i : Int, 0 ≤ i → PV.int i = pN i.toNat := fun i hi => by unfold pN; rw [Int.toNat_of_nonneg hi]
  match l, hl with
  | 0, _ => exact ⟨a.toNat, by omega, by rw [← e a (by omega)]; rfl⟩
  | 1, _ => exact ⟨b.toNat, by omega, by rw [← e b (by omega)]; rfl⟩
  | 2, _ => exact ⟨c.toNat, by omega, by rw [← e c (by omega)]; rfl⟩
  | 3, _ => exact ⟨d.toNat, by omega, by rw [← e d (by omega)]; rfl⟩
structure LSt where
  s : Sce.St
  t3 : Option Mi.Arg
  t4 : Option Mi.Arg
  t5 : Option Mi.Arg
  t6 : Option Mi.Arg
  t7 : Option Mi.Arg
  t9 : Option Nat
  t10 : Option Mi.Arg
  t11 : Option Mi.Arg
  t13 : Option Mi.Arg
  t14 : Option Mi.Arg
structure ISt where
  s : Sce.St
  t10 : Option Mi.Arg
  t11 : Option Mi.Arg
  t13 : Option Mi.Arg
  t14 : Option Mi.Arg
theorem law_run (ns : List Int) (hl : ns.length ≤ 63) : ∃ as, F_law.sem [(.scr ns, 0)] = .ok (.bl true, 0) as := by
  obtain ⟨s0, hs0, e0⟩ := source_ok ns hl
  have w4 : iter1 .range1 (.int 4) = some ((List.range 4).map pN) := w1 4 (by omega)
  rw [sem_law]; unfold Sh_law
  have hsc : ∀ ns, isL (.scr ns) = false := fun _ => rfl
  push_cast [C_law, br__law_source, b__law_source, e0, hsc, w4]
  generalize hl : fLoop _ _ _ _ = o
  obtain ⟨st, l', rfl, hJ⟩ : ∃ (st : LSt) (l' : Option Nat), o = .nx [some (.scr ns, 0), some (st.s.pv, 2), l'.map fun x => (pN x, 0), st.t3, st.t4, st.t5, st.t6, st.t7, none, st.t9.map fun x => (pN x, 0), st.t10, st.t11, none, st.t13, st.t14] ∧ st.s.cells.length ≤ 63 := by
    rw [← hl]
    clear hl
    refine fLoop_J pN (fun l' (st : LSt) => [some (.scr ns, 0), some (st.s.pv, 2), l'.map fun x => (pN x, 0), st.t3, st.t4, st.t5, st.t6, st.t7, none, st.t9.map fun x => (pN x, 0), st.t10, st.t11, none, st.t13, st.t14]) (fun pre st => st.s.cells.length ≤ 63) (List.range 4) ⟨s0, none, none, none, none, none, none, none, none, none, none⟩ none hs0 ?_
    rintro pre lap post ⟨s, t3, t4, t5, t6, t7, t9, t10, t11, t13, t14⟩ l e hs
    dsimp only at hs
    obtain ⟨_, hlap⟩ := range_split e
    obtain ⟨c1, hc1, g1⟩ := getL4 3 4 6 8 lap hlap (by omega)
    obtain ⟨c2, hc2, g2⟩ := getL4 4 5 6 8 lap hlap (by omega)
    obtain ⟨r1, s1, h1, hs1, e1⟩ := pick_ok s c1 (by omega) hs
    obtain ⟨r2, s2, h2, hs2, e2⟩ := pick_ok s1 c2 (by omega) hs1
    obtain ⟨w, s3, hg, hwn, hwr, hs3, e3⟩ := web_ok s2 (1 + r1) r2 (by omega) (by omega) (by omega) hs2
    have hw := hg.wok (by omega) (by omega)
    obtain ⟨h, s4, hh, hs4, e4⟩ := pick_ok s3 w.n (by omega) hs3
    have hh : h < w.n := by have := hg.pos; omega
    obtain ⟨sw, hsw, hsw2⟩ := told_web hg (by omega) (by omega)
    have hdp : ∀ v, v < w.n → v ≠ h → 1 ≤ dg w v := fun v hv hvh => hg.dg_pos hv hh hvh
    push_cast [C_law, g1, g2, br__law_pick, b__law_pick, e1, e2, oneN, br__law_web, b__law_web, e3, e4, br__law_joins, b__law_joins, ljoins_ev w hw, repr1, hsw, w1 w.n (by omega)]
    generalize hl : lcLoop _ _ _ _ _ _ _ = o
    obtain ⟨_, rfl⟩ : ∃ s' : Unit, o = .ok ((List.range w.n).map fun v => (.int (onesP h v), 0)) [some (PV.scr ns, 0), some (s4.pv, 2), some (pN lap, 0), some (w.pv, 0), some (pN h, 0), some (tab w.n (jn w.roads), 2), some (PV.str sw, 0), t7, none, t9.map fun x => (pN x, 0), t10, t11, none, t13, t14] := by
      rw [← hl]
      refine lc_M pN (fun _ : Unit => [some (PV.scr ns, 0), some (s4.pv, 2), some (pN lap, 0), some (w.pv, 0), some (pN h, 0), some (tab w.n (jn w.roads), 2), some (PV.str sw, 0), t7, none, t9.map fun x => (pN x, 0), t10, t11, none, t13, t14]) (fun v => .int (onesP h v)) 0 (List.range w.n) () (by simp; omega) (fun v s hv => ⟨(), ?_⟩)
      by_cases c : v = h
      · push_cast [c, decide_true, Bool.not_true, intB]
        simp [onesP]
      · push_cast [c, decide_false, Bool.not_false, intB]
        simp [onesP, c]
    clear hl
    have hmD := minD_c (fun v => PV.int (onesP h v)) 0 (List.range w.n) (fun _ _ => rfl)
    have hways : [PV.int 0, PV.int 0, PV.int 1, PV.int 2] = [0, 0, 1, 2].map pN := rfl
    push_cast [hmD, lFD, tFD, hways]
    generalize hl : fLoop _ _ _ _ = o
    obtain ⟨st, l2, rfl, hJ⟩ : ∃ (st : ISt) (l2 : Option Nat), o = .nx [some (PV.scr ns, 0), some (st.s.pv, 2), some (pN lap, 0), some (w.pv, 0), some (pN h, 0), some (tab w.n (jn w.roads), 2), some (PV.str sw, 0), some (tF w.n (onesP h), 0), none, l2.map fun x => (pN x, 0), st.t10, st.t11, none, st.t13, st.t14] ∧ st.s.cells.length ≤ 63 := by
      rw [← hl]
      clear hl
      refine fLoop_J pN (fun l2 (st : ISt) => [some (PV.scr ns, 0), some (st.s.pv, 2), some (pN lap, 0), some (w.pv, 0), some (pN h, 0), some (tab w.n (jn w.roads), 2), some (PV.str sw, 0), some (tF w.n (onesP h), 0), none, l2.map fun x => (pN x, 0), st.t10, st.t11, none, st.t13, st.t14]) (fun pre st => st.s.cells.length ≤ 63) [0, 0, 1, 2] ⟨s4, t10, t11, t13, t14⟩ t9 hs4 ?_
      rintro pre2 way post2 ⟨s, t10, t11, t13, t14⟩ l2 e5 hs
      dsimp only at hs
      obtain ⟨p, s5, hp0, hph, hpw, hs5, e6⟩ := pile_ok s w hw h way hh hs
      obtain ⟨b, hb, e7⟩ := lleast_ev w hw (by omega) h hh p
      obtain ⟨fd, f1, f2, e8⟩ := least_ev w hw h hh p
      have hb8 : decide (fd.length = w.n) = b := dec_bool (grown_all (c := lcond w p) hh (fun xs v hv hvh => lcond_self (p := p) xs v hv hvh) f1 f2) hb
      rw [hb8] at e8
      by_cases hway : (way : Int) < 2
      · have hst : ∀ v, v < w.n → v ≠ h → p v < dg w v := fun v hv hvh => hpw (by omega) v hv (hdp v hv hvh)
        obtain ⟨b2, hb2, e9⟩ := lleast_ev w hw (by omega) h hh (lackP w h p)
        obtain ⟨fl, f3, f4, e10⟩ := least_ev w hw h hh (lackP w h p)
        have hb10 : decide (fl.length = w.n) = b2 := dec_bool (grown_all (c := lcond w (lackP w h p)) hh (fun xs v hv hvh => lcond_self (p := lackP w h p) xs v hv hvh) f3 f4) hb2
        rw [hb10] at e10
        obtain ⟨fb, f5, f6, e11⟩ := comes_again_ev w hw h hh p
        have hb11 : decide (fb.length = w.n) = b2 := dec_bool (grown_all (c := bcond w p) hh (fun xs v hv hvh => bcond_lack (p := p) xs v hv hvh) f5 f6) hb2
        rw [hb11, decide_eq_true hst, Bool.true_and] at e11
        have hgt := ones_tame hh hst
        have hm0 : ∀ v, v < w.n → 0 ≤ moreP w h p v := fun v hv => by
          unfold moreP
          split
          · exact Int.le_refl _
          · have := (hp0 v).1
            have := jn_nonneg w.roads h v
            omega
        have hS : S w.n (onesP h) + 2 < (KK : Int) := by
          have h1 := S_le_mul (n := w.n) (f := onesP h) (c := 1) fun v hv => by unfold onesP; split <;> decide
          have h2 : (KK : Int) = 100000 := rfl
          omega
        obtain ⟨now1, g1f, sd1, e12⟩ := firings_ev w hw h hh (moreP w h p) (onesP h) hm0 (fun v hv hvh => by have := hdp v hv hvh; omega) hgt hS
        obtain ⟨now2, g2f, sd2, e13⟩ := settled_ev w hw h hh (moreP w h p) (onesP h) hm0 (fun v hv hvh => by have := hdp v hv hvh; omega) hgt hS
        obtain ⟨q1, e14, hq1⟩ := peqtF w.n g1f (onesP h)
        have hq1b : q1 = b2 := by
          rw [Bool.eq_iff_iff, hq1, hb2]
          exact fires_once hh hst sd1.tame sd1.le
        subst hq1b
        obtain ⟨q2, e15, hq2⟩ := peqtF w.n now2 p
        have hq2b : q1 = true → q2 = true := fun h1 => by
          refine hq2.mpr fun v hv => ?_
          by_cases c : v = h
          · subst c
            rw [hph]
            rcases sd2.hm with h | h
            · rw [h]; simp [moreP]
            · exact h
          · rw [sd2.go.now v hv c, ← ones_left hh (p := p) hv c]
            have hf := (fires_once hh hst sd2.tame sd2.le).mpr (hb2.mp h1)
            unfold left
            rw [hf v hv, S_congr fun u hu => by rw [hf u hu]]
        obtain ⟨sr, e16, e17⟩ := repr2 q1
        have hl1 : ∀ (o : Out (List Mi.Arg)) (f : Nat → Int → Int) (t11 t13 t14 : Option Mi.Arg) (F : Rho → Out Mi.Arg), (∀ v, v < w.n → F [some (PV.scr ns, 0), some (s5.pv, 2), some (pN lap, 0), some (w.pv, 0), some (pN h, 0), some (tab w.n (jn w.roads), 2), some (PV.str sw, 0), some (tF w.n (onesP h), 0), some (pN v, 0), some (pN way, 0), some (tF w.n p, 0), t11, some (.int (p v), 0), t13, t14] = .ok (.int (f v (p v)), 0) [some (PV.scr ns, 0), some (s5.pv, 2), some (pN lap, 0), some (w.pv, 0), some (pN h, 0), some (tab w.n (jn w.roads), 2), some (PV.str sw, 0), some (tF w.n (onesP h), 0), some (pN v, 0), some (pN way, 0), some (tF w.n p, 0), t11, some (.int (p v), 0), t13, t14]) → lcLoop (fun x ρ => (elems x).bind fun xs => bindPs [Pat.name 8, Pat.name 12] xs ρ) (fun ρ => Out.ok true ρ) F [8, 12] ((List.range w.n).map fun v => .tup [pN v, .int (p v)]) [] [some (PV.scr ns, 0), some (s5.pv, 2), some (pN lap, 0), some (w.pv, 0), some (pN h, 0), some (tab w.n (jn w.roads), 2), some (PV.str sw, 0), some (tF w.n (onesP h), 0), none, some (pN way, 0), some (tF w.n p, 0), t11, none, t13, t14] = .ok ((List.range w.n).map fun v => (.int (f v (p v)), 0)) [some (PV.scr ns, 0), some (s5.pv, 2), some (pN lap, 0), some (w.pv, 0), some (pN h, 0), some (tab w.n (jn w.roads), 2), some (PV.str sw, 0), some (tF w.n (onesP h), 0), none, some (pN way, 0), some (tF w.n p, 0), t11, none, t13, t14] := by
          intro o f t11 t13 t14 F hF
          obtain ⟨_, h⟩ := lc_M (bind := fun x ρ => (elems x).bind fun xs => bindPs [Pat.name 8, Pat.name 12] xs ρ) (test := fun ρ => Out.ok true ρ) (elt := F) (own := [8, 12]) (fun v => .tup [pN v, .int (p v)]) (fun _ : Unit => [some (PV.scr ns, 0), some (s5.pv, 2), some (pN lap, 0), some (w.pv, 0), some (pN h, 0), some (tab w.n (jn w.roads), 2), some (PV.str sw, 0), some (tF w.n (onesP h), 0), none, some (pN way, 0), some (tF w.n p, 0), t11, none, t13, t14]) (fun v => .int (f v (p v))) 0 (List.range w.n) () (by simp; omega) (fun v _ hv => ⟨(), by
            have := hF v (List.mem_range.mp hv)
            push_cast [this]⟩)
          exact h
        push_cast [C_law, br__law_pile, b__law_pile, e6, br_is_least_pile, b_is_least_pile, e8, br__law_is_least, b__law_is_least, e7, reprB, peqB, Bool.not_true, hway, decide_true]
        generalize hl : lcLoop _ _ _ _ _ _ _ = o
        obtain ⟨_, rfl⟩ : ∃ s' : Unit, o = .ok ((List.range w.n).map fun v => (.int (lackP w h p v), 0)) [some (PV.scr ns, 0), some (s5.pv, 2), some (pN lap, 0), some (w.pv, 0), some (pN h, 0), some (tab w.n (jn w.roads), 2), some (PV.str sw, 0), some (tF w.n (onesP h), 0), none, some (pN way, 0), some (tF w.n p, 0), t11, none, t13, t14] := by
          rw [← hl]
          refine ⟨(), hl1 .stuck (fun v _ => lackP w h p v) t11 t13 t14 _ fun v hv => ?_⟩
          by_cases c : v = h
          · push_cast [c, decide_true]
            simp [lackP]
          · have hS : S w.n (jn w.roads v) = dg w v := rfl
            push_cast [c, decide_false, gtb _ _ _ hv, hS]
            simp [lackP, c]
        clear hl
        have hmD2 := minD_c (fun v => PV.int (lackP w h p v)) 0 (List.range w.n) (fun _ _ => rfl)
        push_cast [hmD2, lFD]
        generalize hl : lcLoop _ _ _ _ _ _ _ = o
        obtain ⟨_, rfl⟩ : ∃ s' : Unit, o = .ok ((List.range w.n).map fun v => (.int (moreP w h p v), 0)) [some (PV.scr ns, 0), some (s5.pv, 2), some (pN lap, 0), some (w.pv, 0), some (pN h, 0), some (tab w.n (jn w.roads), 2), some (PV.str sw, 0), some (tF w.n (onesP h), 0), none, some (pN way, 0), some (tF w.n p, 0), some (tF w.n (lackP w h p), 0), none, t13, t14] := by
          rw [← hl]
          refine ⟨(), hl1 .stuck (fun v _ => moreP w h p v) (some (tF w.n (lackP w h p), 0)) t13 t14 _ fun v hv => ?_⟩
          by_cases c : v = h
          · push_cast [c, decide_true]
            simp [moreP]
          · push_cast [c, decide_false, gtb _ _ _ hh, glF _ _ _ hv]
            simp [moreP, c]
        clear hl
        have hmD3 := minD_c (fun v => PV.int (moreP w h p v)) 0 (List.range w.n) (fun _ _ => rfl)
        have e16' : prepr (PV.lst [PV.bl q1, PV.bl q1]) = some (.str sr) := e16
        cases hq : q1 with
        | false =>
          subst hq
          push_cast [hmD3, lFD, C_law, br_comes_again, b_comes_again, e11, e16', e17, e9, e10, br__law_is_least, b__law_is_least, br_is_least_pile, b_is_least_pile, Bool.not_true, br_firings, b_firings, e12, e14, peqBB, BEq.rfl]
          exact ⟨⟨s5, _, _, _, _⟩, rfl, hs5⟩
        | true =>
          subst hq
          have hq2t := hq2b rfl
          subst hq2t
          push_cast [hmD3, lFD, C_law, br_comes_again, b_comes_again, e11, e16', e17, e9, e10, br__law_is_least, b__law_is_least, br_is_least_pile, b_is_least_pile, Bool.not_true, br_firings, b_firings, e12, e14, peqBB, BEq.rfl, br_settled, b_settled, e13, e15]
          exact ⟨⟨s5, _, _, _, _⟩, rfl, hs5⟩
      · push_cast [C_law, br__law_pile, b__law_pile, e6, br_is_least_pile, b_is_least_pile, e8, br__law_is_least, b__law_is_least, e7, reprB, peqB, Bool.not_true, hway, decide_false]
        exact ⟨⟨s5, _, t11, t13, t14⟩, rfl, hs5⟩
    clear hl
    push_cast [repr1, hsw, hsw2, Bool.not_true]
    exact ⟨⟨st.s, _, _, _, _, _, l2, st.t10, st.t11, st.t13, st.t14⟩, rfl, hJ⟩
  clear hl
  push_cast []
  exact ⟨_, rfl⟩
end K77
namespace K77
open Mi
theorem law_true (ns : List Int) (hl : ns.length ≤ 63) : (lawAt KK par defs ns).isTrue = true := by
  obtain ⟨as, e⟩ := law_run ns hl
  unfold lawAt
  have h : mkC KK par defs [] = mkC KK par (defs.take 25) [] := rfl
  rw [h, CC25]
  show COut.isTrue (F_law.sem [(.scr ns, 0)]) = true
  rw [e]
  rfl
end K77
end
section
set_option Elab.async false
set_option linter.all false
set_option maxRecDepth 100000
set_option maxHeartbeats 0
/-! H77: the head of law k83. -/
namespace H77
open PySem PySem.Spec PyProof.Rows L2 Mi
abbrev RW : PySem.W.OpenLaw := PySem.Challenge.rw_whichhome_k77_least_piles
abbrev R : PySem.W.OpenRow := PySem.W.OpenLaw.row RW
def stm (i : Nat) : Stmt := PySem.Challenge.pw_whichhome_k77_least_piles.main.body.getD i (.Pass ⟨0, 0, 0, 0⟩)
def nameOf : Stmt → Str
  | .FunctionDef n _ _ _ _ _ _ _ _ _ => n
  | _ => ""
def td (p : Nat × List Str × Nat) : TDef := ⟨nameOf (stm p.1), defArgs (stm p.1), defBody (stm p.1), defScope (stm p.1), p.2.1, p.2.2⟩
def tdefs : List TDef := K77.spec.map td
def dd (p : Nat × List Str × Nat) : He.DefD := ⟨(nameOf (stm p.1), none), nameOf (stm p.1), nameOf (stm p.1), defArgs (stm p.1), defBody (stm p.1), defScope (stm p.1), [], []⟩
def fn : List He.DefD := K77.spec.map dd
def fa : List He.Fa := (K77.spec.map fun p => He.Fa.glo (nameOf (stm p.1))) ++ bltNames.map fun x => He.Fa.free x
def loose : List Str := (List.range 27).filterMap fun i => match stm i with
  | .FunctionDef n _ _ _ _ _ _ _ _ _ => some n
  | .ClassDef n .. => some n
  | _ => none
abbrev hk : PySem.W.Hook := He.hookD 3 fa fn
def ob (s : PySem.W.SharedT) : He.AlD := He.obsDG 3 fa fn (HandSHeadRun.getT s)
theorem ob_eq (s : PySem.W.SharedT) : ob s = hk.obs s.abs := He.obsDG_eq (HandSHeadRun.getT_eq s)
end H77
end
set_option Elab.async false
set_option linter.all false
set_option maxRecDepth 100000
set_option maxHeartbeats 0
namespace H77
open PySem PySem.Spec PyProof.Rows L2 Mi
theorem run (w : World) : HandSHeadRun.RunEq R (PySem.W.view R.prog [27]) hk ob 3000 loose w := by
  intro os
  kernel_rfl
def tl : TDef := td (27, K77.nm ["script", "source", "lap", "web", "home", "joins_v", "kept", "ones", "v", "way", "pile", "lack", "one", "more", "told"], 1)
theorem here {K : PySem.W.Frag} {h : Heap} {mg : Str → Option Value} (X : K.In h) (G : h.Ns mainGlobals mg) (c : He.SaysD fa fn K) : (∀ t ∈ tdefs, There K mg t) ∧ ∀ b ∈ bltNames, mg b = none := by
  refine ⟨fun t ht => ?_, fun b hb => ?_⟩
  · obtain ⟨p, hp, rfl⟩ := List.mem_map.mp ht
    obtain ⟨i, hi, e⟩ := List.mem_iff_getElem.mp hp
    have e1 : K77.spec[i]? = some p := by rw [List.getElem?_eq_getElem hi, e]
    have e2 : fn[i]? = some (dd p) := by
      unfold fn
      rw [List.getElem?_map, e1]; rfl
    have e3 : fa[i]? = some (.glo (nameOf (stm p.1))) := by
      unfold fa
      rw [List.getElem?_append_left (by rw [List.length_map]; exact hi), List.getElem?_map, e1]; rfl
    obtain ⟨fd, F⟩ := c.def_ i e2
    exact ⟨_, fd, F, He.glo_ok X G (c.fact i e3)⟩
  · obtain ⟨i, hi, e⟩ := List.mem_iff_getElem.mp hb
    have e3 : fa[K77.spec.length + i]? = some (.free b) := by
      unfold fa
      rw [List.getElem?_append_right (by rw [List.length_map]; omega), List.length_map, Nat.add_sub_cancel_left, List.getElem?_map, List.getElem?_eq_getElem hi, e]; rfl
    exact He.free_ok X G (c.fact _ e3)
theorem all_ok : okAll K77.defs tdefs [] = true := by kernel_rfl
end H77
open PySem PySem.W PySem.Calls PyProof.Rows
theorem PySem.Challenge.cw_whichhome_k77_least_piles_holds : PySem.Challenge.rw_whichhome_k77_least_piles.Holds := by
  w_on; o_law
  refine HandSHeadRun.head_any (r := OpenLaw.row PySem.Challenge.rw_whichhome_k77_least_piles) (q := view (OpenLaw.row PySem.Challenge.rw_whichhome_k77_least_piles).prog [27]) (H := H77.hk) (ob := H77.ob) (M := 3000) (loose := H77.loose) (d := HandSHeadRun.topDef (OpenLaw.row PySem.Challenge.rw_whichhome_k77_least_piles).prog 27) (kwd := []) H77.ob_eq
    (by kernel_rfl) (fun s => by kernel_rfl) H77.run (by kernel_rfl) (by kernel_rfl) (by kernel_rfl) (by rfl) (by first | assumption | decide +kernel) (by decide +kernel) ⟨rfl, rfl, rfl, rfl, rfl, by decide +kernel⟩ ?hw ?hc
  case hw => w_witness2
  case hc =>
    refine Mi.walk_ofG (l := PySem.Challenge.rw_whichhome_k77_least_piles) (n := 63) (ds := K77.defs) (ts := H77.tdefs) (tl := H77.tl) (Kf := K77.KK) (par := K77.par) rfl (by decide) (by kernel_rfl) ⟨rfl, by decide, by decide⟩ H77.all_ok (by kernel_rfl) (by kernel_rfl) (by kernel_rfl) K77.law_true ?F
    intro w mg h Y G
    obtain ⟨K, KX, c⟩ := Y
    obtain ⟨c1, c2⟩ := H77.here KX G c
    exact ⟨K, KX, c1, c2⟩
