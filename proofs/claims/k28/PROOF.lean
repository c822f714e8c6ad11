import PyProof.Rows.All
import HandS.ForMost
import KE.SortData
import PyProof.ReprRoads
import KE.KDictKeyed
import KE.KDictDisplayH
import HandS.Conv
import HandS.Deep
import HandS.IsInst
import HandS.TupAny
import HandS.TupMul
import HandS.Zip
import HandS.Flow
import HandS.Style
import KE.DataEq
import HandS.Sort
import HandS.Words
import KE.KDictWalk
import KE.KDictList
import KE.KDictSum
import KE.KDictPairs
import KE.DataMinMax
import KE.KRevSl
import HandS.SetFor
import HandS.Strs
import HandS.Codes
import HandS.Defaults
import KE.GoesEnum
import KE.GoesMore
import HandS.HeadEnd
import HandS.HeadHook1
import HandS.HeadHook2
import HandS.HeadHook3
import HandS.HeadHook4
import PyProof.StrLawsRepr
import Wide.All
import OpenK.AllK
import Wide.FinOn
import KE.KStateDown
import Lean
import HandS.Head0
import HandS.Head1
import HandS.Head2
import PySem.Challenge.RW_keykeep_k28_loops_told
set_option Elab.async false
set_option linter.all false
set_option maxRecDepth 100000
/-! Mp, part A: a small language of plain values over a store, and what it means: total functions. -/
namespace Mp
open PySem

/-- plain values: a tuple is its items; fl: a list that never changes (the script); rng: a range; ref: an object of the store -/
inductive Val where
  | non
  | bl (b : Bool)
  | int (i : Int)
  | str (x : Str)
  | tup (xs : List Val)
  | fl (xs : List Val)
  | rng (lo hi : Int)
  | ref (r : Nat)

/-- what the store keeps -/
inductive SO where
  | lst (xs : List Val)
  | dct (kvs : List (Val × Val))
  | ldc (kvs : List (Val × Val))
  | dci (kvs : List (Int × Val))
  | ldi (kvs : List (Int × Val))

/-- the store: how many objects were made, the newest first -/
structure Sto where
  n : Nat
  l : List SO

def Sto.get (S : Sto) (r : Nat) : Option SO := if r < S.n then S.l[S.n - 1 - r]? else none
def Sto.put (S : Sto) (r : Nat) (o : SO) : Sto := ⟨S.n, S.l.set (S.n - 1 - r) o⟩
def Sto.new (S : Sto) (o : SO) : Sto := ⟨S.n + 1, o :: S.l⟩
def Sto.lst (S : Sto) (r : Nat) : Option (List Val) := match S.get r with
  | some (.lst xs) => some xs
  | _ => none
def Sto.dct (S : Sto) (r : Nat) : Option (List (Val × Val)) := match S.get r with
  | some (.dct xs) => some xs
  | _ => none

/-- an error that is raised: its class, its fields -/
structure Exc where
  cls : Nat
  fs : List Val

inductive R (α : Type) where
  | ok (a : α) (S : Sto)
  | exc (e : Exc) (S : Sto)
  | err
def R.bind {α β : Type} (x : R α) (f : α → Sto → R β) : R β := match x with
  | .ok a S => f a S
  | .exc e S => .exc e S
  | .err => .err
def R.of {α : Type} (o : Option α) (S : Sto) : R α := match o with
  | some a => .ok a S
  | none => .err

/-! ### the language -/
inductive BOp where
  | add | sub | mul | fdiv | mod | pow
  deriving DecidableEq
inductive COp where
  | eq | ne | lt | le | gt | ge | is | nis | mem | nmem
  deriving DecidableEq
inductive Ty where
  | int | bool | str | tuple | list
  deriving DecidableEq
inductive Blt where
  | len | all | any | tuple | list | range | sorted | max | min | sum | abs | divmod | repr | int | str | dict
  deriving DecidableEq
inductive Mth where
  | append | pop | index | extend | count | get | join | split
  deriving DecidableEq

mutual
inductive ME where
  | non
  | bl (b : Bool)
  | int (i : Int)
  | str (x : Str)
  | var (i : Nat)
  | gint (x : Str) (i : Int)
  | gstr (x z : Str)
  | bin (op : BOp) (a b : ME)
  | neg (a : ME)
  | cmp (op : COp) (a b : ME)
  | chain (op op2 : COp) (a b c : ME)
  | and (a b : ME)
  | or (a b : ME)
  | not (a : ME)
  | ite (c a b : ME)
  | tup (as : MA)
  | lst (as : MA)
  | dct0
  | dct0i
  | dct1 (k v : ME)
  | ix (a b : ME)
  | sl (a lo hi : ME)
  | rev (a : ME)
  | isi (a : ME) (t : Ty)
  | call (f : Nat) (as : MA)
  | blt (f : Blt) (as : MA)
  | lens (a : ME)
  | sorts (a : ME)
  | mth (m : Mth) (o : ME) (as : MA)
  | lk (i : Nat) (e : ME)
  | gc (e : ME)
  | lc (own : List Nat) (s : MI) (g : MG) (c : ME) (e : ME)
  | lc2 (own own2 : List Nat) (s : MI) (g : MG) (c : ME) (s2 : MI) (g2 : MG) (c2 : ME) (e : ME)
inductive MA where
  | nil
  | cons (e : ME) (r : MA)
inductive MI where
  | val (e : ME)
  | zip (a b : ME)
  | enum (a : ME)
  | items (a : ME)
  | values (a : ME)
  | keys (a : ME)
inductive MG where
  | nm (i : Nat)
  | tup (gs : MGs)
  | sub (o i : ME)
inductive MGs where
  | nil
  | cons (g : MG) (r : MGs)
end

mutual
inductive MS where
  | asg (g : MG) (e : ME)
  | par (is : List Nat) (as : MA)
  | exp (e : ME)
  | ret (e : ME)
  | ifs (c : ME) (t u : MB)
  | whl (c : ME) (b : MB)
  | for_ (s : MI) (g : MG) (b : MB)
  | lk (i : Nat) (s : MS)
  | raise (cls : Nat) (as : MA)
  | pass
inductive MB where
  | nil
  | cons (s : MS) (r : MB)
  | gcs (slots : List Nat) (r : MB)
end

/-- a def: its name, how many parameters, its names, its body; whether what its run leaves behind is dropped -/
structure MDef where
  name : Str
  np : Nat
  N : List Str
  body : MB
  gc : Bool

abbrev Env := List (Option Val)
inductive Fl where
  | next
  | ret (v : Val)

/-! ### values -/
def cap : Nat := 1000000
def lim : Nat := 100000

/-- the items of what can be walked at once -/
def items (S : Sto) : Val → Option (List Val)
  | .tup xs => some xs
  | .fl xs => some xs
  | .ref r => S.lst r
  | .rng lo hi => some ((List.range (hi - lo).toNat).map fun (k : Nat) => Val.int (lo + (k : Int)))
  | _ => none

def optAll {α β : Type} (f : α → Option β) : List α → Option (List β)
  | [] => some []
  | x :: r => match f x with
    | some y => (match optAll f r with
      | some ys => some (y :: ys)
      | none => none)
    | none => none

/-- a value as data, to a depth -/
def dat (S : Sto) : Nat → Val → Option PyData
  | 0, _ => none
  | k + 1, v => match v with
    | .non => some .none
    | .bl b => some (.bool b)
    | .int i => some (.int i)
    | .str x => some (.str x)
    | .tup xs => (match optAll (dat S k) xs with
      | some ds => some (.tuple ds)
      | none => none)
    | .fl xs => (match optAll (dat S k) xs with
      | some ds => some (.list ds)
      | none => none)
    | .ref r => (match S.lst r with
      | some xs => (match optAll (dat S k) xs with
        | some ds => some (.list ds)
        | none => none)
      | none => none)
    | .rng _ _ => none

def deep : Nat := 12
def lay (S : Sto) (v : Val) : Option PyData := match dat S deep v with
  | some d => if d.canLay0 then some d else none
  | none => none

def lstOf (S : Sto) : Val → Option (List Val)
  | .ref r => S.lst r
  | _ => none
/-- == -/
def eqB (S : Sto) (x y : Val) : Option Bool := match x, y with
  | .int i, .int j => some (i == j)
  | .tup xs, .tup [] => some xs.isEmpty
  | x, y => match lstOf S x, lstOf S y with
    | some xs, some [] => some xs.isEmpty
    | _, _ => match dat S deep x, dat S deep y with
      | some d, some e => some (PyData.eqv d e)
      | _, _ => none

/-- x in items -/
def memB (S : Sto) (x : Val) (ys : List Val) : Option Bool := match dat S deep x, optAll (dat S deep) ys with
  | some d, some es => some (es.any fun z => PyData.eqv z d)
  | _, _ => none

def tru (S : Sto) : Val → Option Bool
  | .non => some false
  | .bl b => some b
  | .int i => some (i != 0)
  | .str x => if x.length ≤ sizeLine then some ((x.length : Int) != 0) else none
  | .tup xs => some (!xs.isEmpty)
  | .fl xs => some (!xs.isEmpty)
  | .ref r => (match S.get r with
    | some (.lst xs) => some (!xs.isEmpty)
    | _ => none)
  | .rng _ _ => none

/-- an item's place -/
def place (n : Nat) (i : Int) : Option Nat := L2.ixN n i
def itemAt (xs : List Val) (i : Int) : Option Val := L2.atI xs i

/-! ### keys of dicts: numbers, texts, None, tuples of such -/
mutual
def veq : Val → Val → Bool
  | .non, .non => true
  | .int i, .int j => i == j
  | .str x, .str y => x == y
  | .tup xs, .tup ys => veqs xs ys
  | _, _ => false
def veqs : List Val → List Val → Bool
  | [], [] => true
  | x :: xs, y :: ys => veq x y && veqs xs ys
  | _, _ => false
end
def keyOk : Nat → Val → Bool
  | 0, _ => false
  | k + 1, v => match v with
    | .non => true
    | .int _ => true
    | .str _ => true
    | .tup xs => xs.all (keyOk k)
    | _ => false
/-- keys that dicts here have: tuples -/
def isTupV : Val → Bool
  | .tup _ => true
  | _ => false
def dkey (k : Val) : Bool := isTupV k && keyOk 8 k
def dget (k : Val) : List (Val × Val) → Option Val
  | [] => none
  | p :: r => if veq p.1 k then some p.2 else dget k r
def dput (k v : Val) : List (Val × Val) → List (Val × Val)
  | [] => [(k, v)]
  | p :: r => if veq p.1 k then (p.1, v) :: r else p :: dput k v r

/-! ### dicts whose keys are numbers -/
def keyI : Val → Option Int
  | .int i => some i
  | _ => none
def iget (k : Int) : List (Int × Val) → Option Val
  | [] => none
  | p :: r => if p.1 = k then some p.2 else iget k r
def iput (k : Int) (v : Val) : List (Int × Val) → List (Int × Val)
  | [] => [(k, v)]
  | p :: r => if p.1 = k then (p.1, v) :: r else p :: iput k v r

/-! ### operators -/
def divOk (j : Int) : Bool := decide (0 < j) && decide (j < 1073741824)
def mulOk (i j : Int) : Bool := (decide (-(2 ^ 64) < i) && decide (i < 2 ^ 64)) || (decide (-(2 ^ 64) < j) && decide (j < 2 ^ 64))
def powOk (i j : Int) : Bool := decide (0 ≤ j) && decide (j ≤ 1000) && decide (i.natAbs < 2 ^ 64)
def bop (op : BOp) (x y : Val) (S : Sto) : R Val := match op, x, y with
  | .add, .int i, .int j => .ok (.int (i + j)) S
  | .add, .tup xs, .tup ys => if xs.length + ys.length ≤ cap then .ok (.tup (xs ++ ys)) S else .err
  | .add, .str a, .str b => if a.length + b.length ≤ cap then .ok (.str (a ++ b)) S else .err
  | .add, .ref r, .ref q => (match S.lst r, S.lst q with
    | some xs, some ys => if xs.length + ys.length ≤ cap then .ok (.ref S.n) (S.new (.lst (xs ++ ys))) else .err
    | _, _ => .err)
  | .sub, .int i, .int j => .ok (.int (i - j)) S
  | .mul, .int i, .int j => if mulOk i j then .ok (.int (i * j)) S else .err
  | .mul, .tup xs, .int k => if xs.isEmpty && decide (0 ≤ k) && decide (k ≤ 1000) then .ok (.tup []) S else if k == 1 then .ok (.tup xs) S else if !xs.isEmpty && decide (2 ≤ k) && decide (k ≤ 1000) && decide (xs.length ≤ 1000) then .ok (.tup (List.replicate k.toNat xs).flatten) S else .err
  | .mul, .ref r, .int k => (match S.lst r with
    | some xs => if decide (0 ≤ k) && decide (k ≤ 1000) && decide (xs.length * k.toNat ≤ cap) then .ok (.ref S.n) (S.new (.lst (List.replicate k.toNat xs).flatten)) else .err
    | none => .err)
  | .fdiv, .int i, .int j => if divOk j then .ok (.int (i / j)) S else .err
  | .mod, .int i, .int j => if decide (0 < j) then .ok (.int (i % j)) S else .err
  | .pow, .int i, .int j => if powOk i j then .ok (.int (i ^ j.toNat)) S else .err
  | _, _, _ => .err

/-- <: numbers, or alike data -/
def notNone : PyData → Bool
  | .none => false
  | _ => true
def ltB (S : Sto) (x y : Val) : Option Bool := match x, y with
  | .int i, .int j => some (decide (i < j))
  | x, y => match lay S x, lay S y with
    | some d, some e => if PySem.W.alike d e && notNone d then some (PySem.W.dataLt d e) else none
    | _, _ => none

def cop (op : COp) (x y : Val) (S : Sto) : R Val := match op with
  | .eq => R.of ((eqB S x y).map Val.bl) S
  | .ne => R.of ((eqB S x y).map fun b => Val.bl (!b)) S
  | .lt => R.of ((ltB S x y).map Val.bl) S
  | .gt => (match x, y with
    | .int i, .int j => .ok (.bl (decide (j < i))) S
    | _, _ => .err)
  | .le => (match x, y with
    | .int i, .int j => .ok (.bl (decide (i ≤ j))) S
    | _, _ => .err)
  | .ge => (match x, y with
    | .int i, .int j => .ok (.bl (decide (j ≤ i))) S
    | _, _ => .err)
  | .is => (match x, y with
    | .non, .non => .ok (.bl true) S
    | _, .non => .ok (.bl false) S
    | .bl a, .bl b => .ok (.bl (a == b)) S
    | _, _ => .err)
  | .nis => (match x, y with
    | .non, .non => .ok (.bl false) S
    | _, .non => .ok (.bl true) S
    | .bl a, .bl b => .ok (.bl (a != b)) S
    | _, _ => .err)
  | .mem => (match y with
    | .tup ys => R.of ((memB S x ys).map Val.bl) S
    | .ref r => (match S.get r with
      | some (.lst ys) => R.of ((memB S x ys).map Val.bl) S
      | some (.dct kvs) => if dkey x then .ok (.bl (dget x kvs).isSome) S else .err
      | some (.ldc kvs) => if dkey x then .ok (.bl (dget x kvs).isSome) S else .err
      | some (.dci kvs) => R.of ((keyI x).map fun i => Val.bl (iget i kvs).isSome) S
      | _ => .err)
    | _ => .err)
  | .nmem => (match y with
    | .tup ys => R.of ((memB S x ys).map fun b => Val.bl (!b)) S
    | .ref r => (match S.get r with
      | some (.lst ys) => R.of ((memB S x ys).map fun b => Val.bl (!b)) S
      | some (.dct kvs) => if dkey x then .ok (.bl (!(dget x kvs).isSome)) S else .err
      | some (.ldc kvs) => if dkey x then .ok (.bl (!(dget x kvs).isSome)) S else .err
      | some (.dci kvs) => R.of ((keyI x).map fun i => Val.bl (!(iget i kvs).isSome)) S
      | _ => .err)
    | _ => .err)

def isTy : Ty → Val → Sto → Option Bool
  | .int, .int _, _ => some true
  | .int, .bl _, _ => some true
  | .bool, .bl _, _ => some true
  | .str, .str _, _ => some true
  | .tuple, .tup _, _ => some true
  | .list, .ref r, S => (match S.get r with
    | some (.lst _) => some true
    | some (.dct _) => some false
    | some (.dci _) => some false
    | _ => none)
  | .list, .fl _, _ => some true
  | _, .ref r, S => (match S.get r with
    | some (.lst _) => some false
    | some (.dct _) => some false
    | some (.dci _) => some false
    | _ => none)
  | _, .rng _ _, _ => none
  | _, _, _ => some false

/-! ### ranges -/
def rgOk (lo hi : Int) : Bool := decide (-(2 ^ 62) ≤ lo) && decide (lo < 2 ^ 62) && (decide (-(2 ^ 62) ≤ hi) && decide (hi < 2 ^ 62)) && decide (hi - lo ≤ 100000)
/-! ### subscripts, slices -/
def getIx (x i : Val) (S : Sto) : R Val := match x, i with
  | .tup xs, .int k => R.of (itemAt xs k) S
  | .fl xs, .int k => R.of (itemAt xs k) S
  | .ref r, i => (match S.get r, i with
    | some (.lst xs), .int k => R.of (itemAt xs k) S
    | some (.dct kvs), k => if dkey k then R.of (dget k kvs) S else .err
    | some (.ldc kvs), k => if dkey k then R.of (dget k kvs) S else .err
    | some (.dci kvs), k => R.of ((keyI k).bind fun i => iget i kvs) S
    | _, _ => .err)
  | _, _ => .err
def cut (xs : List Val) (lo hi : Option Int) : List Val :=
  (xs.drop (HT.sIx xs.length 0 lo)).take (HT.sIx xs.length xs.length hi - HT.sIx xs.length 0 lo)
/-- a part of a slice: none written, or a number -/
def isNon : ME → Bool
  | .non => true
  | _ => false
def partOf (e : ME) (v : Val) : Option (Option Int) := if isNon e then some none else match v with
  | .int i => some (some i)
  | _ => none
def getSl (x : Val) (lo hi : Option (Option Int)) (S : Sto) : R Val := match lo, hi with
  | some l, some h => (match x with
    | .tup xs => .ok (.tup (cut xs l h)) S
    | .fl xs => .ok (.ref S.n) (S.new (.lst (cut xs l h)))
    | .ref r => (match S.lst r with
      | some xs => .ok (.ref S.n) (S.new (.lst (cut xs l h)))
      | none => .err)
    | _ => .err)
  | _, _ => .err
def getRev (x : Val) (S : Sto) : R Val := match x with
  | .tup xs => .ok (.tup xs.reverse) S
  | .ref r => (match S.lst r with
    | some xs => .ok (.ref S.n) (S.new (.lst xs.reverse))
    | none => .err)
  | _ => .err
def setIx (o i v : Val) (S : Sto) : R Unit := match o, i with
  | .ref r, i => (match S.get r, i with
    | some (.lst xs), .int k => (match place xs.length k with
      | some j => .ok () (S.put r (.lst (xs.set j v)))
      | none => .err)
    | some (.dct kvs), k => if dkey k && decide (kvs.length < cap) then .ok () (S.put r (.dct (dput k v kvs))) else .err
    | some (.dci kvs), k => (match keyI k with
      | some i => if decide (kvs.length < cap) then .ok () (S.put r (.dci (iput i v kvs))) else .err
      | none => .err)
    | _, _ => .err)
  | _, _ => .err

/-! ### built-in functions -/
def bools : List Val → Option (List Bool) := optAll fun
  | .bl b => some b
  | _ => none
def intsOf : List Val → Option (List Int) := optAll fun
  | .int i => some i
  | _ => none
/-! ### sorted: each goes ahead of the first that is not less -/
def insV {α : Type} (le : α → α → Bool) (x : α) : List α → List α
  | [] => [x]
  | y :: r => if le x y then x :: y :: r else y :: insV le x r
def sortV {α : Type} (le : α → α → Bool) : List α → List α
  | [] => []
  | x :: r => insV le x (sortV le r)
def alikeL (ds : List PyData) : Bool := ds.all fun d => ds.all fun e => PySem.W.alike d e
def isTup1 : PyData → Bool
  | .tuple (_ :: _) => true
  | _ => false
def isFlat : PyData → Bool
  | .none => false
  | .tuple _ => false
  | _ => true
def sortable (ds : List PyData) : Bool := alikeL ds && (ds.all isTup1 || ds.all isFlat)
def leP (p q : Val × PyData) : Bool := !PySem.W.dataLt q.2 p.2
def sortedV (S : Sto) (xs : List Val) : Option (List Val) := match optAll (lay S) xs with
  | some ds => if sortable ds && decide (xs.length ≤ cap) then some ((sortV leP (xs.zip ds)).map (·.1)) else none
  | none => none

mutual
/-- a value that its data tell -/
def pureV : Val → Bool
  | .non => true
  | .bl _ => true
  | .int _ => true
  | .str _ => true
  | .tup xs => pureVs xs
  | _ => false
def pureVs : List Val → Bool
  | [] => true
  | x :: xs => pureV x && pureVs xs
end
/-- the least, the greatest: the first of such -/
def bestV (lt : PyData → PyData → Bool) (S : Sto) (xs : List Val) : Option Val := match xs, optAll (lay S) xs with
  | x :: xs, some (d :: ds) => if alikeL (d :: ds) && (d :: ds).all notNone && pureVs (x :: xs) && decide (xs.length < cap) then some ((xs.zip ds).foldl (fun a y => if lt y.2 a.2 then y else a) (x, d)).1 else none
  | _, _ => none
/-- unlike numbers, rising -/
def insU (x : Int) : List Int → List Int
  | [] => [x]
  | y :: r => if x < y then x :: y :: r else if x = y then y :: r else y :: insU x r
def sortU : List Int → List Int
  | [] => []
  | x :: r => insU x (sortU r)
/-- sorted(set(x)) of a tuple of numbers -/
def sortSet (x : Val) (S : Sto) : R Val := match x with
  | .tup xs => (match intsOf xs with
    | some ns => if decide (ns.length < 64) then .ok (.ref S.n) (S.new (.lst ((sortU ns).map Val.int))) else .err
    | none => .err)
  | _ => .err
/-- pairs, for dict(..) -/
def pairsOf : List Val → Option (List (Val × Val)) := optAll fun
  | .tup [k, v] => if dkey k then some (k, v) else none
  | _ => none
def dputs (ps acc : List (Val × Val)) : List (Val × Val) := ps.foldl (fun a p => dput p.1 p.2 a) acc
/-- a value without lists as data, to a depth, dicts too -/
def rdat (S : Sto) : Nat → Val → Option PyData
  | 0, _ => none
  | k + 1, v => match v with
    | .non => some .none
    | .bl b => some (.bool b)
    | .int i => some (.int i)
    | .str x => some (.str x)
    | .tup xs => (match optAll (rdat S k) xs with
      | some ds => some (.tuple ds)
      | none => none)
    | .ref r => (match S.get r with
      | some (.dct kvs) => (match optAll (rdat S k) (kvs.map (·.1)), optAll (rdat S k) (kvs.map (·.2)) with
        | some ks, some ds => some (.dict (ks.zip ds))
        | _, _ => none)
      | some (.dci kvs) => (match optAll (rdat S k) (kvs.map (·.2)) with
        | some ds => some (.dict ((kvs.map fun p => PyData.int p.1).zip ds))
        | _ => none)
      | _ => none)
    | _ => none
/-- repr -/
def reprD (d : PyData) : Option Str := if d.showable && decide (d.shown.length ≤ cap) then some d.shown else none
def reprOf (S : Sto) (v : Val) : Option Str := match dat S deep v with
  | some d => reprD d
  | none => (match rdat S deep v with
    | some d => reprD d
    | none => none)
def bapp (f : Blt) (vs : List Val) (S : Sto) : R Val := match f, vs with
  | .repr, [v] => R.of ((reprOf S v).map Val.str) S
  | .sum, [.ref r] => (match S.lst r with
    | some xs => (match intsOf xs with
      | some ns => .ok (.int ns.sum) S
      | none => .err)
    | none => .err)
  | .len, [.str x] => if x.length ≤ cap then .ok (.int x.length) S else .err
  | .len, [.ref r] => (match S.get r with
    | some (.lst xs) => .ok (.int xs.length) S
    | some (.dct kvs) => .ok (.int kvs.length) S
    | some (.dci kvs) => .ok (.int kvs.length) S
    | _ => .err)
  | .len, [.tup xs] => .ok (.int xs.length) S
  | .len, [.fl xs] => .ok (.int xs.length) S
  | .all, [.ref r] => (match S.lst r with
    | some xs => R.of ((bools xs).map fun bs => Val.bl (bs.all id)) S
    | none => .err)
  | .any, [.ref r] => (match S.lst r with
    | some xs => R.of ((bools xs).map fun bs => Val.bl (bs.any id)) S
    | none => .err)
  | .tuple, [.tup xs] => .ok (.tup xs) S
  | .tuple, [.ref r] => (match S.lst r with
    | some xs => .ok (.tup xs) S
    | none => .err)
  | .tuple, [.rng lo hi] => if rgOk lo hi then .ok (.tup ((List.range (hi - lo).toNat).map fun (k : Nat) => Val.int (lo + (k : Int)))) S else .err
  | .list, [.tup xs] => .ok (.ref S.n) (S.new (.lst xs))
  | .list, [.ref r] => (match S.get r with
    | some (.lst xs) => .ok (.ref S.n) (S.new (.lst xs))
    | some (.dct kvs) => .ok (.ref S.n) (S.new (.lst (kvs.map (·.1))))
    | some (.dci kvs) => .ok (.ref S.n) (S.new (.lst (kvs.map fun p => Val.int p.1)))
    | _ => .err)
  | .list, [.rng lo hi] => if rgOk lo hi then .ok (.ref S.n) (S.new (.lst ((List.range (hi - lo).toNat).map fun (k : Nat) => Val.int (lo + (k : Int))))) else .err
  | .range, [.int j] => if decide (-(2 ^ 62) ≤ j) && decide (j < 2 ^ 62) then .ok (.rng 0 j) S else .err
  | .range, [.int i, .int j] => if decide (-(2 ^ 62) ≤ i) && decide (i < 2 ^ 62) && (decide (-(2 ^ 62) ≤ j) && decide (j < 2 ^ 62)) then .ok (.rng i j) S else .err
  | .sorted, [.tup xs] => (match sortedV S xs with
    | some ys => .ok (.ref S.n) (S.new (.lst ys))
    | none => .err)
  | .sorted, [.ref r] => (match S.get r with
    | some (.lst xs) => (match sortedV S xs with
      | some ys => .ok (.ref S.n) (S.new (.lst ys))
      | none => .err)
    | some (.dct kvs) => (match sortedV S (kvs.map (·.1)) with
      | some ys => .ok (.ref S.n) (S.new (.lst ys))
      | none => .err)
    | some (.dci kvs) => (match sortedV S (kvs.map fun p => Val.int p.1) with
      | some ys => .ok (.ref S.n) (S.new (.lst ys))
      | none => .err)
    | _ => .err)
  | .min, [.ref r] => (match S.lst r with
    | some xs => R.of (bestV (fun y a => PySem.W.dataLt y a) S xs) S
    | none => .err)
  | .max, [.ref r] => (match S.lst r with
    | some xs => R.of (bestV (fun y a => PySem.W.dataLt a y) S xs) S
    | none => .err)
  | .max, [.int i, .int j] => .ok (.int (if j > i then j else i)) S
  | .min, [.int i, .int j] => .ok (.int (if j < i then j else i)) S
  | .abs, [.int i] => .ok (.int (if i < 0 then -i else i)) S
  | .divmod, [.int i, .int j] => if divOk j then .ok (.tup [.int (i / j), .int (i % j)]) S else .err
  | .dict, [.ref r] => (match S.lst r with
    | some xs => (match pairsOf xs with
      | some ps => if decide (ps.length ≤ cap) then .ok (.ref S.n) (S.new (.dct (dputs ps []))) else .err
      | none => .err)
    | none => .err)
  | .int, [.int i] => .ok (.int i) S
  | .int, [.bl b] => .ok (.int (if b then 1 else 0)) S
  | _, _ => .err

def mapp (m : Mth) (o : Val) (vs : List Val) (S : Sto) : R Val := match m, o, vs with
  | .append, .ref r, [v] => (match S.lst r with
    | some xs => if xs.length < cap then .ok .non (S.put r (.lst (xs ++ [v]))) else .err
    | none => .err)
  | .pop, .ref r, [] => (match S.lst r with
    | some xs => (match xs[xs.length - 1]? with
      | some y => .ok y (S.put r (.lst xs.dropLast))
      | none => .err)
    | none => .err)
  | .pop, .ref r, [.int i] => (match S.lst r with
    | some xs => (match place xs.length i with
      | some k => (match xs[k]? with
        | some y => if decide (xs.length ≤ cap) then .ok y (S.put r (.lst (xs.eraseIdx k))) else .err
        | none => .err)
      | none => .err)
    | none => .err)
  | .extend, .ref r, [.ref q] => (match S.lst r, S.lst q with
    | some xs, some ys => if xs.length + ys.length ≤ cap && !(r == q) then .ok .non (S.put r (.lst (xs ++ ys))) else .err
    | _, _ => .err)
  | .get, .ref r, [k, d] => (match S.get r with
    | some (.dct kvs) => if dkey k then .ok ((dget k kvs).getD d) S else .err
    | some (.dci kvs) => R.of ((keyI k).map fun i => (iget i kvs).getD d) S
    | _ => .err)
  | .index, .ref r, [x] => (match lay S x, lay S (.ref r) with
    | some d, some (.list ds) => (match ds.findIdx? fun z => PyData.eqv z d with
      | some k => .ok (.int (k : Nat)) S
      | none => .err)
    | _, _ => .err)
  | _, _, _ => .err

/-- what a method's object must be -/
def recv (m : Mth) (x : Val) (S : Sto) : Bool := match m, x with
  | .get, .ref r => (match S.get r with
    | some (.dct _) => true
    | some (.dci _) => true
    | _ => false)
  | .append, .ref r => (S.lst r).isSome
  | .pop, .ref r => (S.lst r).isSome
  | .index, .ref r => (S.lst r).isSome
  | .extend, .ref r => (S.lst r).isSome
  | .count, .ref r => (S.lst r).isSome
  | _, _ => false

/-- len(set(..)) of a list of numbers -/
def lenSet (x : Val) (S : Sto) : R Val := match x with
  | .ref r => (match S.lst r with
    | some xs => (match intsOf xs with
      | some ns => if decide (ns.length + 1 < 4096) then .ok (.int (ns.foldl PyProof.Rows.step_dedup []).length) S else .err
      | none => .err)
    | none => .err)
  | _ => .err

/-! ### what is walked -/
inductive Src where
  | val (v : Val)
  | zip (a b : Val)
  | enum (a : Val)
  | items (r : Nat)
  | values (r : Nat)
  | keys (r : Nat)
/-- the i-th item; none: no more -/
def nextAt (S : Sto) (i : Nat) : Src → Option (Option Val)
  | .val (.tup xs) => some xs[i]?
  | .val (.fl xs) => some xs[i]?
  | .val (.rng lo hi) => if rgOk lo hi then some (if i < (hi - lo).toNat then some (.int (lo + (i : Int))) else none) else none
  | .val (.ref r) => (match S.lst r with
    | some xs => some xs[i]?
    | none => none)
  | .val _ => none
  | .zip (.tup xs) (.tup ys) => (match xs[i]?, ys[i]? with
    | some x, some y => some (some (.tup [x, y]))
    | _, _ => some none)
  | .zip (.ref r) (.ref q) => (match S.lst r, S.lst q with
    | some xs, some ys => (match xs[i]?, ys[i]? with
      | some x, some y => some (some (.tup [x, y]))
      | _, _ => some none)
    | _, _ => none)
  | .zip _ _ => none
  | .enum (.tup xs) => (match xs[i]? with
    | some x => some (some (.tup [.int (i : Int), x]))
    | none => some none)
  | .enum (.ref r) => (match S.lst r with
    | some xs => (match xs[i]? with
      | some x => some (some (.tup [.int (i : Int), x]))
      | none => some none)
    | none => none)
  | .enum _ => none
  | .items r => (match S.get r with
    | some (.ldc kvs) => some (kvs[i]?.map fun p => .tup [p.1, p.2])
    | some (.ldi kvs) => some (kvs[i]?.map fun p => .tup [.int p.1, p.2])
    | _ => none)
  | .values r => (match S.get r with
    | some (.ldc kvs) => some (kvs[i]?.map fun p => p.2)
    | some (.ldi kvs) => some (kvs[i]?.map fun p => p.2)
    | _ => none)
  | .keys r => (match S.get r with
    | some (.ldc kvs) => some (kvs[i]?.map fun p => p.1)
    | some (.ldi kvs) => some (kvs[i]?.map fun p => .int p.1)
    | _ => none)

/-- a dict is locked while it is walked -/
def lockAt (env : List (Option Val)) (i : Nat) (S : Sto) : Option (Nat × SO) := match env[i]? with
  | some (some (.ref r)) => (match S.get r with
    | some (.dct kvs) => some (r, .ldc kvs)
    | some (.dci kvs) => some (r, .ldi kvs)
    | _ => none)
  | _ => none
def unlockAt {α : Type} (r : Nat) (a : α) (S : Sto) : R α := match S.get r with
  | some (.ldc kvs) => .ok a (S.put r (.dct kvs))
  | some (.ldi kvs) => .ok a (S.put r (.dci kvs))
  | _ => .err

/-! ### what is reached no longer is dropped -/
mutual
/-- all objects in it are below k -/
def rlt (k : Nat) : Val → Bool
  | .ref r => Nat.blt r k
  | .tup xs => rlts k xs
  | .fl xs => rlts k xs
  | _ => true
def rlts (k : Nat) : List Val → Bool
  | [] => true
  | x :: xs => rlt k x && rlts k xs
end
def SO.rlt (k : Nat) : SO → Bool
  | .lst xs => rlts k xs
  | .dct kvs => kvs.all fun p => Mp.rlt k p.1 && Mp.rlt k p.2
  | .ldc kvs => kvs.all fun p => Mp.rlt k p.1 && Mp.rlt k p.2
  | .dci kvs => kvs.all fun p => Mp.rlt k p.2
  | .ldi kvs => kvs.all fun p => Mp.rlt k p.2
/-- each object has older ones alone -/
def mono : List SO → Bool
  | [] => true
  | o :: r => o.rlt r.length && mono r
mutual
/-- the objects in it from k on -/
def nrs (k : Nat) : Val → List Nat
  | .ref r => if Nat.blt r k then [] else [r]
  | .tup xs => nrss k xs
  | .fl xs => nrss k xs
  | _ => []
def nrss (k : Nat) : List Val → List Nat
  | [] => []
  | x :: xs => nrs k x ++ nrss k xs
end
mutual
/-- objects from k on by their places in a list -/
def ren (k : Nat) (rs : List Nat) : Val → Val
  | .ref r => if Nat.blt r k then .ref r else .ref (k + rs.idxOf r)
  | .tup xs => .tup (rens k rs xs)
  | .fl xs => .fl (rens k rs xs)
  | .non => .non
  | .bl b => .bl b
  | .int i => .int i
  | .str x => .str x
  | .rng lo hi => .rng lo hi
def rens (k : Nat) (rs : List Nat) : List Val → List Val
  | [] => []
  | x :: xs => ren k rs x :: rens k rs xs
end
def uniqN : List Nat → List Nat
  | [] => []
  | x :: r => x :: (uniqN r).filter (· != x)
/-- the oldest k -/
def Sto.old (S : Sto) (k : Nat) : List SO := S.l.drop (S.n - k)
/-- the store of the oldest k and some more -/
def Sto.keep (S : Sto) (k : Nat) (rs : List Nat) : Option Sto :=
  if Nat.ble k S.n && (S.old k).length == k && mono (S.old k) then match optAll S.get rs with
    | some os => if os.all (SO.rlt k) then some ⟨k + rs.length, os.reverse ++ S.old k⟩ else none
    | none => none
  else none
def gcV (k : Nat) (v : Val) (S : Sto) : Val × Sto := match S.keep k (uniqN (nrs k v)) with
  | some S1 => (ren k (uniqN (nrs k v)) v, S1)
  | none => (v, S)
def slotRef (env : List (Option Val)) (i : Nat) : Option Nat := match env[i]? with
  | some (some (.ref r)) => some r
  | _ => none
def renO (k : Nat) (rs : List Nat) : Option Val → Option Val
  | some v => if (nrs k v).all (rs.contains ·) then some (ren k rs v) else none
  | none => none
def gcE (k : Nat) (slots : List Nat) (env : List (Option Val)) (S : Sto) : List (Option Val) × Sto := match optAll (slotRef env) slots with
  | some rs => if rs.all (Nat.ble k) && decide rs.Nodup then (match S.keep k rs with
    | some S1 => (env.map (renO k rs), S1)
    | none => (env, S)) else (env, S)
  | none => (env, S)

def wipe (env : Env) : List Nat → Env
  | [] => env
  | v :: vs => (wipe env vs).set v none

/-- a comprehension's turns -/
def lcLoop (turn : Val → Sto → R (Option Val)) (src : Src) : Nat → Nat → List Val → Sto → R (List Val)
  | 0, _, _, _ => .err
  | k + 1, i, acc, S => match nextAt S i src with
    | none => .err
    | some none => .ok acc S
    | some (some v) => (turn v S).bind fun o S1 => match o with
      | some y => lcLoop turn src k (i + 1) (acc ++ [y]) S1
      | none => lcLoop turn src k (i + 1) acc S1
/-- .. of two clauses: a turn hands on the list -/
def lcLoop2 (turn : Val → List Val → Sto → R (List Val)) (src : Src) : Nat → Nat → List Val → Sto → R (List Val)
  | 0, _, _, _ => .err
  | k + 1, i, acc, S => match nextAt S i src with
    | none => .err
    | some none => .ok acc S
    | some (some v) => (turn v acc S).bind fun acc1 S1 => lcLoop2 turn src k (i + 1) acc1 S1
def forLoop (turn : Val → Env → Sto → R (Fl × Env)) (src : Src) : Nat → Nat → Env → Sto → R (Fl × Env)
  | 0, _, _, _ => .err
  | k + 1, i, env, S => match nextAt S i src with
    | none => .err
    | some none => .ok (.next, env) S
    | some (some v) => (turn v env S).bind fun p S1 => match p.1 with
      | .next => forLoop turn src k (i + 1) p.2 S1
      | .ret w => .ok (.ret w, p.2) S1
def whlLoop (c : Env → Sto → R Bool) (b : Env → Sto → R (Fl × Env)) : Nat → Env → Sto → R (Fl × Env)
  | 0, _, _ => .err
  | k + 1, env, S => (c env S).bind fun t S1 => match t with
    | false => .ok (.next, env) S1
    | true => (b env S1).bind fun p S2 => match p.1 with
      | .next => whlLoop c b k p.2 S2
      | .ret w => .ok (.ret w, p.2) S2

/-! ### what a text means -/
def truR (v : Val) (S : Sto) : R Bool := R.of (tru S v) S

mutual
def evE (cf : Nat → List Val → Sto → R Val) : ME → Env → Sto → R Val
  | .non, _, S => .ok .non S
  | .bl b, _, S => .ok (.bl b) S
  | .int i, _, S => .ok (.int i) S
  | .str x, _, S => .ok (.str x) S
  | .var i, env, S => (match env[i]? with
    | some (some v) => .ok v S
    | _ => .err)
  | .gint _ i, _, S => .ok (.int i) S
  | .gstr _ z, _, S => .ok (.str z) S
  | .bin op a b, env, S => (evE cf a env S).bind fun x S1 => (evE cf b env S1).bind fun y S2 => bop op x y S2
  | .neg a, env, S => (evE cf a env S).bind fun x S1 => match x with
    | .int i => .ok (.int (-i)) S1
    | _ => .err
  | .cmp op a b, env, S => (evE cf a env S).bind fun x S1 => (evE cf b env S1).bind fun y S2 => cop op x y S2
  | .chain op op2 a b c, env, S => (evE cf a env S).bind fun x S1 => (evE cf b env S1).bind fun y S2 => (cop op x y S2).bind fun t S3 => match t with
    | .bl false => .ok (.bl false) S3
    | .bl true => (evE cf c env S3).bind fun z S4 => cop op2 y z S4
    | _ => .err
  | .and a b, env, S => (evE cf a env S).bind fun x S1 => (truR x S1).bind fun t S2 => match t with
    | true => evE cf b env S2
    | false => .ok x S2
  | .or a b, env, S => (evE cf a env S).bind fun x S1 => (truR x S1).bind fun t S2 => match t with
    | true => .ok x S2
    | false => evE cf b env S2
  | .not a, env, S => (evE cf a env S).bind fun x S1 => (truR x S1).bind fun t S2 => .ok (.bl (!t)) S2
  | .ite c a b, env, S => (evE cf c env S).bind fun x S1 => (truR x S1).bind fun t S2 => match t with
    | true => evE cf a env S2
    | false => evE cf b env S2
  | .tup as, env, S => (evA cf as env S).bind fun vs S1 => if vs.length ≤ cap then .ok (.tup vs) S1 else .err
  | .lst as, env, S => (evA cf as env S).bind fun vs S1 => if vs.length ≤ cap then .ok (.ref S1.n) (S1.new (.lst vs)) else .err
  | .dct0, _, S => .ok (.ref S.n) (S.new (.dct []))
  | .dct0i, _, S => .ok (.ref S.n) (S.new (.dci []))
  | .dct1 k v, env, S => (evE cf k env S).bind fun x S1 => (evE cf v env S1).bind fun y S2 => if dkey x then .ok (.ref S2.n) (S2.new (.dct [(x, y)])) else match keyI x with
    | some i => .ok (.ref S2.n) (S2.new (.dci [(i, y)]))
    | none => .err
  | .ix a b, env, S => (evE cf a env S).bind fun x S1 => (evE cf b env S1).bind fun y S2 => getIx x y S2
  | .sl a lo hi, env, S => (evE cf a env S).bind fun x S1 => (evE cf lo env S1).bind fun l S2 => (evE cf hi env S2).bind fun h S3 => getSl x (partOf lo l) (partOf hi h) S3
  | .rev a, env, S => (evE cf a env S).bind fun x S1 => getRev x S1
  | .isi a t, env, S => (evE cf a env S).bind fun x S1 => R.of ((isTy t x S1).map Val.bl) S1
  | .call f as, env, S => (evA cf as env S).bind fun vs S1 => cf f vs S1
  | .blt f as, env, S => (evA cf as env S).bind fun vs S1 => bapp f vs S1
  | .lens a, env, S => (evE cf a env S).bind fun x S1 => lenSet x S1
  | .sorts a, env, S => (evE cf a env S).bind fun x S1 => sortSet x S1
  | .mth m o as, env, S => (evE cf o env S).bind fun x S1 => if recv m x S1 then (evA cf as env S1).bind fun vs S2 => mapp m x vs S2 else .err
  | .lk i e, env, S => (match lockAt env i S with
    | some p => (evE cf e env (S.put p.1 p.2)).bind fun v S1 => unlockAt p.1 v S1
    | none => .err)
  | .gc e, env, S => (evE cf e env S).bind fun v S1 => .ok (gcV S.n v S1).1 (gcV S.n v S1).2
  | .lc own s g c e, env, S => (evI cf s env S).bind fun src S1 =>
      (lcLoop (fun v S2 => (asG cf g v (wipe env own) S2).bind fun env2 S3 => (evE cf c env2 S3).bind fun x S4 => (truR x S4).bind fun t S5 => match t with
        | true => (evE cf e env2 S5).bind fun y S6 => .ok (some y) S6
        | false => .ok none S5) src lim 0 [] S1).bind fun acc S7 => .ok (.ref S7.n) (S7.new (.lst acc))
  | .lc2 own own2 s g c s2 g2 c2 e, env, S => (evI cf s env S).bind fun src S1 =>
      (lcLoop2 (fun v acc S2 => (asG cf g v (wipe env own) S2).bind fun env2 S3 => (evE cf c env2 S3).bind fun x S4 => (truR x S4).bind fun t S5 => match t with
        | false => .ok acc S5
        | true => (evI cf s2 env2 S5).bind fun src2 S6 =>
          lcLoop2 (fun v2 acc2 S7 => (asG cf g2 v2 (wipe env2 own2) S7).bind fun env3 S8 => (evE cf c2 env3 S8).bind fun x2 S9 => (truR x2 S9).bind fun t2 S10 => match t2 with
            | true => (evE cf e env3 S10).bind fun y S11 => if acc2.length < cap then .ok (acc2 ++ [y]) S11 else .err
            | false => .ok acc2 S10) src2 lim 0 acc S6) src lim 0 [] S1).bind fun acc S12 => .ok (.ref S12.n) (S12.new (.lst acc))
def evA (cf : Nat → List Val → Sto → R Val) : MA → Env → Sto → R (List Val)
  | .nil, _, S => .ok [] S
  | .cons e r, env, S => (evE cf e env S).bind fun v S1 => (evA cf r env S1).bind fun vs S2 => .ok (v :: vs) S2
def evI (cf : Nat → List Val → Sto → R Val) : MI → Env → Sto → R Src
  | .val e, env, S => (evE cf e env S).bind fun v S1 => .ok (.val v) S1
  | .zip a b, env, S => (evE cf a env S).bind fun x S1 => (evE cf b env S1).bind fun y S2 => .ok (.zip x y) S2
  | .enum a, env, S => (evE cf a env S).bind fun x S1 => .ok (.enum x) S1
  | .items a, env, S => (evE cf a env S).bind fun x S1 => match x with
    | .ref r => .ok (.items r) S1
    | _ => .err
  | .values a, env, S => (evE cf a env S).bind fun x S1 => match x with
    | .ref r => .ok (.values r) S1
    | _ => .err
  | .keys a, env, S => (evE cf a env S).bind fun x S1 => match x with
    | .ref r => .ok (.keys r) S1
    | _ => .err
def asG (cf : Nat → List Val → Sto → R Val) : MG → Val → Env → Sto → R Env
  | .nm i, v, env, S => .ok (env.set i (some v)) S
  | .tup gs, v, env, S => (match v with
    | .tup xs => asGs cf gs xs env S
    | _ => .err)
  | .sub o i, v, env, S => (evE cf o env S).bind fun x S1 => (evE cf i env S1).bind fun y S2 => (setIx x y v S2).bind fun _ S3 => .ok env S3
def asGs (cf : Nat → List Val → Sto → R Val) : MGs → List Val → Env → Sto → R Env
  | .nil, [], env, S => .ok env S
  | .cons g r, v :: vs, env, S => (asG cf g v env S).bind fun env1 S1 => asGs cf r vs env1 S1
  | _, _, _, _ => .err
end

def setAll (env : Env) : List Nat → List Val → Option Env
  | [], [] => some env
  | i :: is, v :: vs => setAll (env.set i (some v)) is vs
  | _, _ => none

mutual
def evS (cf : Nat → List Val → Sto → R Val) : Nat → MS → Env → Sto → R (Fl × Env)
  | _, .asg g e, env, S => (evE cf e env S).bind fun v S1 => (asG cf g v env S1).bind fun env1 S2 => .ok (.next, env1) S2
  | _, .par is as, env, S => (evA cf as env S).bind fun vs S1 => match setAll env is vs with
    | some env1 => .ok (.next, env1) S1
    | none => .err
  | _, .exp e, env, S => (evE cf e env S).bind fun _ S1 => .ok (.next, env) S1
  | _, .ret e, env, S => (evE cf e env S).bind fun v S1 => .ok (.ret v, env) S1
  | k, .ifs c t u, env, S => (evE cf c env S).bind fun x S1 => (truR x S1).bind fun b S2 => match b with
    | true => evB cf k t env S2
    | false => evB cf k u env S2
  | k, .whl c b, env, S => whlLoop (fun env1 S1 => (evE cf c env1 S1).bind fun x S2 => truR x S2) (fun env1 S1 => evB cf k b env1 S1) lim env S
  | _, .for_ s g b, env, S => (evI cf s env S).bind fun src S1 => forLoop (fun v env1 S2 => (asG cf g v env1 S2).bind fun env2 S3 => evB cf S1.n b env2 S3) src lim 0 env S1
  | _, .lk i s, env, S => (match lockAt env i S with
    | some p => (evS cf S.n s env (S.put p.1 p.2)).bind fun v S1 => unlockAt p.1 v S1
    | none => .err)
  | _, .raise _ _, _, _ => .err
  | _, .pass, env, S => .ok (.next, env) S
def evB (cf : Nat → List Val → Sto → R Val) : Nat → MB → Env → Sto → R (Fl × Env)
  | _, .nil, env, S => .ok (.next, env) S
  | k, .cons s r, env, S => (evS cf k s env S).bind fun p S1 => match p.1 with
    | .next => evB cf k r p.2 S1
    | .ret v => .ok (.ret v, p.2) S1
  | k, .gcs sl r, env, S => evB cf k r (gcE k sl env S).1 (gcE k sl env S).2
end

def flV : Fl → Val
  | .ret v => v
  | .next => .non
def callF (P : Nat → Option MDef) : Nat → Nat → List Val → Sto → R Val
  | 0, _, _, _ => .err
  | n + 1, f, vs, S => match P f with
    | none => .err
    | some d => if vs.length = d.np then
        (evB (callF P n) S.n d.body (vs.map some ++ List.replicate (d.N.length - vs.length) none) S).bind fun p S1 =>
          if d.gc then .ok (gcV S.n (flV p.1) S1).1 (gcV S.n (flV p.1) S1).2 else .ok (flV p.1) S1
      else .err
end Mp

set_option Elab.async false
set_option linter.all false
set_option maxRecDepth 100000
set_option maxHeartbeats 1000000
/-! Mp, part B: how plain values and the store lie in the layer's heap. -/
namespace Mp
open PySem L2

/-! ### the store -/
theorem get_lt {S : Sto} {r : Nat} {o : SO} (h : S.get r = some o) : r < S.n := by
  unfold Sto.get at h
  split at h
  · assumption
  · cases h
theorem get_new {S : Sto} {o : SO} : (S.new o).get S.n = some o := by
  unfold Sto.get Sto.new
  simp
theorem get_old {S : Sto} {o : SO} {r : Nat} (h : r < S.n) : (S.new o).get r = S.get r := by
  unfold Sto.get Sto.new
  have e1 : r < S.n + 1 := by omega
  have e2 : S.n + 1 - 1 - r = (S.n - 1 - r) + 1 := by omega
  simp only [e2, if_pos h, if_pos e1, List.getElem?_cons_succ]
theorem get_put {S : Sto} {r : Nat} {o o' : SO} (h : S.get r = some o) : (S.put r o').get r = some o' := by
  have hl := get_lt h
  unfold Sto.get at h
  rw [if_pos hl] at h
  obtain ⟨h1, _⟩ := List.getElem?_eq_some_iff.mp h
  unfold Sto.get Sto.put
  simp only
  rw [if_pos hl, List.getElem?_set_self h1]
theorem get_put_ne {S : Sto} {r q : Nat} {o' : SO} (hr : r < S.n) (hq : q < S.n) (h : q ≠ r) : (S.put r o').get q = S.get q := by
  unfold Sto.get Sto.put
  simp only
  rw [if_pos hq, if_pos hq, List.getElem?_set_ne (by omega)]
theorem lst_get {S : Sto} {r : Nat} {xs : List Val} (h : S.lst r = some xs) : S.get r = some (.lst xs) := by
  unfold Sto.lst at h
  split at h
  · rename_i e; rw [e]; cases h; rfl
  · cases h

/-! ### how things lie -/
/-- the written part, the world -/
structure Kw where
  K : PySem.W.Frag
  w : World
  P : Program
instance : Coe Kw PySem.W.Frag := ⟨Kw.K⟩
abbrev Cxkw (X : Cx) : Kw := ⟨X.K, X.w, X.prog⟩
/-- a list that never changes -/
def SqF (K : PySem.W.Frag) (H : Hp) (a : Addr) (xs : List V) : Prop := (∃ o, H a = some (.frz o (.lst xs))) ∨ SqL K (fun _ => none) a xs
theorem SqF.sq {K : PySem.W.Frag} {H : Hp} {a : Addr} {xs : List V} (h : SqF K H a xs) : SqL K H a xs := by
  rcases h with h | h
  · exact .inl (.inr h)
  · rcases h with (h | ⟨o, h⟩) | h
    · cases h
    · cases h
    · exact .inr h

mutual
def RV (K : Kw) (m : List Addr) (H : Hp) : Val → V → Prop
  | .non, x => x = .non
  | .bl b, x => x = .bl b
  | .int i, x => x = .int i
  | .str s, x => x = .str s
  | .tup ds, x => ∃ a xs, x = .ref a ∧ SqT K H a xs ∧ RVs K m H ds xs
  | .fl ds, x => ∃ a xs, x = .ref a ∧ SqF K H a xs ∧ RVs K m H ds xs
  | .rng lo hi, x => ∃ a, x = .ref a ∧ H a = some (.rng lo hi)
  | .ref r, x => ∃ a, x = .ref a ∧ m[r]? = some a
def RVs (K : Kw) (m : List Addr) (H : Hp) : List Val → List V → Prop
  | [], xs => xs = []
  | d :: ds, xs => ∃ y ys, xs = y :: ys ∧ RV K m H d y ∧ RVs K m H ds ys
end

def isMut : HO → Prop
  | .lst _ => True
  | .ext _ => True
  | .frz _ (.ext _) => True
  | _ => False
/-- a locked thing (a dict that is walked) stands -/
def Lk (H H2 : Hp) : Prop := ∀ a o φ, H a = some (.frz o (.ext φ)) → H2 a = some (.frz o (.ext φ))
def Muts (m : List Addr) (H : Hp) : Prop := ∀ a ∈ m, ∃ o, H a = some o ∧ isMut o

/-- the heap has grown; what is not of the store stands -/
structure Ext (m m2 : List Addr) (H H2 : Hp) : Prop where
  pre : ∃ t, m2 = m ++ t
  kp : ∀ a o, H a = some o → a ∉ m → H2 a = some o
  nw : ∀ a ∈ m2, a ∉ m → H a = none
  lk : Lk H H2
theorem Ext.refl (m : List Addr) (H : Hp) : Ext m m H H := ⟨⟨[], by simp⟩, fun _ _ h _ => h, fun _ h h2 => absurd h h2, fun _ _ _ h => h⟩
theorem Ext.trans {m m1 m2 : List Addr} {H H1 H2 : Hp} (e : Ext m m1 H H1) (f : Ext m1 m2 H1 H2) : Ext m m2 H H2 := by
  obtain ⟨t, rfl⟩ := e.pre
  obtain ⟨u, rfl⟩ := f.pre
  refine ⟨⟨t ++ u, by simp⟩, fun a o h n => ?_, fun a h n => ?_, fun a o φ h => f.lk a o φ (e.lk a o φ h)⟩
  · refine f.kp a o (e.kp a o h n) fun q => ?_
    have := e.nw a q n
    rw [h] at this; cases this
  · cases q : H a with
    | none => rfl
    | some o =>
      by_cases z : a ∈ m ++ t
      · have := e.nw a z n
        rw [q] at this; cases this
      · have h1 := e.kp a o q n
        have := f.nw a h z
        rw [h1] at this; cases this
theorem Ext.out {m m2 : List Addr} {H H2 : Hp} (e : Ext m m2 H H2) {a : Addr} {o : HO} (h : H a = some o) (n : a ∉ m) : a ∉ m2 := fun z => by
  have := e.nw a z n
  rw [h] at this; cases this
theorem Ext.at {m m2 : List Addr} {H H2 : Hp} (e : Ext m m2 H H2) {r : Nat} {a : Addr} (h : m[r]? = some a) : m2[r]? = some a := by
  obtain ⟨t, rfl⟩ := e.pre
  obtain ⟨h1, _⟩ := List.getElem?_eq_some_iff.mp h
  rw [List.getElem?_append_left h1]; exact h
section
variable {K : Kw} {m m2 : List Addr} {H H2 : Hp}
theorem not_mut {o : HO} {a : Addr} (u : Muts m H) (h : H a = some o) (n : ¬ isMut o) : a ∉ m := fun q => by
  obtain ⟨o2, h2, z⟩ := u a q
  rw [h] at h2; cases h2; exact n z
/-- what never changes stands -/
def Keeps (H H2 : Hp) : Prop := ∀ a o, H a = some o → ¬ isMut o → H2 a = some o
theorem Ext.keeps (e : Ext m m2 H H2) (u : Muts m H) : Keeps H H2 := fun a o h n => e.kp a o h (not_mut u h n)
theorem Keeps.sqT (k : Keeps H H2) {a : Addr} {xs : List V} (h : SqT K H a xs) : SqT K H2 a xs := by
  rcases h with (h | ⟨o, h⟩) | h
  · exact .inl (.inl (k a _ h fun z => z))
  · exact .inl (.inr ⟨o, k a _ h fun z => z⟩)
  · exact .inr h
theorem Keeps.sqF (k : Keeps H H2) {a : Addr} {xs : List V} (h : SqF K H a xs) : SqF K H2 a xs := by
  rcases h with ⟨o, h⟩ | h
  · exact .inl ⟨o, k a _ h fun z => z⟩
  · exact .inr h
theorem Ext.sqT (e : Ext m m2 H H2) (u : Muts m H) {a : Addr} {xs : List V} (h : SqT K H a xs) : SqT K H2 a xs := (e.keeps u).sqT h
theorem Ext.sqF (e : Ext m m2 H H2) (u : Muts m H) {a : Addr} {xs : List V} (h : SqF K H a xs) : SqF K H2 a xs := (e.keeps u).sqF h
mutual
theorem RV.monoK (e : ∃ t, m2 = m ++ t) (k : Keeps H H2) : ∀ (v : Val) (x : V), RV K m H v x → RV K m2 H2 v x
  | .non, x, h => by simp only [RV] at h ⊢; exact h
  | .bl b, x, h => by simp only [RV] at h ⊢; exact h
  | .int i, x, h => by simp only [RV] at h ⊢; exact h
  | .str s, x, h => by simp only [RV] at h ⊢; exact h
  | .tup ds, x, h => by
    simp only [RV] at h ⊢
    obtain ⟨a, xs, e1, h1, h2⟩ := h
    exact ⟨a, xs, e1, k.sqT h1, RVs.monoK e k ds xs h2⟩
  | .fl ds, x, h => by
    simp only [RV] at h ⊢
    obtain ⟨a, xs, e1, h1, h2⟩ := h
    exact ⟨a, xs, e1, k.sqF h1, RVs.monoK e k ds xs h2⟩
  | .rng lo hi, x, h => by
    simp only [RV] at h ⊢
    obtain ⟨a, e1, h1⟩ := h
    exact ⟨a, e1, k a _ h1 fun z => z⟩
  | .ref r, x, h => by
    simp only [RV] at h ⊢
    obtain ⟨a, e1, h1⟩ := h
    refine ⟨a, e1, ?_⟩
    obtain ⟨t, rfl⟩ := e
    obtain ⟨h2, _⟩ := List.getElem?_eq_some_iff.mp h1
    rw [List.getElem?_append_left h2]; exact h1
theorem RVs.monoK (e : ∃ t, m2 = m ++ t) (k : Keeps H H2) : ∀ (ds : List Val) (xs : List V), RVs K m H ds xs → RVs K m2 H2 ds xs
  | [], xs, h => by simp only [RVs] at h ⊢; exact h
  | d :: ds, xs, h => by
    simp only [RVs] at h ⊢
    obtain ⟨y, ys, e1, h1, h2⟩ := h
    exact ⟨y, ys, e1, RV.monoK e k d y h1, RVs.monoK e k ds ys h2⟩
end
theorem RV.mono (e : Ext m m2 H H2) (u : Muts m H) (v : Val) (x : V) (h : RV K m H v x) : RV K m2 H2 v x := RV.monoK e.pre (e.keeps u) v x h
theorem RVs.mono (e : Ext m m2 H H2) (u : Muts m H) (ds : List Val) (xs : List V) (h : RVs K m H ds xs) : RVs K m2 H2 ds xs := RVs.monoK e.pre (e.keeps u) ds xs h
theorem RVs.length : ∀ {ds : List Val} {xs : List V}, RVs K m H ds xs → ds.length = xs.length
  | [], xs, h => by simp only [RVs] at h; subst h; rfl
  | d :: ds, xs, h => by
    simp only [RVs] at h
    obtain ⟨y, ys, e1, h1, h2⟩ := h
    subst e1
    simp [RVs.length h2]
theorem RVs.get : ∀ {ds : List Val} {xs : List V} {i : Nat} {d : Val}, RVs K m H ds xs → ds[i]? = some d → ∃ x, xs[i]? = some x ∧ RV K m H d x
  | [], xs, i, d, h, e => by simp at e
  | d0 :: ds, xs, i, d, h, e => by
    simp only [RVs] at h
    obtain ⟨y, ys, e1, h1, h2⟩ := h
    subst e1
    cases i with
    | zero =>
      simp at e; subst e
      exact ⟨y, rfl, h1⟩
    | succ i =>
      obtain ⟨x, q1, q2⟩ := RVs.get (i := i) h2 (by simpa using e)
      exact ⟨x, by simpa using q1, q2⟩
theorem RVs.append : ∀ {ds es : List Val} {xs ys : List V}, RVs K m H ds xs → RVs K m H es ys → RVs K m H (ds ++ es) (xs ++ ys)
  | [], es, xs, ys, h, h2 => by simp only [RVs] at h; subst h; exact h2
  | d :: ds, es, xs, ys, h, h2 => by
    simp only [RVs, List.cons_append] at h ⊢
    obtain ⟨y, zs, e1, h1, h3⟩ := h
    subst e1
    exact ⟨y, zs ++ ys, rfl, h1, RVs.append h3 h2⟩
theorem RVs.one {d : Val} {x : V} (h : RV K m H d x) : RVs K m H [d] [x] := by
  simp only [RVs]; exact ⟨x, [], rfl, h, rfl⟩
theorem RVs.nil : RVs K m H [] [] := by simp only [RVs]
theorem RVs.cons {d : Val} {x : V} {ds : List Val} {xs : List V} (h : RV K m H d x) (h2 : RVs K m H ds xs) : RVs K m H (d :: ds) (x :: xs) := by
  simp only [RVs]; exact ⟨x, xs, rfl, h, h2⟩
theorem RVs.set : ∀ {ds : List Val} {xs : List V} {d : Val} {x : V} (i : Nat), RVs K m H ds xs → RV K m H d x → RVs K m H (ds.set i d) (xs.set i x)
  | [], xs, d, x, i, h, hx => by simp only [RVs] at h; subst h; simp [RVs]
  | e :: ds, xs, d, x, i, h, hx => by
    simp only [RVs] at h
    obtain ⟨y, ys, e1, h1, h2⟩ := h
    subst e1
    cases i with
    | zero => exact RVs.cons hx h2
    | succ i => exact RVs.cons h1 (RVs.set i h2 hx)
theorem RVs.take : ∀ {ds : List Val} {xs : List V} (n : Nat), RVs K m H ds xs → RVs K m H (ds.take n) (xs.take n)
  | _, _, 0, h => by simpa using RVs.nil
  | [], xs, n + 1, h => by simp only [RVs] at h; subst h; exact RVs.nil
  | e :: ds, xs, n + 1, h => by
    simp only [RVs] at h
    obtain ⟨y, ys, e1, h1, h2⟩ := h
    subst e1
    exact RVs.cons h1 (RVs.take n h2)
theorem RVs.drop : ∀ {ds : List Val} {xs : List V} (n : Nat), RVs K m H ds xs → RVs K m H (ds.drop n) (xs.drop n)
  | _, _, 0, h => h
  | [], xs, n + 1, h => by simp only [RVs] at h; subst h; exact RVs.nil
  | e :: ds, xs, n + 1, h => by
    simp only [RVs] at h
    obtain ⟨y, ys, e1, h1, h2⟩ := h
    subst e1
    exact RVs.drop n h2
theorem RVs.cut {ds : List Val} {xs : List V} (lo hi : Option Int) (h : RVs K m H ds xs) : RVs K m H (cut ds lo hi) (cutV xs lo hi) := by
  unfold Mp.cut cutV
  rw [h.length]
  exact (h.drop _).take _
theorem RVs.reverse : ∀ {ds : List Val} {xs : List V}, RVs K m H ds xs → RVs K m H ds.reverse xs.reverse
  | [], xs, h => by simp only [RVs] at h; subst h; exact RVs.nil
  | e :: ds, xs, h => by
    simp only [RVs] at h
    obtain ⟨y, ys, e1, h1, h2⟩ := h
    subst e1
    simp only [List.reverse_cons]
    exact (RVs.reverse h2).append (RVs.one h1)
theorem RVs.eraseIdx : ∀ {ds : List Val} {xs : List V} (i : Nat), RVs K m H ds xs → RVs K m H (ds.eraseIdx i) (xs.eraseIdx i)
  | [], xs, i, h => by simp only [RVs] at h; subst h; exact RVs.nil
  | e :: ds, xs, i, h => by
    simp only [RVs] at h
    obtain ⟨y, ys, e1, h1, h2⟩ := h
    subst e1
    cases i with
    | zero => exact h2
    | succ i => exact RVs.cons h1 (RVs.eraseIdx i h2)
theorem RVs.dropLast : ∀ {ds : List Val} {xs : List V}, RVs K m H ds xs → RVs K m H ds.dropLast xs.dropLast := fun {ds xs} h => by
  rw [List.dropLast_eq_take, List.dropLast_eq_take, h.length]
  exact h.take _
theorem RVs.rep {ds : List Val} {xs : List V} (h : RVs K m H ds xs) : ∀ k : Nat, RVs K m H (List.replicate k ds).flatten (List.replicate k xs).flatten
  | 0 => RVs.nil
  | k + 1 => by
    simp only [List.replicate_succ, List.flatten_cons]
    exact h.append (RVs.rep h k)
end

/-! ### dicts -/
mutual
def keyN : Val → NestedKey
  | .int i => .num i
  | .str x => .text x
  | .tup xs => .tup (keyNs xs)
  | _ => .none
def keyNs : List Val → List NestedKey
  | [] => []
  | x :: xs => keyN x :: keyNs xs
end
/-- an entry of a dict's object -/
def entN (w : World) (x : NestedKey × Addr × Value) : DictEntry := ⟨x.1.hash w, .ref x.2.1, x.2.2⟩
/-- what is true of a dict's object -/
def DctP (w : World) (a : Addr) (xs : List (NestedKey × Addr × Value)) : Heap → Prop := fun h =>
  (a == sysModules) = false ∧ xs.length ≤ sizeLine ∧ (xs.map (·.1)).Nodup ∧ ∃ o es ep, h.get? a = some o ∧ o.ExactDict ∧ o.data = .dict es ep ∧ es.toList = xs.map (entN w)
def RD (K : Kw) (m : List Addr) (H : Hp) : List (Val × Val) → List (NestedKey × Addr × Value) → Prop
  | [], xs => xs = []
  | p :: r, xs => ∃ ka u vv ys, xs = (keyN p.1, ka, u) :: ys ∧ dkey p.1 = true ∧ RV K m H p.1 (.ref ka) ∧ RV K m H p.2 vv ∧ RelV vv u ∧ RD K m H r ys
theorem RD.monoK {K : Kw} {m m2 : List Addr} {H H2 : Hp} (e : ∃ t, m2 = m ++ t) (k : Keeps H H2) : ∀ (kvs : List (Val × Val)) (xs : List (NestedKey × Addr × Value)), RD K m H kvs xs → RD K m2 H2 kvs xs
  | [], xs, h => h
  | p :: r, xs, h => by
    obtain ⟨ka, u, vv, ys, rfl, h1, h2, h3, h4, h5⟩ := h
    exact ⟨ka, u, vv, ys, rfl, h1, RV.monoK e k _ _ h2, RV.monoK e k _ _ h3, h4, RD.monoK e k r ys h5⟩
/-- dicts whose keys are numbers -/
def DciP (P : Program) (w : World) (a : Addr) (xs : List (Int × Value)) : Heap → Prop := fun h =>
  (a == sysModules) = false ∧ xs.length ≤ sizeLine ∧ h.DictOf (intKind P w) a xs
def RI (K : Kw) (m : List Addr) (H : Hp) : List (Int × Val) → List (Int × Value) → Prop
  | [], xs => xs = []
  | p :: r, xs => ∃ u vv ys, xs = (p.1, u) :: ys ∧ RV K m H p.2 vv ∧ RelV vv u ∧ RI K m H r ys
theorem RI.monoK {K : Kw} {m m2 : List Addr} {H H2 : Hp} (e : ∃ t, m2 = m ++ t) (k : Keeps H H2) : ∀ (kvs : List (Int × Val)) (xs : List (Int × Value)), RI K m H kvs xs → RI K m2 H2 kvs xs
  | [], xs, h => h
  | p :: r, xs, h => by
    obtain ⟨u, vv, ys, rfl, h3, h4, h5⟩ := h
    exact ⟨u, vv, ys, rfl, RV.monoK e k _ _ h3, h4, RI.monoK e k r ys h5⟩
/-- an object of the store -/
def RO (K : Kw) (m : List Addr) (H : Hp) (a : Addr) : SO → Prop
  | .lst xs => ∃ vs, H a = some (.lst vs) ∧ RVs K m H xs vs
  | .dct kvs => ∃ xs, H a = some (.ext (DctP K.w a xs)) ∧ RD K m H kvs xs
  | .ldc kvs => ∃ xs o es ep, H a = some (.frz o (.ext (DctP K.w a xs))) ∧ o.ExactDict ∧ o.data = .dict es ep ∧ es.toList = xs.map (entN K.w) ∧ (a == sysModules) = false ∧ RD K m H kvs xs
  | .dci kvs => ∃ xs, H a = some (.ext (DciP K.P K.w a xs)) ∧ RI K m H kvs xs
  | .ldi kvs => ∃ xs o es ep, H a = some (.frz o (.ext (DciP K.P K.w a xs))) ∧ o.ExactDict ∧ o.data = .dict es ep ∧ Pairs (intKind K.P K.w) es.toList xs ∧ (a == sysModules) = false ∧ RI K m H kvs xs

/-- the store lies at m -/
structure RS (K : Kw) (m : List Addr) (H : Hp) (S : Sto) : Prop where
  len : m.length = S.n
  nd : m.Nodup
  ob : ∀ r a, m[r]? = some a → ∃ o, S.get r = some o ∧ RO K m H a o

section
variable {K : Kw} {m m2 : List Addr} {H H2 : Hp} {S : Sto}
theorem RO.mut {a : Addr} {o : SO} (h : RO K m H a o) : ∃ u, H a = some u ∧ isMut u := by
  cases o with
  | lst xs =>
    obtain ⟨vs, e, _⟩ := h
    exact ⟨_, e, trivial⟩
  | dct kvs =>
    obtain ⟨vs, e, _⟩ := h
    exact ⟨_, e, trivial⟩
  | ldc kvs =>
    obtain ⟨xs, ob, es, ep, e, _⟩ := h
    exact ⟨_, e, trivial⟩
  | dci kvs =>
    obtain ⟨vs, e, _⟩ := h
    exact ⟨_, e, trivial⟩
  | ldi kvs =>
    obtain ⟨xs, ob, es, ep, e, _⟩ := h
    exact ⟨_, e, trivial⟩
theorem RS.muts (h : RS K m H S) : Muts m H := fun a ha => by
  obtain ⟨r, hr⟩ := List.getElem?_of_mem ha
  obtain ⟨o, _, q⟩ := h.ob r a hr
  exact q.mut
theorem RS.at {r : Nat} {o : SO} (h : RS K m H S) (e : S.get r = some o) : ∃ a, m[r]? = some a ∧ RO K m H a o := by
  have hl : r < m.length := by rw [h.len]; exact get_lt e
  obtain ⟨o2, e2, q⟩ := h.ob r m[r] (List.getElem?_eq_getElem hl)
  rw [e] at e2; cases e2
  exact ⟨m[r], List.getElem?_eq_getElem hl, q⟩
theorem RS.fresh {p : Addr} (h : RS K m H S) (n : H p = none) : p ∉ m := fun q => by
  obtain ⟨o, e, _⟩ := h.muts p q
  rw [n] at e; cases e
/-- a list of the store -/
theorem RS.list {r : Nat} {a : Addr} {xs : List Val} (h : RS K m H S) (e : S.lst r = some xs) (ha : m[r]? = some a) : ∃ vs, H a = some (.lst vs) ∧ RVs K m H xs vs := by
  obtain ⟨b, hb, q⟩ := h.at (lst_get e)
  rw [ha] at hb; cases hb
  exact q
theorem RO.monoK {a : Addr} {o : SO} (e : ∃ t, m2 = m ++ t) (k2 : Keeps H H2) (k : H2 a = H a) (h : RO K m H a o) : RO K m2 H2 a o := by
  cases o with
  | lst xs =>
    obtain ⟨vs, h1, h2⟩ := h
    exact ⟨vs, by rw [k]; exact h1, RVs.monoK e k2 xs vs h2⟩
  | dct kvs =>
    obtain ⟨vs, h1, h2⟩ := h
    exact ⟨vs, by rw [k]; exact h1, RD.monoK e k2 kvs vs h2⟩
  | ldc kvs =>
    obtain ⟨xs, ob, es, ep, h1, h2, h3, h4, h5, h6⟩ := h
    exact ⟨xs, ob, es, ep, by rw [k]; exact h1, h2, h3, h4, h5, RD.monoK e k2 kvs xs h6⟩
  | dci kvs =>
    obtain ⟨vs, h1, h2⟩ := h
    exact ⟨vs, by rw [k]; exact h1, RI.monoK e k2 kvs vs h2⟩
  | ldi kvs =>
    obtain ⟨xs, ob, es, ep, h1, h2, h3, h4, h5, h6⟩ := h
    exact ⟨xs, ob, es, ep, by rw [k]; exact h1, h2, h3, h4, h5, RI.monoK e k2 kvs xs h6⟩
theorem RO.mono {a : Addr} {o : SO} (e : Ext m m2 H H2) (u : Muts m H) (k : H2 a = H a) (h : RO K m H a o) : RO K m2 H2 a o := h.monoK e.pre (e.keeps u) k
/-- the heap changed beside the store, what never changes stands -/
theorem RS.stayK (h : RS K m H S) (k2 : Keeps H H2) (k : ∀ a ∈ m, H2 a = H a) : RS K m H2 S :=
  ⟨h.len, h.nd, fun r a q => by
    obtain ⟨o, e1, e2⟩ := h.ob r a q
    exact ⟨o, e1, e2.monoK ⟨[], by simp⟩ k2 (k a (List.mem_of_getElem? q))⟩⟩
/-- a list beside the store becomes one of it -/
theorem RS.adopt {D : Addr} {xs : List Val} {vs : List V} (h : RS K m H S) (n : D ∉ m) (hD : H D = some (.lst vs)) (r : RVs K m H xs vs) :
    RS K (m ++ [D]) H (S.new (.lst xs)) ∧ RV K (m ++ [D]) H (.ref S.n) (.ref D) := by
  have kk : Keeps H H := fun _ _ z _ => z
  refine ⟨⟨by rw [List.length_append, h.len]; rfl, ?_, fun q a z => ?_⟩, ?_⟩
  · rw [List.nodup_append]
    refine ⟨h.nd, by simp, fun a ha b hb => ?_⟩
    rw [List.mem_singleton.mp hb]
    rintro rfl
    exact n ha
  · by_cases hr : q < m.length
    · rw [List.getElem?_append_left hr] at z
      obtain ⟨o, e1, e2⟩ := h.ob q a z
      exact ⟨o, by rw [get_old (by rw [← h.len]; exact hr)]; exact e1, e2.monoK ⟨[D], rfl⟩ kk rfl⟩
    · have hr2 : q = m.length := by
        obtain ⟨w, _⟩ := List.getElem?_eq_some_iff.mp z
        simp at w
        omega
      subst hr2
      simp at z
      subst z
      exact ⟨.lst xs, by rw [h.len]; exact get_new, vs, hD, RVs.monoK ⟨[D], rfl⟩ kk xs vs r⟩
  · simp only [RV]
    refine ⟨D, rfl, ?_⟩
    rw [← h.len]
    simp
/-- a thing beside the store becomes one of it -/
theorem RS.adoptO {D : Addr} {o : SO} (h : RS K m H S) (n : D ∉ m) (ro : RO K m H D o) :
    RS K (m ++ [D]) H (S.new o) ∧ RV K (m ++ [D]) H (.ref S.n) (.ref D) := by
  have kk : Keeps H H := fun _ _ z _ => z
  refine ⟨⟨by rw [List.length_append, h.len]; rfl, ?_, fun q a z => ?_⟩, ?_⟩
  · rw [List.nodup_append]
    refine ⟨h.nd, by simp, fun a ha b hb => ?_⟩
    rw [List.mem_singleton.mp hb]
    rintro rfl
    exact n ha
  · by_cases hr : q < m.length
    · rw [List.getElem?_append_left hr] at z
      obtain ⟨o, e1, e2⟩ := h.ob q a z
      exact ⟨o, by rw [get_old (by rw [← h.len]; exact hr)]; exact e1, e2.monoK ⟨[D], rfl⟩ kk rfl⟩
    · have hr2 : q = m.length := by
        obtain ⟨w, _⟩ := List.getElem?_eq_some_iff.mp z
        simp at w
        omega
      subst hr2
      simp at z
      subst z
      exact ⟨o, by rw [h.len]; exact get_new, ro.monoK ⟨[D], rfl⟩ kk rfl⟩
  · simp only [RV]
    refine ⟨D, rfl, ?_⟩
    rw [← h.len]
    simp
/-- something new that is not of the store -/
theorem RS.ext {p : Addr} {o : HO} (h : RS K m H S) (n : H p = none) : Ext m m H (upd H p o) :=
  ⟨⟨[], by simp⟩, fun a u e _ => by rw [upd_ne (ne_of_none e n)]; exact e, fun a q z => absurd q z, fun a _ _ e => by rw [upd_ne (ne_of_none e n)]; exact e⟩
/-- the heap changed beside the store -/
theorem RS.stay (h : RS K m H S) (e : Ext m m H H2) (k : ∀ a ∈ m, H2 a = H a) : RS K m H2 S :=
  ⟨h.len, h.nd, fun r a q => by
    obtain ⟨o, e1, e2⟩ := h.ob r a q
    exact ⟨o, e1, e2.mono e h.muts (k a (List.mem_of_getElem? q))⟩⟩
theorem RS.tup {p : Addr} {o : HO} (h : RS K m H S) (n : H p = none) : RS K m (upd H p o) S :=
  h.stay (h.ext n) fun a q => by
    rw [upd_ne]
    rintro rfl
    exact h.fresh n q
/-- a new list of the store -/
theorem RS.new {p : Addr} {xs : List Val} {vs : List V} (h : RS K m H S) (n : H p = none) (r : RVs K m H xs vs) :
    RS K (m ++ [p]) (upd H p (.lst vs)) (S.new (.lst xs)) ∧ Ext m (m ++ [p]) H (upd H p (.lst vs)) ∧ RV K (m ++ [p]) (upd H p (.lst vs)) (.ref S.n) (.ref p) := by
  have hp := h.fresh n
  have e : Ext m (m ++ [p]) H (upd H p (.lst vs)) := by
    refine ⟨⟨[p], rfl⟩, fun a u q _ => by rw [upd_ne (ne_of_none q n)]; exact q, fun a q z => ?_, fun a _ _ q => by rw [upd_ne (ne_of_none q n)]; exact q⟩
    rcases List.mem_append.mp q with q | q
    · exact absurd q z
    · rw [List.mem_singleton.mp q]; exact n
  refine ⟨⟨by rw [List.length_append, h.len]; rfl, ?_, fun r a q => ?_⟩, e, ?_⟩
  · rw [List.nodup_append]
    refine ⟨h.nd, by simp, fun a ha b hb => ?_⟩
    rw [List.mem_singleton.mp hb]
    rintro rfl
    exact hp ha
  · by_cases hr : r < m.length
    · rw [List.getElem?_append_left hr] at q
      obtain ⟨o, e1, e2⟩ := h.ob r a q
      refine ⟨o, by rw [get_old (by rw [← h.len]; exact hr)]; exact e1, e2.mono e h.muts ?_⟩
      rw [upd_ne]
      rintro rfl
      exact hp (List.mem_of_getElem? q)
    · have hr2 : r = m.length := by
        obtain ⟨z, _⟩ := List.getElem?_eq_some_iff.mp q
        simp at z
        omega
      subst hr2
      simp at q
      subst q
      exact ⟨.lst xs, by rw [h.len]; exact get_new, vs, upd_same, RVs.mono e h.muts xs vs r⟩
  · simp only [RV]
    refine ⟨p, rfl, ?_⟩
    rw [← h.len]
    simp
/-- a new thing of the store -/
theorem RS.newO {p : Addr} {u : HO} {o : SO} (h : RS K m H S) (n : H p = none) (ro : RO K m (upd H p u) p o) :
    RS K (m ++ [p]) (upd H p u) (S.new o) ∧ Ext m (m ++ [p]) H (upd H p u) ∧ RV K (m ++ [p]) (upd H p u) (.ref S.n) (.ref p) := by
  have hp := h.fresh n
  have e : Ext m (m ++ [p]) H (upd H p u) := by
    refine ⟨⟨[p], rfl⟩, fun a u q _ => by rw [upd_ne (ne_of_none q n)]; exact q, fun a q z => ?_, fun a _ _ q => by rw [upd_ne (ne_of_none q n)]; exact q⟩
    rcases List.mem_append.mp q with q | q
    · exact absurd q z
    · rw [List.mem_singleton.mp q]; exact n
  obtain ⟨q1, q2⟩ := (h.tup (o := u) n).adoptO hp ro
  exact ⟨q1, e, q2⟩
/-- a thing of the store changed -/
theorem RS.putO {r : Nat} {a : Addr} {o o2 : SO} {u : HO} (h : RS K m H S) (e : S.get r = some o) (ha : m[r]? = some a) (hl : ∀ ob φ, H a ≠ some (.frz ob (.ext φ))) (ro : RO K m (upd H a u) a o2) :
    RS K m (upd H a u) (S.put r o2) ∧ Ext m m H (upd H a u) := by
  have hm := List.mem_of_getElem? ha
  have ex : Ext m m H (upd H a u) := ⟨⟨[], by simp⟩, fun b u z n => by
    rw [upd_ne]
    · exact z
    · rintro rfl
      exact n hm, fun b z n => absurd z n, fun b ob φ z => by
    rw [upd_ne]
    · exact z
    · rintro rfl
      exact hl ob φ z⟩
  refine ⟨⟨h.len, h.nd, fun s b z => ?_⟩, ex⟩
  have hrl : r < S.n := get_lt e
  by_cases hs : s = r
  · subst hs
    rw [ha] at z; cases z
    exact ⟨o2, get_put e, ro⟩
  · obtain ⟨o3, e1, e2⟩ := h.ob s b z
    refine ⟨o3, by rw [get_put_ne hrl (get_lt e1) hs]; exact e1, e2.mono ex h.muts ?_⟩
    rw [upd_ne]
    rintro rfl
    have h1 := List.getElem?_eq_some_iff.mp z
    have h2 := List.getElem?_eq_some_iff.mp ha
    obtain ⟨l1, e1⟩ := h1
    obtain ⟨l2, e2⟩ := h2
    exact hs ((List.getElem_inj h.nd).mp (e1.trans e2.symm))
/-- .. where the thing may be locked -/
theorem RS.putR {r : Nat} {a : Addr} {o o2 : SO} {u : HO} (h : RS K m H S) (e : S.get r = some o) (ha : m[r]? = some a) (ro : RO K m (upd H a u) a o2) : RS K m (upd H a u) (S.put r o2) := by
  have hm := List.mem_of_getElem? ha
  obtain ⟨ob, hob, hmu⟩ := h.muts a hm
  have kk : Keeps H (upd H a u) := fun b w z n => by
    rw [upd_ne]
    · exact z
    · rintro rfl
      rw [hob] at z; cases z
      exact n hmu
  refine ⟨h.len, h.nd, fun s b z => ?_⟩
  have hrl : r < S.n := get_lt e
  by_cases hs : s = r
  · subst hs
    rw [ha] at z; cases z
    exact ⟨o2, get_put e, ro⟩
  · obtain ⟨o3, e1, e2⟩ := h.ob s b z
    refine ⟨o3, by rw [get_put_ne hrl (get_lt e1) hs]; exact e1, e2.monoK ⟨[], by simp⟩ kk ?_⟩
    rw [upd_ne]
    rintro rfl
    have h1 := List.getElem?_eq_some_iff.mp z
    have h2 := List.getElem?_eq_some_iff.mp ha
    obtain ⟨l1, e1⟩ := h1
    obtain ⟨l2, e2⟩ := h2
    exact hs ((List.getElem_inj h.nd).mp (e1.trans e2.symm))
/-- a list of the store changed -/
theorem RS.put {r : Nat} {a : Addr} {xs ys : List Val} {vs : List V} (h : RS K m H S) (e : S.lst r = some xs) (ha : m[r]? = some a) (q : RVs K m H ys vs) :
    RS K m (upd H a (.lst vs)) (S.put r (.lst ys)) ∧ Ext m m H (upd H a (.lst vs)) := by
  have hm := List.mem_of_getElem? ha
  have ex : Ext m m H (upd H a (.lst vs)) := ⟨⟨[], by simp⟩, fun b u z n => by
    rw [upd_ne]
    · exact z
    · rintro rfl
      exact n hm, fun b z n => absurd z n, fun b ob φ z => by
    rw [upd_ne]
    · exact z
    · rintro rfl
      obtain ⟨vs0, hv0, _⟩ := h.list e ha
      rw [hv0] at z; cases z⟩
  refine ⟨⟨h.len, h.nd, fun s b z => ?_⟩, ex⟩
  have hrl : r < S.n := get_lt (lst_get e)
  by_cases hs : s = r
  · subst hs
    rw [ha] at z; cases z
    exact ⟨.lst ys, get_put (lst_get e), vs, upd_same, RVs.mono ex h.muts ys vs q⟩
  · obtain ⟨o, e1, e2⟩ := h.ob s b z
    refine ⟨o, by rw [get_put_ne hrl (get_lt e1) hs]; exact e1, e2.mono ex h.muts ?_⟩
    rw [upd_ne]
    rintro rfl
    have h1 := List.getElem?_eq_some_iff.mp z
    have h2 := List.getElem?_eq_some_iff.mp ha
    obtain ⟨l1, e1⟩ := h1
    obtain ⟨l2, e2⟩ := h2
    exact hs ((List.getElem_inj h.nd).mp (e1.trans e2.symm))
end

/-- the names -/
structure RE (K : Kw) (m : List Addr) (H : Hp) (env : Env) (σ : L2.St) : Prop where
  len : env.length = σ.length
  at_ : ∀ (i : Nat) (v : Val), env[i]? = some (some v) → ∃ x : V, σ[i]? = some (some x) ∧ RV K m H v x
section
variable {K : Kw} {m m2 : List Addr} {H H2 : Hp} {env : Env} {σ : L2.St}
theorem RE.mono (h : RE K m H env σ) (e : Ext m m2 H H2) (u : Muts m H) : RE K m2 H2 env σ :=
  ⟨h.len, fun i v q => by
    obtain ⟨x, h1, h2⟩ := h.at_ i v q
    exact ⟨x, h1, RV.mono e u v x h2⟩⟩
theorem RE.set {v : Val} {x : V} (h : RE K m H env σ) (i : Nat) (r : RV K m H v x) : RE K m H (env.set i (some v)) (σ.set i (some x)) := by
  refine ⟨by simp [h.len], fun j w q => ?_⟩
  by_cases hj : j = i
  · subst hj
    have hl : j < env.length := by
      obtain ⟨z, _⟩ := List.getElem?_eq_some_iff.mp q
      simpa using z
    rw [List.getElem?_set_self hl] at q
    cases q
    exact ⟨x, List.getElem?_set_self (by rw [← h.len]; exact hl), r⟩
  · rw [List.getElem?_set_ne (Ne.symm hj)] at q
    obtain ⟨y, h1, h2⟩ := h.at_ j w q
    exact ⟨y, by rw [List.getElem?_set_ne (Ne.symm hj)]; exact h1, h2⟩
theorem wipe_length (env : Env) : ∀ vs : List Nat, (wipe env vs).length = env.length
  | [] => rfl
  | v :: vs => by unfold wipe; rw [List.length_set, wipe_length env vs]
theorem RE.none (h : RE K m H env σ) (i : Nat) : RE K m H (env.set i none) (σ.set i none) := by
  refine ⟨by simp [h.len], fun j w q => ?_⟩
  by_cases hj : i = j
  · subst hj
    have hl : i < env.length := by
      obtain ⟨z, _⟩ := List.getElem?_eq_some_iff.mp q
      simpa using z
    rw [List.getElem?_set_self hl] at q
    cases q
  · rw [List.getElem?_set_ne hj] at q
    obtain ⟨y, h1, h2⟩ := h.at_ j w q
    exact ⟨y, by rw [List.getElem?_set_ne hj]; exact h1, h2⟩
theorem RE.wipe (h : RE K m H env σ) : ∀ vs : List Nat, RE K m H (Mp.wipe env vs) (L2.wipe σ vs)
  | [] => h
  | v :: vs => by
    unfold Mp.wipe L2.wipe
    exact (RE.wipe h vs).none v
end
end Mp

set_option Elab.async false
set_option linter.all false
set_option maxRecDepth 100000
set_option maxHeartbeats 1000000
/-! Mp, part B1: what is reached no longer is dropped. -/
namespace Mp
open PySem L2
theorem blt_true {a b : Nat} (h : Nat.blt a b = true) : a < b := by
  unfold Nat.blt at h
  exact Nat.le_of_ble_eq_true h
theorem blt_false {a b : Nat} (h : Nat.blt a b = false) : b ≤ a := by
  by_cases hh : a < b
  · have : Nat.blt a b = true := by unfold Nat.blt; exact Nat.ble_eq_true_of_le hh
    rw [this] at h; cases h
  · omega
section
variable {K : Kw} {m m2 : List Addr} {H : Hp} {k : Nat} {rs : List Nat}
mutual
theorem RV.ren (h1 : ∀ r, r < k → m2[r]? = m[r]?) (h2 : ∀ r ∈ rs, m2[k + rs.idxOf r]? = m[r]?) : ∀ (v : Val) (x : V), (∀ r ∈ nrs k v, r ∈ rs) → RV K m H v x → RV K m2 H (ren k rs v) x
  | .non, x, _, h => by simp only [Mp.ren, RV] at h ⊢; exact h
  | .bl b, x, _, h => by simp only [Mp.ren, RV] at h ⊢; exact h
  | .int i, x, _, h => by simp only [Mp.ren, RV] at h ⊢; exact h
  | .str s, x, _, h => by simp only [Mp.ren, RV] at h ⊢; exact h
  | .rng lo hi, x, _, h => by simp only [Mp.ren, RV] at h ⊢; exact h
  | .tup ds, x, hr, h => by
    simp only [Mp.ren, RV] at h ⊢
    obtain ⟨a, xs, e1, q1, q2⟩ := h
    exact ⟨a, xs, e1, q1, RVs.ren h1 h2 ds xs (by simpa only [nrs] using hr) q2⟩
  | .fl ds, x, hr, h => by
    simp only [Mp.ren, RV] at h ⊢
    obtain ⟨a, xs, e1, q1, q2⟩ := h
    exact ⟨a, xs, e1, q1, RVs.ren h1 h2 ds xs (by simpa only [nrs] using hr) q2⟩
  | .ref r, x, hr, h => by
    simp only [RV] at h
    obtain ⟨a, e1, q⟩ := h
    simp only [Mp.ren]
    cases hb : Nat.blt r k with
    | true =>
      simp only [if_true, RV]
      exact ⟨a, e1, by rw [h1 r (blt_true hb)]; exact q⟩
    | false =>
      simp only [Bool.false_eq_true, if_false, RV]
      refine ⟨a, e1, ?_⟩
      rw [h2 r (hr r (by simp only [nrs, hb]; simp))]; exact q
theorem RVs.ren (h1 : ∀ r, r < k → m2[r]? = m[r]?) (h2 : ∀ r ∈ rs, m2[k + rs.idxOf r]? = m[r]?) : ∀ (ds : List Val) (xs : List V), (∀ r ∈ nrss k ds, r ∈ rs) → RVs K m H ds xs → RVs K m2 H (rens k rs ds) xs
  | [], xs, _, h => by simp only [Mp.rens, RVs] at h ⊢; exact h
  | d :: ds, xs, hr, h => by
    simp only [Mp.rens, RVs] at h ⊢
    obtain ⟨y, ys, e1, q1, q2⟩ := h
    simp only [nrss, List.mem_append] at hr
    exact ⟨y, ys, e1, RV.ren h1 h2 d y (fun r z => hr r (.inl z)) q1, RVs.ren h1 h2 ds ys (fun r z => hr r (.inr z)) q2⟩
end
mutual
theorem RV.low (h1 : ∀ r, r < k → m2[r]? = m[r]?) : ∀ (v : Val) (x : V), rlt k v = true → RV K m H v x → RV K m2 H v x
  | .non, x, _, h => by simp only [RV] at h ⊢; exact h
  | .bl b, x, _, h => by simp only [RV] at h ⊢; exact h
  | .int i, x, _, h => by simp only [RV] at h ⊢; exact h
  | .str s, x, _, h => by simp only [RV] at h ⊢; exact h
  | .rng lo hi, x, _, h => by simp only [RV] at h ⊢; exact h
  | .tup ds, x, hr, h => by
    simp only [RV] at h ⊢
    obtain ⟨a, xs, e1, q1, q2⟩ := h
    exact ⟨a, xs, e1, q1, RVs.low h1 ds xs (by simpa only [rlt] using hr) q2⟩
  | .fl ds, x, hr, h => by
    simp only [RV] at h ⊢
    obtain ⟨a, xs, e1, q1, q2⟩ := h
    exact ⟨a, xs, e1, q1, RVs.low h1 ds xs (by simpa only [rlt] using hr) q2⟩
  | .ref r, x, hr, h => by
    simp only [RV] at h ⊢
    obtain ⟨a, e1, q⟩ := h
    exact ⟨a, e1, by rw [h1 r (blt_true (by simpa only [rlt] using hr))]; exact q⟩
theorem RVs.low (h1 : ∀ r, r < k → m2[r]? = m[r]?) : ∀ (ds : List Val) (xs : List V), rlts k ds = true → RVs K m H ds xs → RVs K m2 H ds xs
  | [], xs, _, h => by simp only [RVs] at h ⊢; exact h
  | d :: ds, xs, hr, h => by
    simp only [RVs] at h ⊢
    obtain ⟨y, ys, e1, q1, q2⟩ := h
    simp only [rlts, Bool.and_eq_true] at hr
    exact ⟨y, ys, e1, RV.low h1 d y hr.1 q1, RVs.low h1 ds ys hr.2 q2⟩
end
theorem RD.low (h1 : ∀ r, r < k → m2[r]? = m[r]?) : ∀ (kvs : List (Val × Val)) (xs : List (NestedKey × Addr × Value)), (kvs.all fun p => Mp.rlt k p.1 && Mp.rlt k p.2) = true → RD K m H kvs xs → RD K m2 H kvs xs
  | [], xs, _, h => h
  | p :: r, xs, hr, h => by
    obtain ⟨ka, u, vv, ys, rfl, q1, q2, q3, q4, q5⟩ := h
    simp only [List.all_cons, Bool.and_eq_true] at hr
    exact ⟨ka, u, vv, ys, rfl, q1, RV.low h1 _ _ hr.1.1 q2, RV.low h1 _ _ hr.1.2 q3, q4, RD.low h1 r ys hr.2 q5⟩
theorem RI.low (h1 : ∀ r, r < k → m2[r]? = m[r]?) : ∀ (kvs : List (Int × Val)) (xs : List (Int × Value)), (kvs.all fun p => Mp.rlt k p.2) = true → RI K m H kvs xs → RI K m2 H kvs xs
  | [], xs, _, h => h
  | p :: r, xs, hr, h => by
    obtain ⟨u, vv, ys, rfl, q3, q4, q5⟩ := h
    simp only [List.all_cons, Bool.and_eq_true] at hr
    exact ⟨u, vv, ys, rfl, RV.low h1 _ _ hr.1 q3, q4, RI.low h1 r ys hr.2 q5⟩
theorem RO.low (h1 : ∀ r, r < k → m2[r]? = m[r]?) {a : Addr} {o : SO} (hr : o.rlt k = true) (h : RO K m H a o) : RO K m2 H a o := by
  cases o with
  | lst xs =>
    obtain ⟨vs, q1, q2⟩ := h
    exact ⟨vs, q1, RVs.low h1 _ _ hr q2⟩
  | dct kvs =>
    obtain ⟨vs, q1, q2⟩ := h
    exact ⟨vs, q1, RD.low h1 _ _ hr q2⟩
  | ldc kvs =>
    obtain ⟨xs, ob, es, ep, q1, q2, q3, q4, q5, q6⟩ := h
    exact ⟨xs, ob, es, ep, q1, q2, q3, q4, q5, RD.low h1 _ _ hr q6⟩
  | dci kvs =>
    obtain ⟨vs, q1, q2⟩ := h
    exact ⟨vs, q1, RI.low h1 _ _ hr q2⟩
  | ldi kvs =>
    obtain ⟨xs, ob, es, ep, q1, q2, q3, q4, q5, q6⟩ := h
    exact ⟨xs, ob, es, ep, q1, q2, q3, q4, q5, RI.low h1 _ _ hr q6⟩
end
mutual
theorem rlt_mono {k j : Nat} (h : k ≤ j) : ∀ v : Val, rlt k v = true → rlt j v = true
  | .non, _ => rfl
  | .bl _, _ => rfl
  | .int _, _ => rfl
  | .str _, _ => rfl
  | .rng _ _, _ => rfl
  | .tup xs, e => by simp only [rlt] at e ⊢; exact rlts_mono h xs e
  | .fl xs, e => by simp only [rlt] at e ⊢; exact rlts_mono h xs e
  | .ref r, e => by
    simp only [rlt] at e ⊢
    have := blt_true e
    unfold Nat.blt
    exact Nat.ble_eq_true_of_le (by omega)
theorem rlts_mono {k j : Nat} (h : k ≤ j) : ∀ vs : List Val, rlts k vs = true → rlts j vs = true
  | [], _ => rfl
  | x :: xs, e => by
    simp only [rlts, Bool.and_eq_true] at e ⊢
    exact ⟨rlt_mono h x e.1, rlts_mono h xs e.2⟩
end
theorem SO.rlt_mono {k j : Nat} (h : k ≤ j) {o : SO} (e : o.rlt k = true) : o.rlt j = true := by
  cases o with
  | lst xs => exact rlts_mono h xs e
  | dct kvs =>
    simp only [SO.rlt, List.all_eq_true, Bool.and_eq_true] at e ⊢
    exact fun p hp => ⟨Mp.rlt_mono h _ (e p hp).1, Mp.rlt_mono h _ (e p hp).2⟩
  | ldc kvs =>
    simp only [SO.rlt, List.all_eq_true, Bool.and_eq_true] at e ⊢
    exact fun p hp => ⟨Mp.rlt_mono h _ (e p hp).1, Mp.rlt_mono h _ (e p hp).2⟩
  | dci kvs =>
    simp only [SO.rlt, List.all_eq_true] at e ⊢
    exact fun p hp => Mp.rlt_mono h _ (e p hp)
  | ldi kvs =>
    simp only [SO.rlt, List.all_eq_true] at e ⊢
    exact fun p hp => Mp.rlt_mono h _ (e p hp)
theorem mono_all : ∀ {l : List SO} {k : Nat}, l.length ≤ k → mono l = true → ∀ o ∈ l, o.rlt k = true
  | [], k, _, _, o, h => by cases h
  | x :: l, k, hl, hm, o, h => by
    simp only [mono, Bool.and_eq_true] at hm
    simp only [List.length_cons] at hl
    rcases List.mem_cons.mp h with z | z
    · rw [z]; exact SO.rlt_mono (by omega) hm.1
    · exact mono_all (by omega) hm.2 o z
theorem optAll_gets {α β : Type} {f : α → Option β} : ∀ {xs : List α} {ys : List β}, optAll f xs = some ys → xs.length = ys.length ∧ ∀ (i : Nat) (x : α), xs[i]? = some x → ∃ y, ys[i]? = some y ∧ f x = some y
  | [], ys, h => by
    simp only [optAll] at h
    cases h
    exact ⟨rfl, fun i x h => by simp at h⟩
  | a :: xs, ys, h => by
    simp only [optAll] at h
    split at h
    · rename_i y hy
      split at h
      · rename_i zs hz
        cases h
        obtain ⟨h1, h2⟩ := optAll_gets hz
        refine ⟨by simp [h1], fun i x hx => ?_⟩
        cases i with
        | zero =>
          simp only [List.getElem?_cons_zero, Option.some.injEq] at hx
          subst hx
          exact ⟨y, rfl, hy⟩
        | succ i =>
          obtain ⟨z, q1, q2⟩ := h2 i x (by simpa using hx)
          exact ⟨z, by simpa using q1, q2⟩
      · cases h
    · cases h
theorem uniqN_mem {x : Nat} : ∀ {l : List Nat}, x ∈ uniqN l ↔ x ∈ l
  | [] => by simp [uniqN]
  | a :: l => by
    simp only [uniqN, List.mem_cons, List.mem_filter, uniqN_mem (l := l), bne_iff_ne]
    constructor
    · rintro (h | ⟨h, _⟩)
      · exact .inl h
      · exact .inr h
    · rintro (h | h)
      · exact .inl h
      · by_cases e : x = a
        · exact .inl e
        · exact .inr ⟨h, e⟩
theorem uniqN_nodup : ∀ l : List Nat, (uniqN l).Nodup
  | [] => List.nodup_nil
  | a :: l => by
    simp only [uniqN, List.nodup_cons]
    refine ⟨fun h => ?_, (uniqN_nodup l).filter _⟩
    have := (List.mem_filter.mp h).2
    simp at this
mutual
theorem nrs_ge {k : Nat} : ∀ (v : Val), ∀ r ∈ nrs k v, k ≤ r
  | .non, r, h => by simp only [nrs] at h; cases h
  | .bl _, r, h => by simp only [nrs] at h; cases h
  | .int _, r, h => by simp only [nrs] at h; cases h
  | .str _, r, h => by simp only [nrs] at h; cases h
  | .rng _ _, r, h => by simp only [nrs] at h; cases h
  | .tup xs, r, h => by simp only [nrs] at h; exact nrss_ge xs r h
  | .fl xs, r, h => by simp only [nrs] at h; exact nrss_ge xs r h
  | .ref q, r, h => by
    simp only [nrs] at h
    cases hb : Nat.blt q k with
    | true => rw [hb] at h; simp at h
    | false =>
      rw [hb] at h
      simp at h
      rw [h]; exact blt_false hb
theorem nrss_ge {k : Nat} : ∀ (vs : List Val), ∀ r ∈ nrss k vs, k ≤ r
  | [], r, h => by simp only [nrss] at h; cases h
  | x :: xs, r, h => by
    simp only [nrss, List.mem_append] at h
    rcases h with h | h
    · exact nrs_ge x r h
    · exact nrss_ge xs r h
end
theorem keep_ok {S S1 : Sto} {k : Nat} {rs : List Nat} (h : S.keep k rs = some S1) : k ≤ S.n ∧ (S.old k).length = k ∧ mono (S.old k) = true ∧ ∃ os, optAll S.get rs = some os ∧ os.all (SO.rlt k) = true ∧ S1 = ⟨k + rs.length, os.reverse ++ S.old k⟩ := by
  unfold Sto.keep at h
  split at h
  · rename_i c
    simp only [Bool.and_eq_true, beq_iff_eq] at c
    split at h
    · rename_i os ho
      split at h
      · rename_i ha
        cases h
        exact ⟨Nat.le_of_ble_eq_true c.1.1, c.1.2, c.2, os, ho, ha, rfl⟩
      · cases h
    · cases h
  · cases h
/-- the store, some of it dropped -/
theorem RS.keep {K : Kw} {m : List Addr} {H : Hp} {S S1 : Sto} {k : Nat} {rs : List Nat} (h : RS K m H S) (hk : S.keep k rs = some S1) (hge : ∀ r ∈ rs, k ≤ r) (nd : rs.Nodup) :
    ∃ t, RS K (m.take k ++ t) H S1 ∧ (∀ a ∈ t, a ∈ m) ∧ (∀ r, r < k → (m.take k ++ t)[r]? = m[r]?) ∧ (∀ r ∈ rs, (m.take k ++ t)[k + rs.idxOf r]? = m[r]?) := by
  obtain ⟨h1, h2, h3, os, h4, h5, rfl⟩ := keep_ok hk
  obtain ⟨hl, hos⟩ := optAll_gets h4
  have lt : ∀ r ∈ rs, r < m.length := fun r hr => by
    obtain ⟨i, hi⟩ := List.getElem?_of_mem hr
    obtain ⟨o, _, q⟩ := hos i r hi
    rw [h.len]; exact get_lt q
  have hlen : m.length = S.n := h.len
  have htk : (m.take k).length = k := by rw [List.length_take]; omega
  let t := rs.map fun r => m.getD r 0
  have low : ∀ r, r < k → (m.take k ++ t)[r]? = m[r]? := fun r hr => by
    rw [List.getElem?_append_left (by omega), List.getElem?_take, if_pos hr]
  have gd : ∀ r, r < m.length → m[r]? = some (m.getD r 0) := fun r hr => by
    rw [List.getElem?_eq_getElem hr, List.getD_eq_getElem?_getD, List.getElem?_eq_getElem hr]; rfl
  have ti : ∀ i r, rs[i]? = some r → (m.take k ++ t)[k + i]? = m[r]? := fun i r hr => by
    rw [List.getElem?_append_right (by omega), htk, Nat.add_sub_cancel_left, List.getElem?_map, hr, gd r (lt r (List.mem_of_getElem? hr))]
    rfl
  refine ⟨t, ⟨?_, ?_, ?_⟩, fun a ha => ?_, low, fun r hr => ?_⟩
  · show (m.take k ++ t).length = k + rs.length
    rw [List.length_append, htk, List.length_map]
  · rw [List.nodup_append]
    refine ⟨h.nd.sublist (List.take_sublist _ _), ?_, fun a ha b hb e => ?_⟩
    · have : ∀ l : List Nat, l.Nodup → (∀ r ∈ l, r < m.length) → (l.map fun r => m.getD r 0).Nodup := by
        intro l
        induction l with
        | nil => intro _ _; exact List.nodup_nil
        | cons a l ih =>
          intro hn hl
          have hn2 := List.nodup_cons.mp hn
          rw [List.map_cons, List.nodup_cons]
          refine ⟨fun hm => ?_, ih hn2.2 fun r hr => hl r (List.mem_cons_of_mem _ hr)⟩
          obtain ⟨b, hb, e⟩ := List.mem_map.mp hm
          have e1 := gd a (hl a (List.mem_cons_self ..))
          have e2 := gd b (hl b (List.mem_cons_of_mem _ hb))
          rw [e] at e2
          have := (List.getElem?_inj (hl a (List.mem_cons_self ..)) h.nd).mp (e1.trans e2.symm)
          rw [this] at hn2
          exact hn2.1 hb
      exact this rs nd lt
    · obtain ⟨r, hr, er⟩ := List.mem_map.mp hb
      obtain ⟨i, hi⟩ := List.getElem?_of_mem ha
      have hik : i < k := by
        obtain ⟨w, _⟩ := List.getElem?_eq_some_iff.mp hi
        omega
      rw [List.getElem?_take, if_pos hik] at hi
      have e2 := gd r (lt r hr)
      rw [er, ← e] at e2
      have hh := (List.getElem?_inj (i := i) (j := r) (by omega) h.nd).mp (hi.trans e2.symm)
      have := hge r hr
      omega
  · intro r a ha
    by_cases hr : r < k
    · rw [low r hr] at ha
      obtain ⟨o, e1, e2⟩ := h.ob r a ha
      have ol : (S.old k)[k - 1 - r]? = some o := by
        unfold Sto.old
        unfold Sto.get at e1
        rw [if_pos (by omega)] at e1
        rw [List.getElem?_drop, ← e1]
        congr 1
        omega
      refine ⟨o, ?_, e2.low low (mono_all (Nat.le_of_eq h2) h3 o (List.mem_of_getElem? ol))⟩
      show Sto.get ⟨k + rs.length, os.reverse ++ S.old k⟩ r = some o
      unfold Sto.get
      simp only
      rw [if_pos (by omega), List.getElem?_append_right (by simp; omega), List.length_reverse, ← hl]
      rw [show k + rs.length - 1 - r - rs.length = k - 1 - r by omega]
      exact ol
    · have hr2 : r < k + rs.length := by
        obtain ⟨w, _⟩ := List.getElem?_eq_some_iff.mp ha
        simp only [List.length_append, htk] at w
        have : t.length = rs.length := List.length_map _
        omega
      obtain ⟨i, rfl⟩ : ∃ i, r = k + i := ⟨r - k, by omega⟩
      have hi : i < rs.length := by omega
      have hri := List.getElem?_eq_getElem hi
      rw [ti i _ hri] at ha
      obtain ⟨o, e1, e2⟩ := hos i _ hri
      obtain ⟨o2, e3, e4⟩ := h.ob _ a ha
      rw [e2] at e3
      cases e3
      refine ⟨o, ?_, e4.low low (List.all_eq_true.mp h5 o (List.mem_of_getElem? e1))⟩
      show Sto.get ⟨k + rs.length, os.reverse ++ S.old k⟩ (k + i) = some o
      unfold Sto.get
      simp only
      rw [if_pos (by omega), List.getElem?_append_left (by simp; omega), List.getElem?_reverse (by omega), ← e1]
      congr 1
      omega
  · obtain ⟨r, hr, rfl⟩ := List.mem_map.mp ha
    exact List.mem_of_getElem? (gd r (lt r hr))
  · obtain ⟨i, hi⟩ := List.getElem?_of_mem hr
    have hx : rs[rs.idxOf r]? = some r := by
      rw [List.getElem?_eq_getElem (List.idxOf_lt_length_of_mem hr), List.getElem_idxOf]
    exact ti _ r hx
theorem Ext.sub {m m1 m2 : List Addr} {H H2 : Hp} {t : List Addr} (e : Ext m m2 H H2) (h : m1 = m ++ t) (hs : ∀ a ∈ t, a ∈ m2) : Ext m m1 H H2 := by
  subst h
  refine ⟨⟨t, rfl⟩, e.kp, fun a ha hn => ?_, e.lk⟩
  rcases List.mem_append.mp ha with z | z
  · exact absurd z hn
  · exact e.nw a (hs a z) hn
/-- what is dropped behind an expression -/
theorem gcV_rs {K : Kw} {m m2 : List Addr} {H H2 : Hp} {S : Sto} {k : Nat} {v : Val} (hk : m.length = k) (e : Ext m m2 H H2) (h : RS K m2 H2 S) :
    ∃ m3, Ext m m3 H H2 ∧ RS K m3 H2 (gcV k v S).2 ∧ ∀ z, RV K m2 H2 v z → RV K m3 H2 (gcV k v S).1 z := by
  unfold gcV
  split
  · rename_i S1 hS
    obtain ⟨t, q1, q2, q3, q4⟩ := h.keep hS (fun r hr => nrs_ge v r (uniqN_mem.mp hr)) (uniqN_nodup _)
    have hm : m2.take k = m := by
      obtain ⟨u, rfl⟩ := e.pre
      rw [← hk]; simp
    rw [hm] at q1 q3 q4
    exact ⟨m ++ t, e.sub rfl q2, q1, fun z hz => RV.ren q3 q4 v z (fun r hr => uniqN_mem.mpr hr) hz⟩
  · exact ⟨m2, e, h, fun z hz => hz⟩
theorem keep_low {S S1 : Sto} {k : Nat} {rs : List Nat} (h : S.keep k rs = some S1) {r : Nat} (hr : r < k) : S1.get r = S.get r := by
  obtain ⟨h1, h2, h3, os, h4, h5, rfl⟩ := keep_ok h
  obtain ⟨hl, hos⟩ := optAll_gets h4
  unfold Sto.get
  simp only
  rw [if_pos (by omega), if_pos (by omega), List.getElem?_append_right (by simp; omega), List.length_reverse, ← hl]
  unfold Sto.old
  rw [List.getElem?_drop]
  congr 1
  omega
theorem keep_new {S S1 : Sto} {k : Nat} {rs : List Nat} (h : S.keep k rs = some S1) {i r : Nat} (hi : rs[i]? = some r) : S1.get (k + i) = S.get r := by
  obtain ⟨h1, h2, h3, os, h4, h5, rfl⟩ := keep_ok h
  obtain ⟨hl, hos⟩ := optAll_gets h4
  obtain ⟨o, e1, e2⟩ := hos i r hi
  obtain ⟨w, _⟩ := List.getElem?_eq_some_iff.mp hi
  rw [e2, ← e1]
  unfold Sto.get
  simp only
  rw [if_pos (by omega), List.getElem?_append_left (by simp; omega), List.getElem?_reverse (by omega)]
  congr 1
  omega
theorem rens_len {k : Nat} {rs : List Nat} : ∀ xs : List Val, (rens k rs xs).isEmpty = xs.isEmpty
  | [] => rfl
  | x :: xs => rfl
theorem tru_gc {k : Nat} {v : Val} {S : Sto} : tru (gcV k v S).2 (gcV k v S).1 = tru S v := by
  unfold gcV
  split
  · rename_i S1 hS
    cases v with
    | tup xs => simp only [ren, tru, rens_len]
    | fl xs => simp only [ren, tru, rens_len]
    | ref r =>
      simp only [ren]
      cases hb : Nat.blt r k with
      | true => simp only [if_true, tru, keep_low hS (blt_true hb)]
      | false =>
        have e1 : uniqN (nrs k (.ref r)) = [r] := by simp [nrs, hb, uniqN]
        rw [e1] at hS ⊢
        have e2 : ([r] : List Nat).idxOf r = 0 := by simp
        have := keep_new hS (i := 0) (r := r) rfl
        simp only [Bool.false_eq_true, if_false, e2, tru, this]
    | _ => rfl
  · rfl
end Mp

set_option Elab.async false
set_option linter.all false
set_option maxRecDepth 100000
set_option maxHeartbeats 1000000
/-! Mp, part C: the operators, by values. -/
namespace Mp
open PySem L2

/-- whatever heap the store lies in behind -/
def Aft (K : Kw) (m : List Addr) (H : Hp) (S : Sto) (Φ : List Addr → Hp → Prop) : Prop := ∀ m2 H2, Ext m m2 H H2 → RS K m2 H2 S → Φ m2 H2
def Fin (K : Kw) (m : List Addr) (H : Hp) (v : Val) (S : Sto) (Q : VK) : Prop := Aft K m H S fun m2 H2 => ∀ z, RV K m2 H2 v z → Q z H2
section
variable {K : Kw} {m m2 : List Addr} {H H2 : Hp} {S : Sto} {Φ : List Addr → Hp → Prop} {Q : VK} {v : Val}
theorem Aft.self (h : Aft K m H S Φ) (rs : RS K m H S) : Φ m H := h m H (Ext.refl m H) rs
theorem Aft.on (h : Aft K m H S Φ) (e : Ext m m2 H H2) : Aft K m2 H2 S Φ := fun m3 H3 f rs => h m3 H3 (e.trans f) rs
theorem Fin.on (h : Fin K m H v S Q) (e : Ext m m2 H H2) : Fin K m2 H2 v S Q := Aft.on h e
theorem Fin.self (h : Fin K m H v S Q) (rs : RS K m H S) {z : V} (r : RV K m H v z) : Q z H := Aft.self h rs z r
theorem Fin.tup {ds : List Val} {vs : List V} (h : Fin K m H (.tup ds) S Q) (rs : RS K m H S) (r : RVs K m H ds vs) (p : Addr) (n : H p = none) : Q (.ref p) (upd H p (.tup vs)) := by
  have e := rs.ext (o := .tup vs) n
  refine h m _ e (rs.tup n) _ ?_
  simp only [RV]
  exact ⟨p, vs, rfl, SqT.of upd_same, RVs.mono e rs.muts ds vs r⟩
theorem Fin.rng {lo hi : Int} (h : Fin K m H (.rng lo hi) S Q) (rs : RS K m H S) (p : Addr) (n : H p = none) : Q (.ref p) (upd H p (.rng lo hi)) := by
  have e := rs.ext (o := .rng lo hi) n
  refine h m _ e (rs.tup n) _ ?_
  simp only [RV]
  exact ⟨p, rfl, upd_same⟩
theorem Fin.new {xs : List Val} {vs : List V} (h : Fin K m H (.ref S.n) (S.new (.lst xs)) Q) (rs : RS K m H S) (r : RVs K m H xs vs) (p : Addr) (n : H p = none) : Q (.ref p) (upd H p (.lst vs)) := by
  obtain ⟨h1, h2, h3⟩ := rs.new n r
  exact h _ _ h2 h1 _ h3
end

/-! ### data -/
section
variable {K : Kw} {m : List Addr} {H : Hp} {S : Sto}
theorem optAll_length {α β : Type} {f : α → Option β} : ∀ {xs : List α} {ys : List β}, optAll f xs = some ys → ys.length = xs.length
  | [], ys, h => by simp only [optAll] at h; cases h; rfl
  | x :: r, ys, h => by
    simp only [optAll] at h
    split at h
    · split at h
      · rename_i e; cases h; simp [optAll_length e]
      · cases h
    · cases h
theorem dp_all {k : Nat} (ih : ∀ (v : Val) (d : PyData) (x : V), dat S k v = some d → RV K m H v x → Dp K H x d) : ∀ (vs : List Val) (ds : List PyData) (xs : List V), optAll (dat S k) vs = some ds → RVs K m H vs xs → DpAll K H xs ds
  | [], ds, xs, e, r => by
    simp only [optAll] at e; cases e
    simp only [RVs] at r; subst r
    exact .nil
  | v :: vs, ds, xs, e, r => by
    simp only [optAll] at e
    simp only [RVs] at r
    obtain ⟨y, ys, rfl, r1, r2⟩ := r
    split at e
    · rename_i d hd
      split at e
      · rename_i es he
        cases e
        exact .cons (ih v d y hd r1) (dp_all ih vs es ys he r2)
      · cases e
    · cases e
theorem dp_of (rs : RS K m H S) : ∀ (k : Nat) (v : Val) (d : PyData) (x : V), dat S k v = some d → RV K m H v x → Dp K H x d
  | 0, v, d, x, e, r => by simp only [dat] at e; cases e
  | k + 1, v, d, x, e, r => by
    have ih := dp_of rs k
    cases v with
    | non => simp only [dat, RV] at e r; cases e; subst r; exact .non
    | bl b => simp only [dat, RV] at e r; cases e; subst r; exact .bl b
    | int i => simp only [dat, RV] at e r; cases e; subst r; exact .int i
    | str s => simp only [dat, RV] at e r; cases e; subst r; exact .str s
    | tup xs =>
      simp only [dat, RV] at e r
      obtain ⟨a, ys, rfl, h1, h2⟩ := r
      split at e
      · rename_i ds hd
        cases e
        exact .tup h1 (dp_all ih xs ds ys hd h2)
      · cases e
    | fl xs =>
      simp only [dat, RV] at e r
      obtain ⟨a, ys, rfl, h1, h2⟩ := r
      split at e
      · rename_i ds hd
        cases e
        exact .lst h1.sq (dp_all ih xs ds ys hd h2)
      · cases e
    | rng lo hi => simp only [dat] at e; cases e
    | ref q =>
      simp only [dat, RV] at e r
      obtain ⟨a, rfl, h1⟩ := r
      split at e
      · rename_i xs hx
        obtain ⟨vs, h2, h3⟩ := rs.list hx h1
        split at e
        · rename_i ds hd
          cases e
          exact .lst (SqL.of h2) (dp_all ih xs ds vs hd h3)
        · cases e
      · cases e
theorem depthAll_le {k : Nat} (ih : ∀ (v : Val) (d : PyData), dat S k v = some d → d.depth ≤ k) : ∀ (vs : List Val) (ds : List PyData), optAll (dat S k) vs = some ds → PyData.depthAll ds ≤ k
  | [], ds, e => by simp only [optAll] at e; cases e; simp [PyData.depthAll]
  | v :: vs, ds, e => by
    simp only [optAll] at e
    split at e
    · rename_i d hd
      split at e
      · rename_i es he
        cases e
        have h1 := ih v d hd
        have h2 := depthAll_le ih vs es he
        simp only [PyData.depthAll]
        omega
      · cases e
    · cases e
theorem depth_le : ∀ (k : Nat) (v : Val) (d : PyData), dat S k v = some d → d.depth ≤ k
  | 0, v, d, e => by simp only [dat] at e; cases e
  | k + 1, v, d, e => by
    have ih := depth_le k
    cases v with
    | non => simp only [dat] at e; cases e; simp [PyData.depth]
    | bl b => simp only [dat] at e; cases e; simp [PyData.depth]
    | int i => simp only [dat] at e; cases e; simp [PyData.depth]
    | str s => simp only [dat] at e; cases e; simp [PyData.depth]
    | tup xs =>
      simp only [dat] at e
      split at e
      · rename_i ds hd
        cases e
        have := depthAll_le ih xs ds hd
        simp only [PyData.depth]; omega
      · cases e
    | fl xs =>
      simp only [dat] at e
      split at e
      · rename_i ds hd
        cases e
        have := depthAll_le ih xs ds hd
        simp only [PyData.depth]; omega
      · cases e
    | rng lo hi => simp only [dat] at e; cases e
    | ref q =>
      simp only [dat] at e
      split at e
      · split at e
        · rename_i ds hd
          cases e
          have := depthAll_le ih _ ds hd
          simp only [PyData.depth]; omega
        · cases e
      · cases e
theorem plainAll_of {k : Nat} (ih : ∀ (v : Val) (d : PyData), dat S k v = some d → d.plain = true) : ∀ (vs : List Val) (ds : List PyData), optAll (dat S k) vs = some ds → PyData.plainAll ds = true
  | [], ds, e => by simp only [optAll] at e; cases e; rfl
  | v :: vs, ds, e => by
    simp only [optAll] at e
    split at e
    · rename_i d hd
      split at e
      · rename_i es he
        cases e
        simp only [PyData.plainAll, ih v d hd, plainAll_of ih vs es he, Bool.and_self]
      · cases e
    · cases e
theorem dat_plain : ∀ (k : Nat) (v : Val) (d : PyData), dat S k v = some d → d.plain = true
  | 0, v, d, e => by simp only [dat] at e; cases e
  | k + 1, v, d, e => by
    have ih := dat_plain k
    cases v with
    | non => simp only [dat] at e; cases e; rfl
    | bl b => simp only [dat] at e; cases e; rfl
    | int i => simp only [dat] at e; cases e; rfl
    | str s => simp only [dat] at e; cases e; rfl
    | tup xs =>
      simp only [dat] at e
      split at e
      · rename_i ds hd
        cases e
        simp only [PyData.plain]
        exact plainAll_of ih xs ds hd
      · cases e
    | fl xs =>
      simp only [dat] at e
      split at e
      · rename_i ds hd
        cases e
        simp only [PyData.plain]
        exact plainAll_of ih xs ds hd
      · cases e
    | rng lo hi => simp only [dat] at e; cases e
    | ref q =>
      simp only [dat] at e
      split at e
      · split at e
        · rename_i ds hd
          cases e
          simp only [PyData.plain]
          exact plainAll_of ih _ ds hd
        · cases e
      · cases e
theorem lay_ok {v : Val} {d : PyData} {x : V} (rs : RS K m H S) (e : lay S v = some d) (r : RV K m H v x) : Dp K H x d ∧ SeqAt.shaped d = true := by
  unfold lay at e
  split at e
  · rename_i d2 hd
    split at e
    · rename_i hc
      cases e
      refine ⟨dp_of rs deep v d x hd r, ?_⟩
      have := depth_le deep v d hd
      unfold SeqAt.shaped
      rw [hc, Bool.true_and]
      exact decide_eq_true (Nat.le_trans this (by decide))
    · cases e
  · cases e
end

/-! ### by values -/
def r1 (K : Kw) (f : Val → Sto → R Val) : V → Hp → VK → Prop := fun xv H Q => ∃ m S x v S', RS K m H S ∧ RV K m H x xv ∧ f x S = .ok v S' ∧ Fin K m H v S' Q
def r2 (K : Kw) (f : Val → Val → Sto → R Val) : R2 := fun xv yv H Q => ∃ m S x y v S', RS K m H S ∧ RV K m H x xv ∧ RV K m H y yv ∧ f x y S = .ok v S' ∧ Fin K m H v S' Q
def rN (K : Kw) (f : List Val → Sto → R Val) : List V → Hp → VK → Prop := fun xs H Q => ∃ m S vs v S', RS K m H S ∧ RVs K m H vs xs ∧ f vs S = .ok v S' ∧ Fin K m H v S' Q
def rM (K : Kw) (f : Val → List Val → Sto → R Val) : V → List V → Hp → VK → Prop := fun x xs H Q => ∃ m S o vs v S', RS K m H S ∧ RV K m H o x ∧ RVs K m H vs xs ∧ f o vs S = .ok v S' ∧ Fin K m H v S' Q

theorem cap_line {n : Nat} (h : n ≤ cap) : n ≤ sizeLine := Nat.le_trans h (by rw [sizeLine_eq]; decide)
theorem R.of_ok {α : Type} {o : Option α} {S S' : Sto} {a : α} (h : R.of o S = .ok a S') : o = some a ∧ S' = S := by
  unfold R.of at h
  split at h
  · cases h; exact ⟨rfl, rfl⟩
  · cases h

section
variable {X : Cx}
theorem op_addM : OpR X (binaryOp .Add) (r2 (Cxkw X) (bop .add)) := by
  intro pins s σ H xv yv u1 u2 Q I rx ry h
  obtain ⟨m, S, x, y, v, S', rs, hx, hy, e, f⟩ := h
  cases x with
  | int i =>
    cases y with
    | int j =>
      simp only [RV] at hx hy; subst hx; subst hy
      simp only [bop] at e; cases e
      exact op_add pins s σ H _ _ _ _ Q I rx ry ⟨i, j, rfl, rfl, f.self rs (by simp only [RV])⟩
    | _ => simp only [bop] at e; cases e
  | tup xs =>
    cases y with
    | tup ys =>
      simp only [bop] at e
      split at e
      · rename_i hl
        cases e
        have hx2 := hx
        have hy2 := hy
        simp only [RV] at hx hy
        obtain ⟨a, vs, rfl, h1, h2⟩ := hx
        obtain ⟨b, ws, rfl, h3, h4⟩ := hy
        refine op_catA pins s σ H _ _ _ _ Q I rx ry ⟨a, b, vs, ws, rfl, rfl, h1, h3, ?_, fun z => ?_, fun z1 z2 => ?_, fun z1 z2 => ?_⟩
        · rw [← h2.length, ← h4.length]; exact cap_line hl
        · subst z
          have : xs = [] := by
            have := h2.length
            simpa using this
          subst this
          exact f.self rs hy2
        · subst z2
          have : ys = [] := by
            have := h4.length
            simpa using this
          subst this
          rw [List.append_nil] at f
          exact f.self rs hx2
        · exact f.tup rs (h2.append h4)
      · cases e
    | _ => simp only [bop] at e; cases e
  | str a =>
    cases y with
    | str b =>
      simp only [RV] at hx hy; subst hx; subst hy
      simp only [bop] at e
      split at e
      · rename_i hl
        cases e
        exact op_add_str pins s σ H _ _ _ _ Q I rx ry ⟨a, b, rfl, rfl, cap_line hl, f.self rs (by simp only [RV])⟩
      · cases e
    | _ => simp only [bop] at e; cases e
  | ref r =>
    cases y with
    | ref q =>
      simp only [bop] at e
      split at e
      · rename_i xs ys e1 e2
        split at e
        · rename_i hl
          cases e
          simp only [RV] at hx hy
          obtain ⟨a, rfl, h1⟩ := hx
          obtain ⟨b, rfl, h3⟩ := hy
          obtain ⟨vs, h4, h5⟩ := rs.list e1 h1
          obtain ⟨ws, h6, h7⟩ := rs.list e2 h3
          exact op_cat pins s σ H _ _ _ _ Q I rx ry ⟨a, b, vs, ws, rfl, rfl, h4, h6, by rw [← h5.length, ← h7.length]; exact cap_line hl, f.new rs (h5.append h7)⟩
        · cases e
      · cases e
    | _ => simp only [bop] at e; cases e
  | _ => simp only [bop] at e; cases e
theorem op_subM : OpR X (binaryOp .Sub) (r2 (Cxkw X) (bop .sub)) := by
  intro pins s σ H xv yv u1 u2 Q I rx ry h
  obtain ⟨m, S, x, y, v, S', rs, hx, hy, e, f⟩ := h
  cases x with
  | int i =>
    cases y with
    | int j =>
      simp only [RV] at hx hy; subst hx; subst hy
      simp only [bop] at e; cases e
      exact op_sub pins s σ H _ _ _ _ Q I rx ry ⟨i, j, rfl, rfl, f.self rs (by simp only [RV])⟩
    | _ => simp only [bop] at e; cases e
  | _ => simp only [bop] at e; cases e
theorem op_fdivM : OpR X (binaryOp .FloorDiv) (r2 (Cxkw X) (bop .fdiv)) := by
  intro pins s σ H xv yv u1 u2 Q I rx ry h
  obtain ⟨m, S, x, y, v, S', rs, hx, hy, e, f⟩ := h
  cases x with
  | int i =>
    cases y with
    | int j =>
      simp only [RV] at hx hy; subst hx; subst hy
      simp only [bop] at e
      split at e
      · rename_i hd
        cases e
        simp only [divOk, Bool.and_eq_true, decide_eq_true_eq] at hd
        exact op_fdiv pins s σ H _ _ _ _ Q I rx ry ⟨i, j, rfl, rfl, hd, f.self rs (by simp only [RV])⟩
      · cases e
    | _ => simp only [bop] at e; cases e
  | _ => simp only [bop] at e; cases e
theorem op_modM : OpR X (binaryOp .Mod) (r2 (Cxkw X) (bop .mod)) := by
  intro pins s σ H xv yv u1 u2 Q I rx ry h
  obtain ⟨m, S, x, y, v, S', rs, hx, hy, e, f⟩ := h
  cases x with
  | int i =>
    cases y with
    | int j =>
      simp only [RV] at hx hy; subst hx; subst hy
      simp only [bop] at e
      split at e
      · rename_i hd
        cases e
        exact op_mod pins s σ H _ _ _ _ Q I rx ry ⟨i, j, rfl, rfl, of_decide_eq_true hd, f.self rs (by simp only [RV])⟩
      · cases e
    | _ => simp only [bop] at e; cases e
  | _ => simp only [bop] at e; cases e
theorem op_powM : OpR X (binaryOp .Pow) (r2 (Cxkw X) (bop .pow)) := by
  intro pins s σ H xv yv u1 u2 Q I rx ry h
  obtain ⟨m, S, x, y, v, S', rs, hx, hy, e, f⟩ := h
  cases x with
  | int i =>
    cases y with
    | int j =>
      simp only [RV] at hx hy; subst hx; subst hy
      simp only [bop] at e
      split at e
      · rename_i hd
        cases e
        simp only [powOk, Bool.and_eq_true, decide_eq_true_eq] at hd
        exact op_pow pins s σ H _ _ _ _ Q I rx ry ⟨i, j, rfl, rfl, ⟨hd.1.1, Int.le_trans hd.1.2 (by decide), hd.2⟩, f.self rs (by simp only [RV])⟩
      · cases e
    | _ => simp only [bop] at e; cases e
  | _ => simp only [bop] at e; cases e
end
end Mp

set_option Elab.async false
set_option linter.all false
set_option maxRecDepth 100000
set_option maxHeartbeats 4000000
/-! Mp, part C1: tuple * int where it is the tuple itself. -/
namespace Mp
open PySem PySem.Spec PyProof.Rows L2
/-- a tuple times a number of index size is the tuple itself, where it is empty or the number is 1 -/
theorem times_same {t : Addr} {o : Obj} {its : Array Value} {m : Nat} {k : Int} {tk : Tok} (cls : o.cls = .type "tuple") (dat : o.data = .seq its m) (fits : (decide (k < -(2 ^ 63)) || decide (k ≥ 2 ^ 63)) = false) (same : (its.isEmpty || k == 1) = true) :
    Meets (Builtin.«tuple.__mul__» ⟨[.ref t, .int k tk], []⟩) fun _ R s => s.heap.get? t = some o ∧ R (.ok (.ret (.ref t))) s := by
  obtain ⟨c, d, data, slots⟩ := o
  simp only at cls dat
  subst cls dat
  refine .of_wp fun prog w A R s ⟨at_, done⟩ => ?_
  obtain ⟨heap, gens, drawn, toks, os⟩ := s
  have index := AutoSeq1.idx_int
  wp_walk using wpAny_loadPart' at_
  repeat (first
    | (rw [if_neg (by rw [fits]; simp)]; wp_walk using wpAny_loadPart' at_)
    | (rw [if_pos same]; wp_walk using wpAny_loadPart' at_)
    | (refine wpAny_ite_false (by simpa using fits) ?_; wp_walk using wpAny_loadPart' at_)
    | (refine wpAny_ite_true (by simpa using same) ?_; wp_walk using wpAny_loadPart' at_))
  exact ⟨_, rfl, done⟩
theorem op_rep1 {X : Cx} : OpR X (binaryOp .Mult) fun x y H Q => ∃ (t : Addr) (k : Int) (xs : List V), x = .ref t ∧ y = .int k ∧ SqT X.K H t xs ∧ -(2 ^ 62) ≤ k ∧ k ≤ 2 ^ 62 ∧ (xs = [] ∨ k = 1) ∧ Q (.ref t) H := by
  rintro pins s σ H _ _ v u Q I rx ry ⟨t, k, xs, rfl, rfl, sq, lo, hi, how, q⟩
  obtain ⟨tk, rfl⟩ := ry
  obtain rfl : v = .ref t := rx
  obtain ⟨its, rel, ⟨o, at_, cls, m, dat⟩, _⟩ := I.tuple sq
  have tt : s.TypeIs (.ref t) "tuple" := ⟨o, at_, cls⟩
  have same : (its.toArray.isEmpty || k == 1) = true := by
    rcases how with e | e
    · subst e; cases rel; rfl
    · simp [e]
  have mine : wpAny (model X.prog X.w) X.A (call (.builtin "tuple.__mul__") [.ref t, .int k tk]) (EP X pins σ Q) X.xe s :=
    call_meets F.slot_tuple_mul tt F.entry_tuple_mul (F.args_tuple_mul_2 _ _) (times_same cls dat (by simp; omega) same) ⟨at_, .ref t, H, I, rfl, q⟩
  have other := int_rmul_tuple k tk t its.toArray m o.dict o.slots
  have whole : o = { cls := .type "tuple", dict := o.dict, data := .seq its.toArray m, slots := o.slots } := by cases o; simp_all
  refine wpAny_binaryOp_repeat_ref (U := "int") (by decide) tt (typeIs_int · k tk) noFill_tuple_mul F.fills_int_mul F.slot_int_rmul repeat_tuple F.slot_int_index.lookup ?_
  exact call_meets F.slot_int_rmul (typeIs_int s k tk) F.entry_int_rmul (F.args_int_rmul_2 _ _) other ⟨by rw [← whole]; exact at_, rfl, tt, mine⟩
end Mp

set_option Elab.async false
set_option linter.all false
set_option maxRecDepth 100000
set_option maxHeartbeats 1000000
/-! Mp, part D: the operators, on. -/
namespace Mp
open PySem L2
section
variable {X : Cx}
theorem op_mulM : OpR X (binaryOp .Mult) (r2 (Cxkw X) (bop .mul)) := by
  intro pins s σ H xv yv u1 u2 Q I rx ry h
  obtain ⟨m, S, x, y, v, S', rs, hx, hy, e, f⟩ := h
  cases x with
  | int i =>
    cases y with
    | int j =>
      simp only [RV] at hx hy; subst hx; subst hy
      simp only [bop] at e
      split at e
      · rename_i hd
        cases e
        simp only [mulOk, Bool.or_eq_true, Bool.and_eq_true, decide_eq_true_eq] at hd
        exact op_mul pins s σ H _ _ _ _ Q I rx ry ⟨i, j, rfl, rfl, hd, f.self rs (by simp only [RV])⟩
      · cases e
    | _ => simp only [bop] at e; cases e
  | tup xs =>
    cases y with
    | int k =>
      simp only [bop] at e
      split at e
      · rename_i hl
        cases e
        simp only [Bool.and_eq_true, decide_eq_true_eq] at hl
        obtain ⟨⟨h0, h1⟩, h2⟩ := hl
        cases xs with
        | cons z zs => cases h0
        | nil =>
          have hx2 := hx
          simp only [RV] at hx hy
          subst hy
          obtain ⟨a, vs, rfl, q1, q2⟩ := hx
          simp only [RVs] at q2
          exact op_rep1 pins s σ H _ _ _ _ Q I rx ry ⟨a, k, vs, rfl, rfl, q1, by omega, by omega, .inl q2, f.self rs hx2⟩
      split at e
      · rename_i hl
        cases e
        have hk : k = 1 := eq_of_beq hl
        have hx2 := hx
        simp only [RV] at hx hy
        subst hy
        obtain ⟨a, vs, rfl, q1, q2⟩ := hx
        exact op_rep1 pins s σ H _ _ _ _ Q I rx ry ⟨a, k, vs, rfl, rfl, q1, by omega, by omega, .inr hk, f.self rs hx2⟩
      split at e
      · rename_i hl
        cases e
        simp only [Bool.and_eq_true, decide_eq_true_eq, Bool.not_eq_true'] at hl
        obtain ⟨⟨⟨h0, h1⟩, h2⟩, h3⟩ := hl
        simp only [RV] at hx hy
        subst hy
        obtain ⟨a, vs, rfl, q1, q2⟩ := hx
        have hlen := q2.length
        refine op_repT pins s σ H _ _ _ _ Q I rx ry ⟨a, k, vs, rfl, rfl, q1, ?_, h1, h2, by omega, f.tup rs (q2.rep _)⟩
        rintro rfl
        cases xs with
        | nil => simp at h0
        | cons z zs => simp at hlen
      · cases e
    | _ => simp only [bop] at e; cases e
  | ref r =>
    cases y with
    | int k =>
      simp only [bop] at e
      split at e
      · rename_i xs e1
        split at e
        · rename_i hl
          cases e
          simp only [Bool.and_eq_true, decide_eq_true_eq] at hl
          obtain ⟨⟨h1, h2⟩, h3⟩ := hl
          simp only [RV] at hx hy
          subst hy
          obtain ⟨a, rfl, q1⟩ := hx
          obtain ⟨vs, q2, q3⟩ := rs.list e1 q1
          have hlen := q3.length
          exact op_rep pins s σ H _ _ _ _ Q I rx ry ⟨a, k, vs, rfl, rfl, q2, by omega, by omega, by rw [← hlen]; exact cap_line h3, f.new rs (q3.rep _)⟩
        · cases e
      · cases e
    | _ => simp only [bop] at e; cases e
  | _ => simp only [bop] at e; cases e

/-! ### comparisons -/
/-- the tests of == -/
def eqCase (S : Sto) (x y : Val) (b : Bool) : Prop := (∃ i j, x = .int i ∧ y = .int j ∧ b = (i == j)) ∨ (∃ xs, x = .tup xs ∧ y = .tup [] ∧ b = xs.isEmpty) ∨
  (∃ r q xs, x = .ref r ∧ y = .ref q ∧ S.lst r = some xs ∧ S.lst q = some [] ∧ b = xs.isEmpty) ∨ ∃ d e, dat S deep x = some d ∧ dat S deep y = some e ∧ b = PyData.eqv d e
theorem lstOf_ref {S : Sto} {x : Val} {xs : List Val} (h : lstOf S x = some xs) : ∃ r, x = .ref r ∧ S.lst r = some xs := by
  cases x with
  | ref r => exact ⟨r, rfl, h⟩
  | _ => cases h
theorem eqB_case {S : Sto} {x y : Val} {b : Bool} (h : eqB S x y = some b) : eqCase S x y b := by
  unfold eqB at h
  split at h
  · cases h; exact .inl ⟨_, _, rfl, rfl, rfl⟩
  · cases h; exact .inr (.inl ⟨_, rfl, rfl, rfl⟩)
  · split at h
    · rename_i h1 h2
      cases h
      obtain ⟨r, e1, e2⟩ := lstOf_ref h1
      obtain ⟨q, e3, e4⟩ := lstOf_ref h2
      exact .inr (.inr (.inl ⟨r, q, _, e1, e3, e2, e4, rfl⟩))
    · split at h
      · rename_i d e h1 h2
        cases h
        exact .inr (.inr (.inr ⟨d, e, h1, h2, rfl⟩))
      · cases h
theorem empty_size {vs : List V} {its : List Value} {xs : List Val} {K : Kw} {m : List Addr} {H : Hp} (r : Vals vs its) (q : RVs K m H xs vs) : (its.toArray.size == 0) = xs.isEmpty := by
  have h1 := r.length
  have h2 := q.length
  have h3 : its.length = xs.length := by omega
  rw [List.size_toArray, h3]
  cases xs <;> simp
theorem nil_size {vs : List V} {its : List Value} {K : Kw} {m : List Addr} {H : Hp} (r : Vals vs its) (q : RVs K m H [] vs) : its = [] := by
  simp only [RVs] at q; subst q
  cases r; rfl
theorem room_dat {k : Nat} {S : Sto} {x : Val} {d d2 : PyData} (hr : Room k X.A) (e : dat S deep x = some d) : X.A.units + min d.depth d2.depth < cLine := by
  have h1 := depth_le _ _ _ e
  have h2 : deep = 12 := rfl
  have := hr.un
  omega
/-- == by values, behind either sign -/
theorem op_eqM {k : Nat} (hr : Room k X.A) : OpR X (compareOp .Eq) (r2 (Cxkw X) (cop .eq)) := by
  intro pins s σ H xv yv u1 u2 Q I rx ry h
  obtain ⟨m, S, x, y, v, S', rs, hx, hy, e, f⟩ := h
  simp only [cop] at e
  obtain ⟨e, rfl⟩ := R.of_ok e
  obtain ⟨b, eb, rfl⟩ := Option.map_eq_some_iff.mp e
  have fb : Q (.bl b) H := f.self rs (by simp only [RV])
  rcases eqB_case eb with ⟨i, j, rfl, rfl, rfl⟩ | ⟨xs, rfl, rfl, rfl⟩ | ⟨r, q, xs, rfl, rfl, e1, e2, rfl⟩ | ⟨d1, d2, e1, e2, rfl⟩
  · simp only [RV] at hx hy; subst hx; subst hy
    refine op_eq pins s σ H _ _ _ _ Q I rx ry ⟨rfl, ?_⟩
    rw [dec_int]; exact fb
  · simp only [RV] at hx hy
    obtain ⟨a, vs, rfl, h1, h2⟩ := hx
    obtain ⟨c, ws, rfl, h3, h4⟩ := hy
    cases rx; cases ry
    obtain ⟨its, r1, p1, _⟩ := I.tuple h1
    obtain ⟨its2, r2', p2, _⟩ := I.tuple h3
    have z := nil_size r2' h4
    subst z
    refine SeqAt.eq_tupleAt (e := fun _ => true) p1 p2 hr.units0 (fun j _ h2 => absurd h2 (by simp)) ⟨.bl _, H, I, rfl, ?_⟩
    have ez := empty_size r1 h2
    simp only [List.size_toArray] at ez
    simpa [ez] using fb
  · simp only [RV] at hx hy
    obtain ⟨a, rfl, h1⟩ := hx
    obtain ⟨c, rfl, h3⟩ := hy
    obtain ⟨vs, h5, h6⟩ := rs.list e1 h1
    obtain ⟨ws, h7, h8⟩ := rs.list e2 h3
    cases rx; cases ry
    obtain ⟨its, r1, p1, _⟩ := I.list (SqL.of h5)
    obtain ⟨its2, r2', p2, _⟩ := I.list (SqL.of h7)
    have z := nil_size r2' h8
    subst z
    have ez := empty_size r1 h6
    by_cases hz : its.toArray.size = 0
    · refine SeqAt.eq_listAt (e := fun _ => true) p1.isList p2.isList (by rw [hz]; rfl) hr.units0 (fun j _ h2 => absurd h2 (by simp)) ⟨.bl _, H, I, rfl, ?_⟩
      rw [hz] at ez
      rw [← ez] at fb
      show Q (.bl ((List.range its.toArray.size).all fun _ => true)) H
      rw [hz]
      exact fb
    · refine SeqAt.eq_list_lengthsAt p1.isList p2.isList (by simpa using hz) hr.units0 ⟨.bl _, H, I, rfl, ?_⟩
      have : (its.toArray.size == 0) = false := by simpa using hz
      rw [this] at ez
      rw [← ez] at fb
      exact fb
  · obtain ⟨as, r1⟩ := Dp.reads I d1 _ _ (dp_of rs deep _ _ _ e1 hx) rx
    obtain ⟨bs, r2⟩ := Dp.reads I d2 _ _ (dp_of rs deep _ _ _ e2 hy) ry
    exact SeqAt.eq_plain r1 r2 (dat_plain _ _ _ e1) (dat_plain _ _ _ e2) (room_dat hr e1) ⟨.bl _, H, I, rfl, fb⟩
theorem op_neM {k : Nat} (hr : Room k X.A) : OpR X (compareOp .NotEq) (r2 (Cxkw X) (cop .ne)) := by
  intro pins s σ H xv yv u1 u2 Q I rx ry h
  obtain ⟨m, S, x, y, v, S', rs, hx, hy, e, f⟩ := h
  simp only [cop] at e
  obtain ⟨e, rfl⟩ := R.of_ok e
  obtain ⟨b, eb, rfl⟩ := Option.map_eq_some_iff.mp e
  have fb : Q (.bl (!b)) H := f.self rs (by simp only [RV])
  rcases eqB_case eb with ⟨i, j, rfl, rfl, rfl⟩ | ⟨xs, rfl, rfl, rfl⟩ | ⟨r, q, xs, rfl, rfl, e1, e2, rfl⟩ | ⟨d1, d2, e1, e2, rfl⟩
  · simp only [RV] at hx hy; subst hx; subst hy
    refine op_ne pins s σ H _ _ _ _ Q I rx ry ⟨rfl, ?_⟩
    rw [dec_int]; exact fb
  · simp only [RV] at hx hy
    obtain ⟨a, vs, rfl, h1, h2⟩ := hx
    obtain ⟨c, ws, rfl, h3, h4⟩ := hy
    cases rx; cases ry
    obtain ⟨its, r1, p1, _⟩ := I.tuple h1
    obtain ⟨its2, r2', p2, _⟩ := I.tuple h3
    have z := nil_size r2' h4
    subst z
    refine SeqAt.RcNeAt.tuples (e := fun _ => true) p1 p2 hr.units0 (fun j _ h2 => absurd h2 (by simp)) _ _ _ _ ⟨.bl _, H, I, rfl, ?_⟩
    have ez := empty_size r1 h2
    simp only [List.size_toArray] at ez
    simpa [ez] using fb
  · simp only [RV] at hx hy
    obtain ⟨a, rfl, h1⟩ := hx
    obtain ⟨c, rfl, h3⟩ := hy
    obtain ⟨vs, h5, h6⟩ := rs.list e1 h1
    obtain ⟨ws, h7, h8⟩ := rs.list e2 h3
    cases rx; cases ry
    obtain ⟨its, r1, p1, _⟩ := I.list (SqL.of h5)
    obtain ⟨its2, r2', p2, _⟩ := I.list (SqL.of h7)
    have z := nil_size r2' h8
    subst z
    have ez := empty_size r1 h6
    by_cases hz : its.toArray.size = 0
    · refine SeqAt.RcNeAt.lists (e := fun _ => true) p1.isList p2.isList (by rw [hz]; rfl) hr.units0 (fun j _ h2 => absurd h2 (by simp)) _ _ _ _ ⟨.bl _, H, I, rfl, ?_⟩
      rw [hz] at ez
      rw [← ez] at fb
      show Q (.bl (!((List.range its.toArray.size).all fun _ => true))) H
      rw [hz]
      exact fb
    · refine SeqAt.RcNeAt.lists_lengths p1.isList p2.isList (by simpa using hz) hr.units0 _ _ _ _ ⟨.bl _, H, I, rfl, ?_⟩
      have : (its.toArray.size == 0) = false := by simpa using hz
      rw [this] at ez
      rw [← ez] at fb
      exact fb
  · obtain ⟨as, r1⟩ := Dp.reads I d1 _ _ (dp_of rs deep _ _ _ e1 hx) rx
    obtain ⟨bs, r2⟩ := Dp.reads I d2 _ _ (dp_of rs deep _ _ _ e2 hy) ry
    exact SeqAt.ne_plain r1 r2 (dat_plain _ _ _ e1) (dat_plain _ _ _ e2) (room_dat hr e1) ⟨.bl _, H, I, rfl, fb⟩
/-- int comparisons -/
theorem op_gtM : OpR X (compareOp .Gt) (r2 (Cxkw X) (cop .gt)) := by
  intro pins s σ H xv yv u1 u2 Q I rx ry h
  obtain ⟨m, S, x, y, v, S', rs, hx, hy, e, f⟩ := h
  simp only [cop] at e
  split at e
  · rename_i i j
    cases e
    simp only [RV] at hx hy; subst hx; subst hy
    exact op_gt pins s σ H _ _ _ _ Q I rx ry ⟨i, j, rfl, rfl, f.self rs (by simp only [RV])⟩
  · cases e
theorem op_leM : OpR X (compareOp .LtE) (r2 (Cxkw X) (cop .le)) := by
  intro pins s σ H xv yv u1 u2 Q I rx ry h
  obtain ⟨m, S, x, y, v, S', rs, hx, hy, e, f⟩ := h
  simp only [cop] at e
  split at e
  · rename_i i j
    cases e
    simp only [RV] at hx hy; subst hx; subst hy
    exact op_le pins s σ H _ _ _ _ Q I rx ry ⟨i, j, rfl, rfl, f.self rs (by simp only [RV])⟩
  · cases e
theorem op_geM : OpR X (compareOp .GtE) (r2 (Cxkw X) (cop .ge)) := by
  intro pins s σ H xv yv u1 u2 Q I rx ry h
  obtain ⟨m, S, x, y, v, S', rs, hx, hy, e, f⟩ := h
  simp only [cop] at e
  split at e
  · rename_i i j
    cases e
    simp only [RV] at hx hy; subst hx; subst hy
    exact op_ge pins s σ H _ _ _ _ Q I rx ry ⟨i, j, rfl, rfl, f.self rs (by simp only [RV])⟩
  · cases e
end
end Mp

set_option Elab.async false
set_option linter.all false
set_option maxRecDepth 100000
set_option maxHeartbeats 2000000
/-! Mp, part E0: dicts whose keys are tuples. -/
namespace Mp
open PySem PySem.Spec PyProof.Rows L2
theorem keyN_eq : ∀ (n : Nat) (a b : Val), keyOk n a = true → keyOk n b = true → veq a b = decide (keyN a = keyN b)
  | 0, a, b, h, _ => by simp only [keyOk] at h; cases h
  | n + 1, a, b, ha, hb => by
    have ls : ∀ (xs ys : List Val), xs.all (keyOk n) = true → ys.all (keyOk n) = true → veqs xs ys = decide (keyNs xs = keyNs ys) := by
      intro xs
      induction xs with
      | nil =>
        intro ys _ _
        cases ys with
        | nil => simp [veqs, keyNs]
        | cons y ys => simp [veqs, keyNs]
      | cons x xs ih =>
        intro ys h1 h2
        cases ys with
        | nil => simp [veqs, keyNs]
        | cons y ys =>
          simp only [List.all_cons, Bool.and_eq_true] at h1 h2
          simp only [veqs, keyNs, keyN_eq n x y h1.1 h2.1, ih ys h1.2 h2.2]
          by_cases e1 : keyN x = keyN y <;> by_cases e2 : keyNs xs = keyNs ys <;> simp [e1, e2]
    cases a with
    | non => cases b with
      | non => simp [veq, keyN]
      | int i => simp [veq, keyN]
      | str i => simp [veq, keyN]
      | tup i => simp [veq, keyN]
      | _ => simp only [keyOk] at hb; cases hb
    | int j => cases b with
      | non => simp [veq, keyN]
      | int i =>
        by_cases e : j = i <;> simp [veq, keyN, e]
      | str i => simp [veq, keyN]
      | tup i => simp [veq, keyN]
      | _ => simp only [keyOk] at hb; cases hb
    | str j => cases b with
      | non => simp [veq, keyN]
      | int i => simp [veq, keyN]
      | str i =>
        by_cases e : j = i <;> simp [veq, keyN, e]
      | tup i => simp [veq, keyN]
      | _ => simp only [keyOk] at hb; cases hb
    | tup xs => cases b with
      | non => simp [veq, keyN]
      | int i => simp [veq, keyN]
      | str i => simp [veq, keyN]
      | tup ys =>
        simp only [keyOk] at ha hb
        simp only [veq, keyN, ls xs ys ha hb]
        by_cases e : keyNs xs = keyNs ys <;> simp [e]
      | _ => simp only [keyOk] at hb; cases hb
    | _ => simp only [keyOk] at ha; cases ha
theorem keyN_depth : ∀ (n : Nat) (a : Val), keyOk n a = true → (keyN a).depth ≤ n
  | 0, a, h => by simp only [keyOk] at h; cases h
  | n + 1, a, h => by
    cases a with
    | tup xs =>
      simp only [keyOk] at h
      simp only [keyN, NestedKey.depth]
      have ls : ∀ xs : List Val, xs.all (keyOk n) = true → NestedKey.depthAll (keyNs xs) ≤ n := by
        intro xs
        induction xs with
        | nil => intro _; simp [keyNs, NestedKey.depthAll]
        | cons x xs ih =>
          intro h1
          simp only [List.all_cons, Bool.and_eq_true] at h1
          have a1 := keyN_depth n x h1.1
          have a2 := ih h1.2
          simp only [keyNs, NestedKey.depthAll]
          omega
      have := ls xs h
      omega
    | non => simp [keyN, NestedKey.depth]
    | int i => simp [keyN, NestedKey.depth]
    | str i => simp [keyN, NestedKey.depth]
    | _ => simp only [keyOk] at h; cases h
theorem dkey_eq {a b : Val} (ha : dkey a = true) (hb : dkey b = true) : veq a b = decide (keyN a = keyN b) := by
  unfold dkey at ha hb
  simp only [Bool.and_eq_true] at ha hb
  exact keyN_eq 8 a b ha.2 hb.2
section
variable {X : Cx} {pins : List (Addr × Obj)} {σ : L2.St} {H : Hp} {s : Shared} {m : List Addr}
theorem nest_is (I : Inv X pins σ H s) : ∀ (n : Nat) (v : Val) (x : V) (u : Value), keyOk n v = true → RV (Cxkw X) m H v x → RelV x u → NestedIs s.heap (keyN v) u
  | 0, v, x, u, h, _, _ => by simp only [keyOk] at h; cases h
  | n + 1, v, x, u, h, r, q => by
    cases v with
    | non =>
      simp only [RV] at r; subst r
      obtain rfl : u = Value.none := q
      exact .none
    | int i =>
      simp only [RV] at r; subst r
      obtain ⟨t, rfl⟩ : ∃ t, u = Value.int i t := q
      exact .int i t
    | str i =>
      simp only [RV] at r; subst r
      obtain ⟨t, rfl⟩ : ∃ t, u = Value.str i t := q
      exact .text i t
    | tup ds =>
      simp only [RV] at r
      obtain ⟨a, xs, rfl, h1, h2⟩ := r
      obtain rfl : u = Value.ref a := q
      simp only [keyOk] at h
      obtain ⟨its, hv, ⟨o, ho, hc, hd⟩, _⟩ := I.tuple h1
      have ls : ∀ (ds : List Val) (xs : List V) (us : List Value), ds.all (keyOk n) = true → RVs (Cxkw X) m H ds xs → Vals xs us → NestedAll s.heap (keyNs ds) us := by
        intro ds
        induction ds with
        | nil =>
          intro xs us _ r v
          simp only [RVs] at r; subst r
          cases v
          exact .nil
        | cons d ds ih =>
          intro xs us hk r v
          simp only [RVs] at r
          obtain ⟨y, ys, rfl, r1, r2⟩ := r
          simp only [List.all_cons, Bool.and_eq_true] at hk
          cases v with
          | cons v1 v2 => exact .cons (nest_is I n d y _ hk.1 r1 v1) (ih ys _ hk.2 r2 v2)
      simp only [keyN]
      obtain ⟨nn, hd⟩ := hd
      exact .tup ho hc hd (by simpa using ls ds xs its h h2 hv)
    | _ => simp only [keyOk] at h; cases h
theorem key_is (I : Inv X pins σ H s) {k : Val} {ka : Addr} (h : dkey k = true) (r : RV (Cxkw X) m H k (.ref ka)) : (nestedKind X.prog X.w).is s.heap (keyN k) ka := by
  unfold dkey at h
  simp only [Bool.and_eq_true] at h
  exact ⟨nest_is I 8 k _ _ h.2 r rfl, keyN_depth 8 k h.2⟩
theorem key_ref {K : Kw} {k : Val} {x : V} (h : dkey k = true) (r : RV K m H k x) : ∃ ka, x = .ref ka := by
  unfold dkey at h
  simp only [Bool.and_eq_true] at h
  cases k with
  | tup xs =>
    simp only [RV] at r
    obtain ⟨a, _, rfl, _⟩ := r
    exact ⟨a, rfl⟩
  | _ => cases h.1
theorem RD.is (I : Inv X pins σ H s) : ∀ {kvs : List (Val × Val)} {xs : List (NestedKey × Addr × Value)}, RD (Cxkw X) m H kvs xs → ∀ x ∈ xs, (nestedKind X.prog X.w).is s.heap x.1 x.2.1
  | [], xs, h, x, hx => by
    simp only [RD] at h; subst h; cases hx
  | p :: r, xs, h, x, hx => by
    obtain ⟨ka, u, vv, ys, rfl, h1, h2, h3, h4, h5⟩ := h
    rcases List.mem_cons.mp hx with rfl | z
    · exact key_is I h1 h2
    · exact RD.is I h5 x z
theorem RD.length {K : Kw} : ∀ {kvs : List (Val × Val)} {xs : List (NestedKey × Addr × Value)}, RD K m H kvs xs → kvs.length = xs.length
  | [], xs, h => by simp only [RD] at h; subst h; rfl
  | p :: r, xs, h => by
    obtain ⟨ka, u, vv, ys, rfl, h1, h2, h3, h4, h5⟩ := h
    simp [RD.length h5]
theorem dct_of (I : Inv X pins σ H s) {kvs : List (Val × Val)} {xs : List (NestedKey × Addr × Value)} {a : Addr} (e : H a = some (.ext (DctP X.w a xs))) (rd : RD (Cxkw X) m H kvs xs) :
    (a == sysModules) = false ∧ xs.length ≤ sizeLine ∧ (xs.map (·.1)).Nodup ∧ s.heap.DictOfH (nestedKind X.prog X.w) a xs := by
  obtain ⟨⟨h1, h2, h3, o, es, ep, h4, h5, h6, h7⟩, _⟩ := I.hok a _ e
  exact ⟨h1, h2, h3, o, es, ep, h4, h5, h6, h7, rd.is I, h3⟩
theorem dct_ok {P : Program} {w : World} {H' : Hp} {h' : Heap} {a : Addr} {xs : List (NestedKey × Addr × Value)} (hs : (a == sysModules) = false) (hl : xs.length ≤ sizeLine) (d : h'.DictOfH (nestedKind P w) a xs) : ObjOk P w H' h' a (.ext (DctP w a xs)) := by
  obtain ⟨o, es, ep, h4, h5, h6, h7, _, h3⟩ := d
  refine ⟨⟨hs, hl, h3, o, es, ep, h4, h5, h6, h7⟩, ⟨o, h4⟩, fun h1 h2 q k => ?_⟩
  obtain ⟨q1, q2, q3, o, es, ep, q4, q5⟩ := q
  exact ⟨q1, q2, q3, o, es, ep, k o q4, q5⟩
theorem atKey_cons {k : NestedKey} {x : NestedKey × Addr × Value} {xs : List (NestedKey × Addr × Value)} : atKey (x :: xs) k = if x.1 = k then some x.2 else atKey xs k := by
  unfold atKey
  rw [List.find?_cons]
  by_cases h : x.1 = k <;> simp [h]
/-- d[k] -/
theorem RD.get {K : Kw} {k : Val} (hk : dkey k = true) : ∀ {kvs : List (Val × Val)} {xs : List (NestedKey × Addr × Value)}, RD K m H kvs xs →
    (match dget k kvs with
      | some v => ∃ p vv, atKey xs (keyN k) = some p ∧ RV K m H v vv ∧ RelV vv p.2
      | none => atKey xs (keyN k) = none)
  | [], xs, h => by
    simp only [RD] at h; subst h
    simp only [dget]
    rfl
  | p :: r, xs, h => by
    obtain ⟨ka, u, vv, ys, rfl, h1, h2, h3, h4, h5⟩ := h
    have ih := RD.get hk h5
    simp only [dget, dkey_eq h1 hk, atKey_cons]
    by_cases e : keyN p.1 = keyN k
    · simp only [e, decide_true, if_true]
      exact ⟨(ka, u), vv, rfl, h3, h4⟩
    · simp only [e, decide_false, if_false, Bool.false_eq_true]
      exact ih
theorem putAt_id {k : NestedKey} {u : Value} {xs : List (NestedKey × Addr × Value)} (h : k ∉ xs.map (·.1)) : xs.map (putAt k u) = xs := by
  induction xs with
  | nil => rfl
  | cons x xs ih =>
    simp only [List.map_cons, List.mem_cons, not_or] at h
    rw [List.map_cons, ih h.2]
    unfold putAt
    rw [if_neg (Ne.symm h.1)]
theorem storedH_cons {k : NestedKey} {ka : Addr} {u : Value} {x : NestedKey × Addr × Value} {xs : List (NestedKey × Addr × Value)} (hn : ((x :: xs).map (·.1)).Nodup) :
    storedH (x :: xs) k ka u = if x.1 = k then (x.1, x.2.1, u) :: xs else x :: storedH xs k ka u := by
  unfold storedH
  rw [atKey_cons]
  rw [List.map_cons, List.nodup_cons] at hn
  by_cases h : x.1 = k
  · subst h
    rw [if_pos rfl, if_pos rfl]
    simp only [Option.isSome_some, if_true, List.map_cons, putAt_id hn.1]
    simp [putAt]
  · rw [if_neg h, if_neg h]
    cases e : (atKey xs k).isSome with
    | true => simp [putAt, h]
    | false => simp
/-- d[k] = v -/
theorem RD.put {K : Kw} {k v : Val} {ka : Addr} {vv : V} {u : Value} (hk : dkey k = true) (hka : RV K m H k (.ref ka)) (hv : RV K m H v vv) (hu : RelV vv u) : ∀ {kvs : List (Val × Val)} {xs : List (NestedKey × Addr × Value)}, RD K m H kvs xs →
    (xs.map (·.1)).Nodup → RD K m H (dput k v kvs) (storedH xs (keyN k) ka u)
  | [], xs, h, _ => by
    simp only [RD] at h; subst h
    exact ⟨ka, u, vv, [], rfl, hk, hka, hv, hu, rfl⟩
  | p :: r, xs, h, hn => by
    obtain ⟨ka', u', vv', ys, rfl, h1, h2, h3, h4, h5⟩ := h
    rw [storedH_cons hn]
    simp only [dput, dkey_eq h1 hk]
    by_cases e : keyN p.1 = keyN k
    · simp only [e, decide_true, if_true]
      refine ⟨ka', u, vv, ys, ?_, h1, h2, hv, hu, h5⟩
      rw [← e]
    · simp only [e, decide_false, if_false, Bool.false_eq_true]
      have hn2 : (ys.map (·.1)).Nodup := by
        rw [List.map_cons, List.nodup_cons] at hn
        exact hn.2
      exact ⟨ka', u', vv', _, rfl, h1, h2, h3, h4, RD.put hk hka hv hu h5 hn2⟩
theorem dput_len (k v : Val) : ∀ kvs : List (Val × Val), (dput k v kvs).length ≤ kvs.length + 1
  | [] => by simp [dput]
  | p :: r => by
    simp only [dput]
    split
    · simp
    · have := dput_len k v r
      simp only [List.length_cons]
      omega
/-! ### dicts whose keys are numbers -/
theorem RI.length {K : Kw} : ∀ {kvs : List (Int × Val)} {xs : List (Int × Value)}, RI K m H kvs xs → kvs.length = xs.length
  | [], xs, h => by simp only [RI] at h; subst h; rfl
  | p :: r, xs, h => by
    obtain ⟨u, vv, ys, rfl, h3, h4, h5⟩ := h
    simp [RI.length h5]
theorem valueAt_cons {k : Int} {x : Int × Value} {xs : List (Int × Value)} : valueAt (x :: xs) k = if x.1 = k then some x.2 else valueAt xs k := by
  unfold valueAt
  rw [List.find?_cons]
  by_cases h : x.1 = k <;> simp [h]
theorem RI.get {K : Kw} {k : Int} : ∀ {kvs : List (Int × Val)} {xs : List (Int × Value)}, RI K m H kvs xs →
    (match iget k kvs with
      | some v => ∃ u vv, valueAt xs k = some u ∧ RV K m H v vv ∧ RelV vv u
      | none => valueAt xs k = none)
  | [], xs, h => by
    simp only [RI] at h; subst h
    simp only [iget]
    rfl
  | p :: r, xs, h => by
    obtain ⟨u, vv, ys, rfl, h3, h4, h5⟩ := h
    have ih := RI.get (k := k) h5
    simp only [iget, valueAt_cons]
    by_cases e : p.1 = k
    · simp only [e, if_true]
      exact ⟨u, vv, rfl, h3, h4⟩
    · simp only [e, if_false]
      exact ih
theorem RI.isSome {K : Kw} {k : Int} {kvs : List (Int × Val)} {xs : List (Int × Value)} (h : RI K m H kvs xs) : (valueAt xs k).isSome = (iget k kvs).isSome := by
  have := h.get (k := k)
  cases e : iget k kvs with
  | none => rw [e] at this; dsimp only at this; rw [this]; rfl
  | some v =>
    rw [e] at this
    obtain ⟨u, vv, h, _⟩ := this
    rw [h]; rfl
theorem stored_cons {k : Int} {u : Value} {x : Int × Value} {xs : List (Int × Value)} (hn : ((x :: xs).map (·.1)).Nodup) : stored (x :: xs) k u = if x.1 = k then (x.1, u) :: xs else x :: stored xs k u := by
  unfold stored
  rw [List.map_cons, List.nodup_cons] at hn
  by_cases h : x.1 = k
  · subst h
    have : xs.map (fun kv => if kv.1 = x.1 then (kv.1, u) else kv) = xs := by
      have := List.map_congr_left (l := xs) (f := fun kv : Int × Value => if kv.1 = x.1 then (kv.1, u) else kv) (g := id) (fun kv hkv => by
        rw [if_neg]
        · rfl
        · intro e
          exact hn.1 (e ▸ List.mem_map_of_mem hkv))
      rw [this, List.map_id]
    simp [this]
  · simp only [List.any_cons, h, decide_false, Bool.false_or, if_false]
    cases e : xs.any fun kv => decide (kv.1 = k) with
    | true => simp [h]
    | false => simp
theorem RI.put {K : Kw} {k : Int} {v : Val} {vv : V} {u : Value} (hv : RV K m H v vv) (hu : RelV vv u) : ∀ {kvs : List (Int × Val)} {xs : List (Int × Value)}, RI K m H kvs xs →
    (xs.map (·.1)).Nodup → RI K m H (iput k v kvs) (stored xs k u)
  | [], xs, h, _ => by
    simp only [RI] at h; subst h
    exact ⟨u, vv, [], rfl, hv, hu, rfl⟩
  | p :: r, xs, h, hn => by
    obtain ⟨u', vv', ys, rfl, h3, h4, h5⟩ := h
    rw [stored_cons hn]
    simp only [iput]
    by_cases e : p.1 = k
    · simp only [e, if_true]
      exact ⟨u, vv, ys, rfl, hv, hu, h5⟩
    · simp only [e, if_false]
      have hn2 : (ys.map (·.1)).Nodup := by
        rw [List.map_cons, List.nodup_cons] at hn
        exact hn.2
      exact ⟨u', vv', _, rfl, h3, h4, RI.put hv hu h5 hn2⟩
theorem iput_len (k : Int) (v : Val) : ∀ kvs : List (Int × Val), (iput k v kvs).length ≤ kvs.length + 1
  | [] => by simp [iput]
  | p :: r => by
    simp only [iput]
    split
    · simp
    · have := iput_len k v r
      simp only [List.length_cons]
      omega
theorem dci_of (I : Inv X pins σ H s) {xs : List (Int × Value)} {a : Addr} (e : H a = some (.ext (DciP X.prog X.w a xs))) :
    (a == sysModules) = false ∧ xs.length ≤ sizeLine ∧ s.heap.DictOf (intKind X.prog X.w) a xs := by
  obtain ⟨h, _⟩ := I.hok a _ e
  exact h
theorem dci_ok {P : Program} {w : World} {H' : Hp} {h' : Heap} {a : Addr} {xs : List (Int × Value)} (hs : (a == sysModules) = false) (hl : xs.length ≤ sizeLine) (d : h'.DictOf (intKind P w) a xs) : ObjOk P w H' h' a (.ext (DciP P w a xs)) := by
  refine ⟨⟨hs, hl, d⟩, ?_, fun h1 h2 q k => ?_⟩
  · obtain ⟨o, es, ep, h4, _⟩ := d
    exact ⟨o, h4⟩
  · obtain ⟨q1, q2, q3⟩ := q
    exact ⟨q1, q2, q3.at k⟩
theorem nodup_of {P : Program} {w : World} {h' : Heap} {a : Addr} {xs : List (Int × Value)} (d : h'.DictOf (intKind P w) a xs) : (xs.map (·.1)).Nodup := by
  obtain ⟨o, es, ep, h1, h2, h3, h4, h5, h6⟩ := d
  exact h6
/-- a dict, locked or not -/
theorem dct_ofL (I : Inv X pins σ H s) {kvs : List (Val × Val)} {xs : List (NestedKey × Addr × Value)} {a : Addr} {o : Obj} (e : H a = some (.frz o (.ext (DctP X.w a xs)))) (rd : RD (Cxkw X) m H kvs xs) :
    (a == sysModules) = false ∧ xs.length ≤ sizeLine ∧ (xs.map (·.1)).Nodup ∧ s.heap.DictOfH (nestedKind X.prog X.w) a xs := by
  obtain ⟨_, ⟨h1, h2, h3, o, es, ep, h4, h5, h6, h7⟩, _⟩ := I.hok a _ e
  exact ⟨h1, h2, h3, o, es, ep, h4, h5, h6, h7, rd.is I, h3⟩
end
end Mp

set_option Elab.async false
set_option linter.all false
set_option maxRecDepth 100000
set_option maxHeartbeats 1000000
/-! Mp, part E: comparisons, on; subscripts; types; truth. -/
namespace Mp
open PySem L2
section
variable {X : Cx}
theorem ltB_case {S : Sto} {x y : Val} {b : Bool} (h : ltB S x y = some b) : (∃ i j, x = .int i ∧ y = .int j ∧ b = decide (i < j)) ∨
    ∃ d e, lay S x = some d ∧ lay S y = some e ∧ PySem.W.alike d e = true ∧ d ≠ .none ∧ b = PySem.W.dataLt d e := by
  unfold ltB at h
  split at h
  · cases h; exact .inl ⟨_, _, rfl, rfl, rfl⟩
  · split at h
    · rename_i d e h1 h2
      split at h
      · rename_i hc
        cases h
        rw [Bool.and_eq_true] at hc
        refine .inr ⟨d, e, h1, h2, hc.1, ?_, rfl⟩
        rintro rfl
        exact absurd hc.2 (by simp [notNone])
      · cases h
    · cases h
theorem op_ltM {k : Nat} (hr : Room k X.A) : OpR X (compareOp .Lt) (r2 (Cxkw X) (cop .lt)) := by
  intro pins s σ H xv yv u1 u2 Q I rx ry h
  obtain ⟨m, S, x, y, v, S', rs, hx, hy, e, f⟩ := h
  simp only [cop] at e
  obtain ⟨e, rfl⟩ := R.of_ok e
  obtain ⟨b, eb, rfl⟩ := Option.map_eq_some_iff.mp e
  have fb : Q (.bl b) H := f.self rs (by simp only [RV])
  rcases ltB_case eb with ⟨i, j, rfl, rfl, rfl⟩ | ⟨d1, d2, e1, e2, al, nn, rfl⟩
  · simp only [RV] at hx hy; subst hx; subst hy
    exact op_lt pins s σ H _ _ _ _ Q I rx ry ⟨i, j, rfl, rfl, fb⟩
  · obtain ⟨p1, s1⟩ := lay_ok rs e1 hx
    obtain ⟨p2, s2⟩ := lay_ok rs e2 hy
    obtain ⟨as, q1⟩ := Dp.reads I d1 _ _ p1 rx
    obtain ⟨bs, q2⟩ := Dp.reads I d2 _ _ p2 ry
    have hdep : X.A.units + min d1.depth d2.depth < cLine := by
      have h1 := SeqAt.depth_of_shaped s1
      have h2 := hr.units
      have h3 := Nat.min_le_left d1.depth d2.depth
      omega
    exact PySem.W.rcLt_alike d1 d2 X.A s _ _ as bs q1 q2 al nn hdep _ _ _ _ ⟨.bl _, H, I, rfl, fb⟩
theorem op_isM : OpR X (compareOp .Is) (r2 (Cxkw X) (cop .is)) := by
  intro pins s σ H xv yv u1 u2 Q I rx ry h
  obtain ⟨m, S, x, y, v, S', rs, hx, hy, e, f⟩ := h
  simp only [cop] at e
  split at e
  · cases e
    simp only [RV] at hx hy; subst hx; subst hy
    exact op_isN pins s σ H _ _ _ _ Q I rx ry ⟨rfl, f.self rs (by simp only [RV]; rfl)⟩
  · rename_i nn
    cases e
    simp only [RV] at hy; subst hy
    refine op_isN pins s σ H _ _ _ _ Q I rx ry ⟨rfl, f.self rs ?_⟩
    simp only [RV]
    rw [decide_eq_false]
    rintro rfl
    cases x with
    | non => exact nn rfl
    | bl b => simp only [RV] at hx; cases hx
    | int b => simp only [RV] at hx; cases hx
    | str b => simp only [RV] at hx; cases hx
    | tup b => simp only [RV] at hx; obtain ⟨_, _, z, _⟩ := hx; cases z
    | fl b => simp only [RV] at hx; obtain ⟨_, _, z, _⟩ := hx; cases z
    | rng b c => simp only [RV] at hx; obtain ⟨_, z, _⟩ := hx; cases z
    | ref b => simp only [RV] at hx; obtain ⟨_, z, _⟩ := hx; cases z
  · rename_i a b
    cases e
    simp only [RV] at hx hy; subst hx; subst hy
    refine op_isBl pins s σ H _ _ _ _ Q I rx ry ⟨a, b, rfl, rfl, f.self rs ?_⟩
    simp only [RV]
    cases a <;> cases b <;> rfl
  · cases e
theorem op_nisM : OpR X (compareOp .IsNot) (r2 (Cxkw X) (cop .nis)) := by
  intro pins s σ H xv yv u1 u2 Q I rx ry h
  obtain ⟨m, S, x, y, v, S', rs, hx, hy, e, f⟩ := h
  simp only [cop] at e
  split at e
  · cases e
    simp only [RV] at hx hy; subst hx; subst hy
    exact op_notN pins s σ H _ _ _ _ Q I rx ry ⟨rfl, f.self rs (by simp only [RV]; rfl)⟩
  · rename_i nn
    cases e
    simp only [RV] at hy; subst hy
    refine op_notN pins s σ H _ _ _ _ Q I rx ry ⟨rfl, f.self rs ?_⟩
    simp only [RV]
    rw [decide_eq_false]
    · rfl
    rintro rfl
    cases x with
    | non => exact nn rfl
    | bl b => simp only [RV] at hx; cases hx
    | int b => simp only [RV] at hx; cases hx
    | str b => simp only [RV] at hx; cases hx
    | tup b => simp only [RV] at hx; obtain ⟨_, _, z, _⟩ := hx; cases z
    | fl b => simp only [RV] at hx; obtain ⟨_, _, z, _⟩ := hx; cases z
    | rng b c => simp only [RV] at hx; obtain ⟨_, z, _⟩ := hx; cases z
    | ref b => simp only [RV] at hx; obtain ⟨_, z, _⟩ := hx; cases z
  · rename_i a b
    cases e
    simp only [RV] at hx hy; subst hx; subst hy
    refine op_notBl pins s σ H _ _ _ _ Q I rx ry ⟨a, b, rfl, rfl, f.self rs ?_⟩
    simp only [RV]
    cases a <;> cases b <;> rfl
  · cases e

/-! ### in -/
theorem memB_case {S : Sto} {x : Val} {ys : List Val} {b : Bool} (h : memB S x ys = some b) : ∃ d es, dat S deep x = some d ∧ optAll (dat S deep) ys = some es ∧ b = es.any fun z => PyData.eqv z d := by
  unfold memB at h
  split at h
  · rename_i d es h1 h2
    cases h
    exact ⟨d, es, h1, h2, rfl⟩
  · cases h
theorem room_mem {k : Nat} {S : Sto} {x : Val} {d : PyData} {n : Nat} (hr : Room k X.A) (e : dat S deep x = some d) : X.A.units + 1 + min n d.depth < cLine := by
  have h1 := depth_le _ _ _ e
  have h2 : deep = 12 := rfl
  have := hr.un
  omega
theorem keyI_of {x : Val} {i : Int} (h : keyI x = some i) : x = .int i := by
  cases x <;> simp only [keyI] at h <;> cases h
  rfl
theorem mem_case {S S' : Sto} {x y v : Val} (neg : Bool) (h : cop (if neg then .nmem else .mem) x y S = .ok v S') : S' = S ∧
    ((∃ ys b, (y = .tup ys ∨ ∃ r, y = .ref r ∧ S.lst r = some ys) ∧ memB S x ys = some b ∧ v = .bl (if neg then !b else b)) ∨
      (∃ r kvs, y = .ref r ∧ (S.get r = some (.dct kvs) ∨ S.get r = some (.ldc kvs)) ∧ dkey x = true ∧ v = .bl (if neg then !(dget x kvs).isSome else (dget x kvs).isSome)) ∨
      ∃ r kvs i, y = .ref r ∧ S.get r = some (.dci kvs) ∧ x = .int i ∧ v = .bl (if neg then !(iget i kvs).isSome else (iget i kvs).isSome)) := by
  cases neg with
  | false =>
    simp only [Bool.false_eq_true, if_false, cop] at h
    split at h
    · rename_i ys
      obtain ⟨h, rfl⟩ := R.of_ok h
      obtain ⟨b, eb, rfl⟩ := Option.map_eq_some_iff.mp h
      exact ⟨rfl, .inl ⟨ys, b, .inl rfl, eb, rfl⟩⟩
    · rename_i r
      split at h
      · rename_i ys hg
        obtain ⟨h, rfl⟩ := R.of_ok h
        obtain ⟨b, eb, rfl⟩ := Option.map_eq_some_iff.mp h
        exact ⟨rfl, .inl ⟨ys, b, .inr ⟨r, rfl, by unfold Sto.lst; rw [hg]⟩, eb, rfl⟩⟩
      · rename_i kvs hg
        split at h
        · rename_i hk
          cases h; exact ⟨rfl, .inr (.inl ⟨r, kvs, rfl, .inl hg, hk, rfl⟩)⟩
        · cases h
      · rename_i kvs hg
        split at h
        · rename_i hk
          cases h; exact ⟨rfl, .inr (.inl ⟨r, kvs, rfl, .inr hg, hk, rfl⟩)⟩
        · cases h
      · rename_i kvs hg
        obtain ⟨h9, h8⟩ := R.of_ok h
        obtain ⟨i, ei, rfl⟩ := Option.map_eq_some_iff.mp h9
        exact ⟨h8, .inr (.inr ⟨r, kvs, i, rfl, hg, keyI_of ei, rfl⟩)⟩
      · cases h
    · cases h
  | true =>
    simp only [if_true, cop] at h
    split at h
    · rename_i ys
      obtain ⟨h, rfl⟩ := R.of_ok h
      obtain ⟨b, eb, rfl⟩ := Option.map_eq_some_iff.mp h
      exact ⟨rfl, .inl ⟨ys, b, .inl rfl, eb, rfl⟩⟩
    · rename_i r
      split at h
      · rename_i ys hg
        obtain ⟨h, rfl⟩ := R.of_ok h
        obtain ⟨b, eb, rfl⟩ := Option.map_eq_some_iff.mp h
        exact ⟨rfl, .inl ⟨ys, b, .inr ⟨r, rfl, by unfold Sto.lst; rw [hg]⟩, eb, rfl⟩⟩
      · rename_i kvs hg
        split at h
        · rename_i hk
          cases h; exact ⟨rfl, .inr (.inl ⟨r, kvs, rfl, .inl hg, hk, rfl⟩)⟩
        · cases h
      · rename_i kvs hg
        split at h
        · rename_i hk
          cases h; exact ⟨rfl, .inr (.inl ⟨r, kvs, rfl, .inr hg, hk, rfl⟩)⟩
        · cases h
      · rename_i kvs hg
        obtain ⟨h9, h8⟩ := R.of_ok h
        obtain ⟨i, ei, rfl⟩ := Option.map_eq_some_iff.mp h9
        exact ⟨h8, .inr (.inr ⟨r, kvs, i, rfl, hg, keyI_of ei, rfl⟩)⟩
      · cases h
    · cases h
theorem room65 {k : Nat} (hr : Room k X.A) : X.A.units + 65 < cLine := by have := hr.un; omega
theorem room9 {k : Nat} (hr : Room k X.A) : (nestedKind X.prog X.w).room X.A.in1 := by
  have := hr.un
  show X.A.in1.units + 8 < cLine
  rw [Around.in1_units]
  omega
theorem get_some {K : Kw} {m : List Addr} {H : Hp} {k : Val} {kvs : List (Val × Val)} {xs : List (NestedKey × Addr × Value)} (hk : dkey k = true) (rd : RD K m H kvs xs) : (atKey xs (keyN k)).isSome = (dget k kvs).isSome := by
  have := rd.get hk
  cases e : dget k kvs with
  | none => rw [e] at this; dsimp only at this; rw [this]; rfl
  | some v =>
    rw [e] at this
    obtain ⟨p, vv, h, _⟩ := this
    rw [h]; rfl
theorem dct_any {pins : List (Addr × Obj)} {σ : L2.St} {H : Hp} {s : Shared} {m : List Addr} {S : Sto} {r : Nat} {a : Addr} {kvs : List (Val × Val)} (I : Inv X pins σ H s) (rs : RS (Cxkw X) m H S) (h1 : m[r]? = some a) (hg : S.get r = some (.dct kvs) ∨ S.get r = some (.ldc kvs)) :
    ∃ xs, RD (Cxkw X) m H kvs xs ∧ (a == sysModules) = false ∧ xs.length ≤ sizeLine ∧ (xs.map (·.1)).Nodup ∧ s.heap.DictOfH (nestedKind X.prog X.w) a xs := by
  rcases hg with hg | hg
  · obtain ⟨b, hb, xs, hH, rd⟩ := rs.at hg
    rw [h1] at hb; cases hb
    exact ⟨xs, rd, dct_of I hH rd⟩
  · obtain ⟨b, hb, xs, o, es, ep, hH, _, _, _, _, rd⟩ := rs.at hg
    rw [h1] at hb; cases hb
    exact ⟨xs, rd, dct_ofL I hH rd⟩
theorem is_int {P : Program} {w : World} (i : Int) (t : Tok) : (intKind P w).is i (.int i t) = true := by simp [intKind, Value.isInt]
theorem op_memM {k : Nat} (hr : Room k X.A) : OpR X (compareOp .In) (r2 (Cxkw X) (cop .mem)) := by
  intro pins s σ H xv yv u1 u2 Q I rx ry h
  obtain ⟨m, S, x, y, v, S', rs, hx, hy, e, f⟩ := h
  obtain ⟨rfl, hc⟩ := mem_case false e
  rcases hc with ⟨ys, b, hs, eb, rfl⟩ | ⟨r, kvs, rfl, hg, hk, rfl⟩ | ⟨r, kvs, i, rfl, hg, rfl, rfl⟩
  · obtain ⟨d, es, l1, l2, rfl⟩ := memB_case eb
    obtain ⟨as, q1⟩ := Dp.reads I d _ _ (dp_of rs deep _ _ _ l1 hx) rx
    have w2 := plainAll_of (dat_plain deep) _ _ l2
    have s1 := dat_plain _ _ _ l1
    have fb := f.self rs (z := .bl (es.any fun z => PyData.eqv z d)) (by simp only [RV]; rfl)
    rcases hs with rfl | ⟨r, rfl, hl⟩
    · simp only [RV] at hy
      obtain ⟨a, vs, rfl, h1, h2⟩ := hy
      have w1 := dp_all (dp_of rs deep) _ _ _ l2 h2
      obtain ⟨bs, q2⟩ := Dp.reads I (.tuple es) _ _ (.tup h1 w1) ry
      exact SeqAt.in_tuple_data q2 q1 w2 s1 (room_mem hr l1) ⟨.bl _, H, I, rfl, fb⟩
    · simp only [RV] at hy
      obtain ⟨a, rfl, h1⟩ := hy
      obtain ⟨vs, h3, h2⟩ := rs.list hl h1
      have w1 := dp_all (dp_of rs deep) _ _ _ l2 h2
      obtain ⟨bs, q2⟩ := Dp.reads I (.list es) _ _ (.lst (SqL.of h3) w1) ry
      exact SeqAt.in_list_data q2 q1 w2 s1 (room_mem hr l1) ⟨.bl _, H, I, rfl, fb⟩
  · simp only [RV] at hy
    obtain ⟨a, rfl, h1⟩ := hy
    obtain ⟨xs, rd, q1, q2, q3, q4⟩ := dct_any I rs h1 hg
    obtain ⟨ka, rfl⟩ := key_ref hk hx
    obtain rfl : u1 = Value.ref ka := rx
    obtain rfl : u2 = Value.ref a := ry
    refine wpAny_in_heap (room9 hr) (key_is I hk hx) q1 q4 ⟨.bl _, H, I.tok _, rfl, ?_⟩
    rw [get_some hk rd]
    exact f.self rs (by simp only [RV]; rfl)
  · simp only [RV] at hx hy
    subst hx
    obtain ⟨a, rfl, h1⟩ := hy
    obtain ⟨b, hb, xs, hH, rd⟩ := rs.at hg
    rw [h1] at hb; cases hb
    obtain ⟨t, rfl⟩ : ∃ t, u1 = Value.int i t := rx
    obtain rfl : u2 = Value.ref a := ry
    obtain ⟨q1, q2, q4⟩ := dci_of I hH
    refine wpAny_in_of (knd := intKind X.prog X.w) (k := i) (is_int i t) q1 q4.mapOf ⟨.bl _, H, I.tok _, rfl, ?_⟩
    rw [rd.isSome]
    exact f.self rs (by simp only [RV]; rfl)
theorem op_nmemM {k : Nat} (hr : Room k X.A) : OpR X (compareOp .NotIn) (r2 (Cxkw X) (cop .nmem)) := by
  intro pins s σ H xv yv u1 u2 Q I rx ry h
  obtain ⟨m, S, x, y, v, S', rs, hx, hy, e, f⟩ := h
  obtain ⟨rfl, hc⟩ := mem_case true e
  rcases hc with ⟨ys, b, hs, eb, rfl⟩ | ⟨r, kvs, rfl, hg, hk, rfl⟩ | ⟨r, kvs, i, rfl, hg, rfl, rfl⟩
  · obtain ⟨d, es, l1, l2, rfl⟩ := memB_case eb
    obtain ⟨as, q1⟩ := Dp.reads I d _ _ (dp_of rs deep _ _ _ l1 hx) rx
    have w2 := plainAll_of (dat_plain deep) _ _ l2
    have s1 := dat_plain _ _ _ l1
    have fb := f.self rs (z := .bl (!es.any fun z => PyData.eqv z d)) (by simp only [RV]; rfl)
    rcases hs with rfl | ⟨r, rfl, hl⟩
    · simp only [RV] at hy
      obtain ⟨a, vs, rfl, h1, h2⟩ := hy
      have w1 := dp_all (dp_of rs deep) _ _ _ l2 h2
      obtain ⟨bs, q2⟩ := Dp.reads I (.tuple es) _ _ (.tup h1 w1) ry
      exact SeqAt.notIn_tuple_data q2 q1 w2 s1 (room_mem hr l1) ⟨.bl _, H, I, rfl, fb⟩
    · simp only [RV] at hy
      obtain ⟨a, rfl, h1⟩ := hy
      obtain ⟨vs, h3, h2⟩ := rs.list hl h1
      have w1 := dp_all (dp_of rs deep) _ _ _ l2 h2
      obtain ⟨bs, q2⟩ := Dp.reads I (.list es) _ _ (.lst (SqL.of h3) w1) ry
      exact SeqAt.notIn_list_data q2 q1 w2 s1 (room_mem hr l1) ⟨.bl _, H, I, rfl, fb⟩
  · simp only [RV] at hy
    obtain ⟨a, rfl, h1⟩ := hy
    obtain ⟨xs, rd, q1, q2, q3, q4⟩ := dct_any I rs h1 hg
    obtain ⟨ka, rfl⟩ := key_ref hk hx
    obtain rfl : u1 = Value.ref ka := rx
    obtain rfl : u2 = Value.ref a := ry
    refine PyProof.Rows.wpAny_notIn_heap (room9 hr) (key_is I hk hx) q1 q4 ⟨.bl _, H, I.tok _, rfl, ?_⟩
    rw [get_some hk rd]
    exact f.self rs (by simp only [RV]; rfl)
  · simp only [RV] at hx hy
    subst hx
    obtain ⟨a, rfl, h1⟩ := hy
    obtain ⟨b, hb, xs, hH, rd⟩ := rs.at hg
    rw [h1] at hb; cases hb
    obtain ⟨t, rfl⟩ : ∃ t, u1 = Value.int i t := rx
    obtain rfl : u2 = Value.ref a := ry
    obtain ⟨q1, q2, q4⟩ := dci_of I hH
    refine wpAny_notIn_of (knd := intKind X.prog X.w) (k := i) (is_int i t) q1 q4.mapOf ⟨.bl _, H, I.tok _, rfl, ?_⟩
    rw [rd.isSome]
    exact f.self rs (by simp only [RV]; rfl)

/-! ### subscripts -/
theorem ixM {k : Nat} (hr : Room k X.A) : IxR X (r2 (Cxkw X) getIx) := by
  intro value slice pins s σ H xv yv u1 u2 Q I rx ry h hsub
  obtain ⟨m, S, x, y, v, S', rs, hx, hy, e, f⟩ := h
  have at_ : ∀ {xs : List Val} {vs : List V} {k : Int} {z : Val}, itemAt xs k = some z → RVs (Cxkw X) m H xs vs → ∃ w, atI vs k = some w ∧ RV (Cxkw X) m H z w := by
    intro xs vs k z hk hv
    unfold itemAt at hk
    unfold atI at hk ⊢
    rw [hv.length] at hk
    obtain ⟨j, e1, e2⟩ := Option.bind_eq_some_iff.mp hk
    obtain ⟨w, w1, w2⟩ := hv.get e2
    exact ⟨w, by rw [e1]; exact w1, w2⟩
  have byKey : ∀ {r : Nat} {kvs : List (Val × Val)}, (S.get r = some (.dct kvs) ∨ S.get r = some (.ldc kvs)) → RV (Cxkw X) m H (.ref r) xv → dkey y = true → R.of (dget y kvs) S = .ok v S' → wpAny (model X.prog X.w) X.A (PyProof.Rows.subscriptTail value slice u1 u2) (EP X pins σ Q) X.xe s := by
    intro r kvs hg hx hk e
    obtain ⟨e9, rfl⟩ := R.of_ok e
    simp only [RV] at hx
    obtain ⟨a, rfl, h1⟩ := hx
    obtain ⟨xs, rd, q1, q2, q3, q4⟩ := dct_any I rs h1 hg
    obtain ⟨ka, rfl⟩ := key_ref hk hy
    obtain rfl : u2 = Value.ref ka := ry
    obtain rfl : u1 = Value.ref a := rx
    have hg2 := rd.get hk
    rw [e9] at hg2
    obtain ⟨p, vv, p1, p2, p3⟩ := hg2
    exact PyProof.Rows.subscriptTail_builtinR (x := p.2) q4.typeIs PySem.F.slot_dict_getitem.lookup (wpAny_getItem_heap (Q := fun r s' => r = p.2 ∧ EP X pins σ Q r s') (room9 hr) (key_is I hk hy) q4 p1 ⟨rfl, vv, H, I.tok _, p3, f.self rs p2⟩) hsub
  unfold getIx at e
  split at e
  · rename_i xs k
    obtain ⟨e9, rfl⟩ := R.of_ok e
    simp only [RV] at hx hy
    subst hy
    obtain ⟨a, vs, rfl, h1, h2⟩ := hx
    obtain ⟨w, w1, w2⟩ := at_ e9 h2
    exact ix_tup value slice pins s σ H _ _ _ _ Q I rx ry ⟨a, vs, k, w, rfl, rfl, h1, w1, f.self rs w2⟩ hsub
  · rename_i xs k
    obtain ⟨e9, rfl⟩ := R.of_ok e
    simp only [RV] at hx hy
    subst hy
    obtain ⟨a, vs, rfl, h1, h2⟩ := hx
    obtain ⟨w, w1, w2⟩ := at_ e9 h2
    exact ix_list value slice pins s σ H _ _ _ _ Q I rx ry ⟨a, vs, k, w, rfl, rfl, h1.sq, w1, f.self rs w2⟩ hsub
  · rename_i r i
    split at e
    · rename_i xs k hg
      obtain ⟨e9, rfl⟩ := R.of_ok e
      simp only [RV] at hx hy
      subst hy
      obtain ⟨a, rfl, h1⟩ := hx
      obtain ⟨vs, h3, h2⟩ := rs.list (by unfold Sto.lst; rw [hg]) h1
      obtain ⟨w, w1, w2⟩ := at_ e9 h2
      exact ix_list value slice pins s σ H _ _ _ _ Q I rx ry ⟨a, vs, k, w, rfl, rfl, SqL.of h3, w1, f.self rs w2⟩ hsub
    · rename_i kvs hg
      split at e
      · rename_i hk
        exact byKey (.inl hg) hx hk e
      · cases e
    · rename_i kvs hg
      split at e
      · rename_i hk
        exact byKey (.inr hg) hx hk e
      · cases e
    · rename_i kvs hg
      obtain ⟨e8, rfl⟩ := R.of_ok e
      obtain ⟨i, ei, e9⟩ := Option.bind_eq_some_iff.mp e8
      clear e8 e
      have := keyI_of ei; subst this
      simp only [RV] at hx hy
      subst hy
      obtain ⟨a, rfl, h1⟩ := hx
      obtain ⟨b, hb, xs, hH, rd⟩ := rs.at hg
      rw [h1] at hb; cases hb
      obtain ⟨t, rfl⟩ : ∃ t, u2 = Value.int i t := ry
      obtain rfl : u1 = Value.ref a := rx
      obtain ⟨q1, q2, q4⟩ := dci_of I hH
      have hg2 := rd.get (k := i)
      rw [e9] at hg2
      obtain ⟨u, vv, p1, p2, p3⟩ := hg2
      exact PyProof.Rows.subscriptTail_builtinR (x := u) q4.typeIs PySem.F.slot_dict_getitem.lookup (wpAny_getItem_of (Q := fun r s' => r = u ∧ EP X pins σ Q r s') (is_int i t) q4.mapOf p1 ⟨rfl, vv, H, I.tok _, p3, f.self rs p2⟩) hsub
    · cases e
  · cases e
def rSlM (K : Kw) : V → Option Int → Option Int → Hp → VK → Prop := fun xv lo hi H Q => ∃ m S x v S', RS K m H S ∧ RV K m H x xv ∧ getSl x (some lo) (some hi) S = .ok v S' ∧ Fin K m H v S' Q
theorem slM : SlR X (rSlM (Cxkw X)) := by
  intro pins s σ H xv u vl vu lo hi sl Q I rx hs pl pu h
  obtain ⟨m, S, x, v, S', rs, hx, e, f⟩ := h
  unfold getSl at e
  dsimp only at e
  cases x with
  | tup xs =>
    dsimp only at e
    cases e
    have hx2 := hx
    simp only [RV] at hx
    obtain ⟨a, vs, rfl, h1, h2⟩ := hx
    refine sl_tupA pins s σ H _ u vl vu lo hi sl Q I rx hs pl pu ⟨a, vs, rfl, h1, fun hw => ?_, fun hw => ?_⟩
    · have hc : cut xs lo hi = xs := by
        unfold cut
        rw [h2.length, hw.1, hw.2, ← h2.length]
        simp
      rw [hc] at f
      exact f.self rs hx2
    · exact f.tup rs (h2.cut lo hi)
  | fl xs =>
    dsimp only at e
    cases e
    simp only [RV] at hx
    obtain ⟨a, vs, rfl, h1, h2⟩ := hx
    exact sl_list pins s σ H _ u vl vu lo hi sl Q I rx hs pl pu ⟨a, vs, rfl, h1.sq, f.new rs (h2.cut lo hi)⟩
  | ref r =>
    dsimp only at e
    split at e
    · rename_i xs hl
      cases e
      simp only [RV] at hx
      obtain ⟨a, rfl, h1⟩ := hx
      obtain ⟨vs, h3, h2⟩ := rs.list hl h1
      exact sl_list pins s σ H _ u vl vu lo hi sl Q I rx hs pl pu ⟨a, vs, rfl, SqL.of h3, f.new rs (h2.cut lo hi)⟩
    · cases e
  | _ => cases e
/-- o[i] = v -/
def rSetM (K : Kw) : V → V → V → Hp → (Hp → Prop) → Prop := fun ov iv xv H Q => ∃ m S o i x S', RS K m H S ∧ RV K m H o ov ∧ RV K m H i iv ∧ RV K m H x xv ∧ setIx o i x S = .ok () S' ∧ Aft K m H S' fun _ H2 => Q H2
theorem setM {k : Nat} (hr : Room k X.A) : PSet X (rSetM (Cxkw X)) := by
  intro pins s σ H ov iv xv uo ui u Q I ro ri rx h
  obtain ⟨m, S, o, i, x, S', rs, ho, hi, hx, e, f⟩ := h
  cases o with
  | ref r =>
    simp only [setIx] at e
    cases hg : S.get r with
    | none => rw [hg] at e; cases i <;> cases e
    | some ob =>
      cases ob with
      | lst xs =>
        rw [hg] at e
        cases i with
        | int k =>
          dsimp only at e
          split at e
          · rename_i j hj
            cases e
            simp only [RV] at ho hi
            subst hi
            obtain ⟨a, rfl, h1⟩ := ho
            have hl : S.lst r = some xs := by unfold Sto.lst; rw [hg]
            obtain ⟨vs, h3, h2⟩ := rs.list hl h1
            unfold place at hj
            rw [h2.length] at hj
            obtain ⟨w1, w2⟩ := rs.put (ys := xs.set j x) (vs := vs.set j xv) hl h1 (h2.set j hx)
            exact set_list pins s σ H _ _ _ _ _ _ Q I ro ri rx ⟨a, vs, k, j, rfl, rfl, h3, hj, f _ _ w2 w1⟩
          · cases e
        | _ => cases e
      | dct kvs =>
        have e2 : (if dkey i && decide (kvs.length < cap) then R.ok () (S.put r (.dct (dput i x kvs))) else .err) = .ok () S' := by
          rw [hg] at e
          cases i <;> exact e
        split at e2
        · rename_i hc
          cases e2
          simp only [Bool.and_eq_true, decide_eq_true_eq] at hc
          obtain ⟨hk, hl⟩ := hc
          simp only [RV] at ho
          obtain ⟨a, rfl, h1⟩ := ho
          obtain ⟨b, hb, xs, hH, rd⟩ := rs.at hg
          rw [h1] at hb; cases hb
          obtain ⟨ka, rfl⟩ := key_ref hk hi
          obtain rfl : ui = Value.ref ka := ri
          obtain rfl : uo = Value.ref a := ro
          obtain ⟨q1, q2, q3, q4⟩ := dct_of I hH rd
          refine wpAny_setItem_heap (hsz := q2) (room9 hr) (key_is I hk hi) q4 fun h' dd hs => ?_
          have rd2 := rd.put hk hi hx rx q3
          have hl2 : (storedH xs (keyN i) ka u).length ≤ sizeLine := by
            have := dput_len i x kvs
            have := rd2.length
            have := cap_line (n := (dput i x kvs).length) (by omega)
            omega
          refine ⟨_, d_write (ob := .ext (DctP X.w a (storedH xs (keyN i) ka u))) I (by rw [hH]; exact True.intro) hs (let ⟨q, _, _, hq, _⟩ := dd; ⟨q, hq⟩) (dct_ok q1 hl2 dd), ?_⟩
          have kk : Keeps H (upd H a (.ext (DctP X.w a (storedH xs (keyN i) ka u)))) := fun b o z n => by
            rw [upd_ne]
            · exact z
            · rintro rfl
              rw [hH] at z; cases z
              exact n trivial
          obtain ⟨w1, w2⟩ := rs.putO (o2 := .dct (dput i x kvs)) (u := .ext (DctP X.w a (storedH xs (keyN i) ka u))) hg h1 (fun ob φ z => by rw [hH] at z; cases z) ⟨_, upd_same, RD.monoK ⟨[], by simp⟩ kk _ _ rd2⟩
          exact f _ _ w2 w1
        · cases e2
      | ldc kvs =>
        rw [hg] at e
        cases i <;> cases e
      | ldi kvs =>
        rw [hg] at e
        cases i <;> cases e
      | dci kvs =>
        have e2 : (match keyI i with
            | some j => if decide (kvs.length < cap) then R.ok () (S.put r (.dci (iput j x kvs))) else .err
            | none => .err) = .ok () S' := by
          rw [hg] at e
          cases i <;> exact e
        split at e2
        · rename_i j hj
          split at e2
          · rename_i hl
            cases e2
            have := keyI_of hj; subst this
            simp only [decide_eq_true_eq] at hl
            simp only [RV] at ho hi
            subst hi
            obtain ⟨a, rfl, h1⟩ := ho
            obtain ⟨b, hb, xs, hH, rd⟩ := rs.at hg
            rw [h1] at hb; cases hb
            obtain ⟨t, rfl⟩ : ∃ t, ui = Value.int j t := ri
            obtain rfl : uo = Value.ref a := ro
            obtain ⟨q1, q2, q4⟩ := dci_of I hH
            have q3 := nodup_of q4
            refine wpAny_setItem_pairs (hsz := q2) (is_int j t) q4 fun h' dd hs => ?_
            have rd2 := rd.put (k := j) hx rx q3
            have hl2 : (stored xs j u).length ≤ sizeLine := by
              have := iput_len j x kvs
              have := rd2.length
              have := cap_line (n := (iput j x kvs).length) (by omega)
              omega
            refine ⟨_, d_write (ob := .ext (DciP X.prog X.w a (stored xs j u))) I (by rw [hH]; exact True.intro) hs (let ⟨q, _, _, hq, _⟩ := dd; ⟨q, hq⟩) (dci_ok q1 hl2 dd), ?_⟩
            have kk : Keeps H (upd H a (.ext (DciP X.prog X.w a (stored xs j u)))) := fun b o z n => by
              rw [upd_ne]
              · exact z
              · rintro rfl
                rw [hH] at z; cases z
                exact n trivial
            obtain ⟨w1, w2⟩ := rs.putO (o2 := .dci (iput j x kvs)) (u := .ext (DciP X.prog X.w a (stored xs j u))) hg h1 (fun ob φ z => by rw [hH] at z; cases z) ⟨_, upd_same, RI.monoK ⟨[], by simp⟩ kk _ _ rd2⟩
            exact f _ _ w2 w1
          · cases e2
        · cases e2
  | _ => simp only [setIx] at e; cases e
/-! ### truth -/
theorem tru_of {K : Kw} {m : List Addr} {H : Hp} {S : Sto} {v : Val} {x : V} {b : Bool} (rs : RS K m H S) (h : tru S v = some b) (r : RV K m H v x) : TruV K x H b := by
  cases v with
  | non => simp only [RV] at r; subst r; simp only [tru] at h; cases h; rfl
  | bl c => simp only [RV] at r; subst r; simp only [tru] at h; cases h; rfl
  | int c => simp only [RV] at r; subst r; simp only [tru] at h; cases h; rfl
  | str c =>
    simp only [RV] at r; subst r
    simp only [tru] at h
    split at h
    · rename_i hl
      cases h
      exact ⟨hl, rfl⟩
    · cases h
  | tup xs =>
    simp only [RV] at r; simp only [tru] at h; cases h
    obtain ⟨a, vs, rfl, h1, h2⟩ := r
    refine .inr (.inl ⟨vs, h1, ?_⟩)
    have := h2.length
    cases xs <;> cases vs <;> simp_all
  | fl xs =>
    simp only [RV] at r; simp only [tru] at h; cases h
    obtain ⟨a, vs, rfl, h1, h2⟩ := r
    refine .inl ⟨vs, h1.sq, ?_⟩
    have := h2.length
    cases xs <;> cases vs <;> simp_all
  | rng lo hi => simp only [tru] at h; cases h
  | ref q =>
    simp only [RV] at r; simp only [tru] at h
    obtain ⟨a, rfl, h1⟩ := r
    split at h
    · rename_i xs hg
      cases h
      obtain ⟨vs, h3, h2⟩ := rs.list (by unfold Sto.lst; rw [hg]) h1
      refine .inl ⟨vs, SqL.of h3, ?_⟩
      have := h2.length
      cases xs <;> cases vs <;> simp_all
    · cases h
end
end Mp

set_option Elab.async false
set_option linter.all false
set_option maxRecDepth 100000
set_option maxHeartbeats 2000000
/-! Mp, part E1: walks over dicts: list(d), what sorted(d) collects. -/
namespace Mp
open PySem PySem.Spec PyProof.Rows L2
theorem src_raw {P : Program} {w : World} {d : Addr} {es : Array DictEntry} {ep : Nat} (lo : (d == sysModules) = false) :
    PySem.W.KdlSrc P w "dict" d d es.size (fun i v => ∃ hi : i < es.size, v = es[i].key) (fun h => h.DictRaw d es ep) where
  type := fun s hm => hm.typeIs
  there := fun h hm => by
    obtain ⟨o, ho, _⟩ := hm
    exact ⟨Heap.lt_size ho, Heap.lt_size ho⟩
  keep := fun h h' hm hk => hm.at fun o e => hk d (.inl rfl) o e
  notList := by decide
  notTuple := by decide
  hint := fun A E s Q hm hq => PySem.W.kdl_hint_dict hm.typeIs hq
  iter := fun A s hh hm => by
    have hlt : d < s.heap.objs.size := by
      obtain ⟨o, ho, _⟩ := id hm
      exact Heap.lt_size ho
    exact ⟨_, _, (fun E Q hq => wpAny_pyIter_dict_raw lo hm hq), Walks.rawKeys hh _ d (Nat.ne_of_lt hlt) es ep, ⟨⟨_, Heap.get?_push_size _ rfl, rfl, rfl⟩, hm.at fun o e => Heap.get?_push_of_some _ e⟩⟩
section
variable {X : Cx} {pins : List (Addr × Obj)} {σ : L2.St} {H : Hp} {s : Shared} {m : List Addr}
theorem RD.keys {K : Kw} : ∀ {kvs : List (Val × Val)} {xs : List (NestedKey × Addr × Value)}, RD K m H kvs xs → RVs K m H (kvs.map (·.1)) (xs.map fun x => V.ref x.2.1)
  | [], xs, h => by simp only [RD] at h; subst h; exact RVs.nil
  | p :: r, xs, h => by
    obtain ⟨ka, u, vv, ys, rfl, h1, h2, h3, h4, h5⟩ := h
    exact ⟨_, _, rfl, h2, RD.keys h5⟩
theorem vals_refs : ∀ xs : List (NestedKey × Addr × Value), Vals (xs.map fun x => V.ref x.2.1) (xs.map fun x => Value.ref x.2.1)
  | [] => .nil
  | x :: xs => .cons rfl (vals_refs xs)
theorem dct_raw (I : Inv X pins σ H s) {xs : List (NestedKey × Addr × Value)} {a : Addr} (e : H a = some (.ext (DctP X.w a xs))) :
    (a == sysModules) = false ∧ xs.length ≤ sizeLine ∧ ∃ es ep, s.heap.DictRaw a es ep ∧ es.toList = xs.map (entN X.w) := by
  obtain ⟨⟨h1, h2, h3, o, es, ep, h4, h5, h6, h7⟩, _⟩ := I.hok a _ e
  exact ⟨h1, h2, es, ep, ⟨o, h4, h5, h6⟩, h7⟩
theorem raw_keys {w : World} {xs : List (NestedKey × Addr × Value)} {es : Array DictEntry} {acc : Array Value} (he : es.toList = xs.map (entN w)) (h : ItemsOf (fun i v => ∃ hi : i < es.size, v = es[i].key) acc es.size) : acc.toList = xs.map fun x => Value.ref x.2.1 := by
  apply List.ext_getElem?
  intro i
  have hl : es.size = xs.length := by
    have := congrArg List.length he
    simpa using this
  rw [List.getElem?_map, Array.getElem?_toList]
  by_cases hi : i < acc.size
  · rw [Array.getElem?_eq_getElem hi]
    obtain ⟨h1, h2⟩ := h.2 i _ (Array.getElem?_eq_getElem hi)
    have hx : i < xs.length := by rw [← hl]; exact h1
    rw [h2, List.getElem?_eq_getElem hx]
    have e2 : es.toList[i]? = (xs.map (entN w))[i]? := by rw [he]
    rw [Array.getElem?_toList, Array.getElem?_eq_getElem h1, List.getElem?_map, List.getElem?_eq_getElem hx] at e2
    have e3 := Option.some.inj e2
    rw [e3]
    rfl
  · have h0 := h.1
    rw [Array.getElem?_eq_none (by omega), List.getElem?_eq_none (by omega)]
    rfl
theorem list_dict {kvs : List (Val × Val)} {xs : List (NestedKey × Addr × Value)} {a : Addr} {Q : Value → Shared → Prop} {E : Value → Shared → Prop} (hc : X.calm = true) (I : Inv X pins σ H s) (e : H a = some (.ext (DctP X.w a xs))) (rd : RD (Cxkw X) m H kvs xs)
    (h : ∀ p s', H p = none → ∀ ws, Inv X pins σ (upd H p (.lst ws)) s' → RVs (Cxkw X) m H (kvs.map (·.1)) ws → Q (.ref p) s') : wpAny (model X.prog X.w) X.A (call (.type "list") [.ref a]) Q E s := by
  obtain ⟨q1, q2, es, ep, q3, q4⟩ := dct_raw I e
  have hl : es.size = xs.length := by
    have := congrArg List.length q4
    simpa using this
  refine PySem.W.kdl_call (src_raw q1) (I.ok.hd hc) q3 (by rw [hl]; exact q2) fun h' tk acc c hk hS hacc => ?_
  have ka := raw_keys q4 hacc
  refine h _ _ (I.hok.fresh (Nat.le_refl _)) (xs.map fun x => V.ref x.2.1) (I.laid (a := s.heap.objs.size) (o := .lst (xs.map fun x => V.ref x.2.1)) hk (Nat.le_refl _) ⟨by rw [List.length_map]; exact q2, acc.toList, c, ?_, by simpa using hS⟩) rd.keys
  rw [ka]
  exact vals_refs xs

/-! ### dicts whose keys are numbers -/
theorem dci_raw (I : Inv X pins σ H s) {xs : List (Int × Value)} {a : Addr} (e : H a = some (.ext (DciP X.prog X.w a xs))) :
    (a == sysModules) = false ∧ xs.length ≤ sizeLine ∧ ∃ es ep, s.heap.DictRaw a es ep ∧ Pairs (intKind X.prog X.w) es.toList xs := by
  obtain ⟨⟨h1, h2, o, es, ep, h4, h5, h6, h7, h8, h9⟩, _⟩ := I.hok a _ e
  exact ⟨h1, h2, es, ep, ⟨o, h4, h5, h6⟩, h8⟩
theorem pairs_keys {P : Program} {w : World} : ∀ {es : List DictEntry} {xs : List (Int × Value)}, Pairs (intKind P w) es xs → Vals (xs.map fun x => V.int x.1) (es.map (·.key))
  | _, _, .nil => .nil
  | _, _, .cons h1 h2 t => by
    obtain ⟨tk, e⟩ := Value.isInt_shape h1
    exact .cons ⟨tk, e⟩ (pairs_keys t)
theorem pairs_vals {P : Program} {w : World} : ∀ {es : List DictEntry} {xs : List (Int × Value)}, Pairs (intKind P w) es xs → es.map (·.val) = xs.map (·.2)
  | _, _, .nil => rfl
  | _, _, .cons h1 h2 t => by rw [List.map_cons, List.map_cons, h2, pairs_vals t]
theorem RI.keys {K : Kw} : ∀ {kvs : List (Int × Val)} {xs : List (Int × Value)}, RI K m H kvs xs → RVs K m H (kvs.map fun p => Val.int p.1) (xs.map fun x => V.int x.1)
  | [], xs, h => by simp only [RI] at h; subst h; exact RVs.nil
  | p :: r, xs, h => by
    obtain ⟨u, vv, ys, rfl, h3, h4, h5⟩ := h
    exact ⟨_, _, rfl, by simp only [RV], RI.keys h5⟩
theorem raw_keysG {es : Array DictEntry} {acc : Array Value} (h : ItemsOf (fun i v => ∃ hi : i < es.size, v = es[i].key) acc es.size) : acc.toList = es.toList.map (·.key) := by
  apply List.ext_getElem?
  intro i
  rw [List.getElem?_map, Array.getElem?_toList, Array.getElem?_toList]
  by_cases hi : i < acc.size
  · rw [Array.getElem?_eq_getElem hi]
    obtain ⟨h1, h2⟩ := h.2 i _ (Array.getElem?_eq_getElem hi)
    rw [h2, Array.getElem?_eq_getElem h1]
    rfl
  · have h0 := h.1
    rw [Array.getElem?_eq_none (by omega), Array.getElem?_eq_none (by omega)]
    rfl
theorem list_dci {kvs : List (Int × Val)} {xs : List (Int × Value)} {a : Addr} {Q : Value → Shared → Prop} {E : Value → Shared → Prop} (hc : X.calm = true) (I : Inv X pins σ H s) (e : H a = some (.ext (DciP X.prog X.w a xs))) (rd : RI (Cxkw X) m H kvs xs)
    (h : ∀ p s', H p = none → ∀ ws, Inv X pins σ (upd H p (.lst ws)) s' → RVs (Cxkw X) m H (kvs.map fun p => Val.int p.1) ws → Q (.ref p) s') : wpAny (model X.prog X.w) X.A (call (.type "list") [.ref a]) Q E s := by
  obtain ⟨q1, q2, es, ep, q3, q4⟩ := dci_raw I e
  have hl : es.size = xs.length := by
    have := q4.length
    simpa using this
  refine PySem.W.kdl_call (src_raw q1) (I.ok.hd hc) q3 (by rw [hl]; exact q2) fun h' tk acc c hk hS hacc => ?_
  refine h _ _ (I.hok.fresh (Nat.le_refl _)) (xs.map fun x => V.int x.1) (I.laid (a := s.heap.objs.size) (o := .lst (xs.map fun x => V.int x.1)) hk (Nat.le_refl _) ⟨by rw [List.length_map]; exact q2, acc.toList, c, ?_, by simpa using hS⟩) rd.keys
  rw [raw_keysG hacc]
  exact pairs_keys q4
theorem len_raw {A : Around} {P : Program} {w : World} {a : Addr} {es : Array DictEntry} {ep : Nat} {Q : Value → Shared → Prop} {E : Value → Shared → Prop} (hd : (a == sysModules) = false) (raw : s.heap.DictRaw a es ep) (hl : es.size ≤ sizeLine)
    (h : Q (.int es.size (s.toks + 1)) { s with toks := s.toks + 1 + 1 }) : wpAny (model P w) A (call (.builtin "len") [.ref a]) Q E s := by
  refine PyProof.Rows.call_len_slot (n := (es.size : Int)) raw.typeIs F.slot_dict_len (fun Q' hq => call_len_raw hd raw hq) (by omega) ?_ h
  rw [sizeLine_eq] at hl
  omega

/-! ### sorted -/
theorem ins_mem {α : Type} {le : α → α → Bool} {x y : α} : ∀ {l : List α}, y ∈ insV le x l ↔ y = x ∨ y ∈ l
  | [] => by simp [insV]
  | z :: l => by
    simp only [insV]
    split
    · simp
    · simp [ins_mem (l := l)]
      constructor
      · rintro (h | h | h)
        · exact .inr (.inl h)
        · exact .inl h
        · exact .inr (.inr h)
      · rintro (h | h | h)
        · exact .inr (.inl h)
        · exact .inl h
        · exact .inr (.inr h)
theorem ins_sorted {α : Type} {le : α → α → Bool} (T : PySem.W.TotalLe le) {x : α} : ∀ {l : List α}, l.Pairwise (fun a b => le a b = true) → (insV le x l).Pairwise (fun a b => le a b = true)
  | [], _ => by simp [insV]
  | z :: l, h => by
    rw [List.pairwise_cons] at h
    simp only [insV]
    split
    · rename_i hx
      rw [List.pairwise_cons, List.pairwise_cons]
      refine ⟨fun a ha => ?_, h⟩
      rcases List.mem_cons.mp ha with rfl | ha
      · exact hx
      · exact T.trans _ _ _ hx (h.1 a ha)
    · rename_i hx
      rw [List.pairwise_cons]
      refine ⟨fun a ha => ?_, ins_sorted T h.2⟩
      rcases ins_mem.mp ha with rfl | ha
      · exact (T.total a z).resolve_left hx
      · exact h.1 a ha
theorem ins_filter {α : Type} {le : α → α → Bool} (T : PySem.W.TotalLe le) {x c : α} : ∀ {l : List α}, (insV le x l).filter (PySem.W.sameRank le c) = (x :: l).filter (PySem.W.sameRank le c)
  | [] => by simp [insV]
  | z :: l => by
    simp only [insV]
    split
    · rfl
    · rename_i hx
      rw [List.filter_cons, ins_filter T (l := l), List.filter_cons, List.filter_cons, List.filter_cons]
      cases h1 : PySem.W.sameRank le c z with
      | false => simp
      | true =>
        cases h2 : PySem.W.sameRank le c x with
        | false => simp
        | true =>
          exfalso
          unfold PySem.W.sameRank at h1 h2
          simp only [Bool.and_eq_true] at h1 h2
          exact hx (T.trans _ _ _ h2.2 h1.1)
theorem sort_ok {α : Type} {le : α → α → Bool} (T : PySem.W.TotalLe le) (l : List α) : sortV le l = l.mergeSort le := by
  refine PySem.W.sort_unique T ?_ fun c => ?_
  · induction l with
    | nil => exact .nil
    | cons x l ih => exact ins_sorted T ih
  · induction l with
    | nil => rfl
    | cons x l ih =>
      show (insV le x (sortV le l)).filter _ = _
      rw [ins_filter T, List.filter_cons, List.filter_cons, ih]
mutual
theorem Reads.there {h : Heap} : ∀ {d : PyData} {v : Value} {as : List Addr}, PySem.W.alike d d = true → Reads h v d as → ∀ b ∈ as, b < h.objs.size
  | .none, _, _, _, r => by cases r; intro b hb; cases hb
  | .bool _, _, _, _, r => by cases r; intro b hb; cases hb
  | .int _, _, _, _, r => by cases r; intro b hb; cases hb
  | .str _, _, _, _, r => by cases r; intro b hb; cases hb
  | .list xs, _, _, hal, r => by
    cases r with
    | list h1 h2 h3 h4 =>
      intro b hb
      rcases List.mem_cons.mp hb with rfl | hb
      · exact Heap.lt_size h1
      · exact ReadsAll.there (by simpa [PySem.W.alike] using hal) h4 b hb
  | .tuple xs, _, _, hal, r => by
    cases r with
    | tuple h1 h2 h3 h4 => exact ReadsAll.there (by simpa [PySem.W.alike] using hal) h4
  | .dict _, _, _, hal, _ => absurd hal (by simp [PySem.W.alike])
theorem ReadsAll.there {h : Heap} : ∀ {ds : List PyData} {vs : List Value} {as : List Addr}, PySem.W.alikeAll ds ds = true → ReadsAll h vs ds as → ∀ b ∈ as, b < h.objs.size
  | [], _, _, _, r => by cases r; intro b hb; cases hb
  | d :: ds, _, _, hal, r => by
    cases r with
    | cons h1 h2 =>
      intro b hb
      rcases List.mem_append.mp hb with hb | hb
      · exact Reads.there (PySem.W.alike_all_cons hal).1 h1 b hb
      · exact ReadsAll.there (PySem.W.alike_all_cons hal).2 h2 b hb
end
/-- an item that is sorted: the value, how it lies, its data -/
structure It3 where
  x : Val
  w : V
  d : PyData
def tri : List Val → List V → List PyData → List It3
  | x :: xs, w :: ws, d :: ds => ⟨x, w, d⟩ :: tri xs ws ds
  | _, _, _ => []
theorem alike_of {ds : List PyData} (h : alikeL ds = true) : PySem.W.AllAlike ds := fun d hd e he => by
  have := List.all_eq_true.mp h d hd
  exact List.all_eq_true.mp this e he
theorem sortable_of {ds : List PyData} (h : (ds.all isTup1 || ds.all isFlat) = true) : PySem.W.Sortable ds := by
  rw [Bool.or_eq_true] at h
  rcases h with h | h
  · refine .inl fun d hd => ?_
    have := List.all_eq_true.mp h d hd
    unfold isTup1 at this
    split at this
    · exact ⟨_, _, rfl⟩
    · cases this
  · refine .inr fun d hd => ?_
    have := List.all_eq_true.mp h d hd
    unfold isFlat at this
    split at this
    · cases this
    · cases this
    · rename_i q1 q2
      exact ⟨q1, q2⟩
theorem tri_all {S : Sto} {K : Kw} (rs : RS K m H S) : ∀ {xs : List Val} {ws : List V} {ds : List PyData} {vs : List Value}, optAll (lay S) xs = some ds → RVs K m H xs ws → Vals ws vs →
    (tri xs ws ds).map It3.d = ds ∧ (tri xs ws ds).map (fun t => (t.x, t.d)) = xs.zip ds ∧ (tri xs ws ds).length = xs.length ∧ PySem.W.EachIs (fun v t => RelV t.w v ∧ RV K m H t.x t.w ∧ Dp K H t.w t.d ∧ SeqAt.shaped t.d = true) vs (tri xs ws ds)
  | [], ws, ds, vs, e, r, v => by
    simp only [RVs] at r; subst r
    cases v
    simp only [optAll] at e
    cases e
    exact ⟨rfl, rfl, rfl, .nil⟩
  | x :: xs, ws, ds, vs, e, r, v => by
    simp only [RVs] at r
    obtain ⟨w, ws, rfl, r1, r2⟩ := r
    simp only [optAll] at e
    split at e
    · rename_i d hd
      split at e
      · rename_i ds2 hds
        cases e
        cases v with
        | cons v1 v2 =>
          obtain ⟨a1, a2, a3, a4⟩ := tri_all rs hds r2 v2
          obtain ⟨l1, l2⟩ := lay_ok rs hd r1
          simp only [tri, List.map_cons, a1, a2, List.zip_cons_cons, List.length_cons, a3, true_and]
          exact .cons ⟨v1, r1, l1, l2⟩ a4
      · cases e
    · cases e
theorem each_out {K : Kw} : ∀ {out : List Value} {bs : List It3}, PySem.W.EachIs (fun v t => RelV t.w v ∧ RV K m H t.x t.w ∧ Dp K H t.w t.d ∧ SeqAt.shaped t.d = true) out bs → Vals (bs.map It3.w) out ∧ RVs K m H (bs.map It3.x) (bs.map It3.w)
  | _, _, .nil => ⟨.nil, RVs.nil⟩
  | _, _, .cons h t => by
    obtain ⟨a1, a2⟩ := each_out t
    exact ⟨.cons h.1 a1, ⟨_, _, rfl, h.2.1, a2⟩⟩
theorem each_mem {α β : Type} {R : α → β → Prop} : ∀ {as : List α} {bs : List β}, PySem.W.EachIs R as bs → ∀ b ∈ bs, ∃ a, R a b
  | _, _, .nil, b, hb => by cases hb
  | _, _, .cons h t, b, hb => by
    rcases List.mem_cons.mp hb with rfl | hb
    · exact ⟨_, h⟩
    · exact each_mem t b hb
theorem each_and {α β : Type} {R R2 : α → β → Prop} : ∀ {as : List α} {bs : List β}, PySem.W.EachIs R as bs → (∀ a b, b ∈ bs → R a b → R2 a b) → PySem.W.EachIs R2 as bs
  | _, _, .nil, _ => .nil
  | _, _, .cons h t, f => .cons (f _ _ (List.mem_cons_self ..) h) (each_and t fun a b hb q => f a b (List.mem_cons_of_mem _ hb) q)
/-- sorted(..) of what is collected as vs -/
theorem sorted_of {k : Nat} {u : Value} {ws : List V} {vs : List Value} {S : Sto} {xs ys : List Val} {Q : Value → Shared → Prop} {E : Value → Shared → Prop} (hr : Room k X.A) (I : Inv X pins σ H s) (rs : RS (Cxkw X) m H S) (hx : RVs (Cxkw X) m H xs ws) (rv : Vals ws vs) (hy : sortedV S xs = some ys)
    (hcol : ∀ (R : List Value → Shared → Prop) (E : Value → Shared → Prop), (∀ h' tk, (∀ b o, s.heap.get? b = some o → h'.get? b = some o) → R vs { s with heap := h', toks := tk }) → wpAny (model X.prog X.w) X.A.in1 (collect u) R E s)
    (h : ∀ p s' zs, H p = none → Inv X pins σ (upd H p (.lst zs)) s' → RVs (Cxkw X) m H ys zs → Q (.ref p) s') : wpAny (model X.prog X.w) X.A (call (.builtin "sorted") [u]) Q E s := by
  unfold sortedV at hy
  split at hy
  · rename_i ds hds
    split at hy
    · rename_i hc
      cases hy
      rw [Bool.and_eq_true] at hc
      obtain ⟨hc, hlen⟩ := hc
      unfold sortable at hc
      rw [Bool.and_eq_true] at hc
      have hal := alike_of hc.1
      have hso := sortable_of hc.2
      obtain ⟨t1, t2, t3, t4⟩ := tri_all rs hds hx rv
      have hz : xs.length ≤ sizeLine := cap_line (of_decide_eq_true hlen)
      have hvl : vs.length = xs.length := by rw [t4.length, t3]
      refine PySem.Calls.call_function_entry PyProof.Rows.kind_sorted PyProof.Rows.plain_sorted PyProof.Rows.entry_sorted (PyProof.Rows.args_sorted1 _) ?_
      unfold Builtin.«sorted»
      refine wpAny_bind (m := checkCount "sorted" 1 1 _) (wpAny_pure ?_)
      refine wpAny_bind (hcol _ _ fun h' tk hk => ?_)
      refine wpAny_bind (wpAny_newList ?_ (by rw [hvl]; exact hz))
      have I1 : Inv X pins σ H { s with heap := h', toks := tk } := I.kept hk
      have hat : (h'.push { cls := .type "list", data := .seq vs.toArray }).get? h'.objs.size = some (PyProof.Rows.seqObj "list" vs.toArray 0) := Heap.get?_push_size _ rfl
      have hal2 : PySem.W.AllAlike ((tri xs ws ds).map It3.d) := by rw [t1]; exact hal
      refine wpAny_bind (wpAny_holding (PySem.W.list_sort_data (A := X.A.in1) (s := { s with heap := h'.push { cls := .type "list", data := .seq vs.toArray }, toks := tk }) (bs := tri xs ws ds) (enc := It3.d) hat t4 (each_and t4 fun v t ht q => ?_) hal2 (by rw [t1]; exact hso) (by rw [t3]; exact hz) (fun t ht => ?_) fun out hol hout => ?_))
      · obtain ⟨as, ra⟩ := Dp.reads I1 t.d t.w v q.2.2.1 q.1
        have hd : t.d ∈ (tri xs ws ds).map It3.d := List.mem_map_of_mem ht
        refine ⟨as, PyProof.Rows.Reads.keeps (fun b o z => Heap.get?_push_of_some _ z) ra, fun hm => ?_⟩
        exact absurd (Reads.there (hal2 _ hd _ hd) ra _ hm) (Nat.lt_irrefl _)
      · obtain ⟨v, q⟩ := each_mem t4 t ht
        have := SeqAt.depth_of_shaped q.2.2.2
        have := hr.un
        rw [Around.in1_units]
        omega
      · refine wpAny_pure ⟨_, rfl, ?_⟩
        obtain ⟨o1, o2⟩ := each_out hout
        have hys : ((tri xs ws ds).mergeSort (PySem.W.dataLe false It3.d)).map It3.x = (sortV leP (xs.zip ds)).map (·.1) := by
          have hT : PySem.W.TotalLe leP := PySem.W.sortLe_total (PyProof.Rows.listOrd PyProof.Rows.itemOrd) false fun p : Val × PyData => PySem.W.keyToks p.2
          rw [sort_ok hT, ← t2]
          have := PySem.W.sort_maps (r := PySem.W.dataLe false It3.d) (s := leP) (fun t : It3 => (t.x, t.d)) (l := tri xs ws ds) (fun a _ b _ => rfl)
          show _ = ((List.map (fun t : It3 => (t.x, t.d)) (tri xs ws ds)).mergeSort leP).map _
          rw [← this, List.map_map]
          rfl
        rw [hys] at o2
        obtain ⟨e2, he2⟩ := PyProof.Rows.sortedHeap_at (out := out.toArray) hat
        refine h h'.objs.size _ _ (I1.hok.fresh (Nat.le_refl _)) (I1.laid (a := h'.objs.size) (o := .lst _) (t' := tk) (fun b o z => ?_) (Nat.le_refl _) ⟨?_, out, e2, o1, he2⟩) o2
        · have hb : b < h'.objs.size := Heap.lt_size z
          rw [PyProof.Rows.sortedHeap_old (Nat.ne_of_lt hb) (by show b < (h'.push _).objs.size; rw [Heap.size_push]; exact Nat.lt_succ_of_lt hb)]
          exact Heap.get?_push_of_some _ z
        · have := Vals.length o1
          rw [hol, t3] at this
          omega
    · cases hy
  · cases hy
end
end Mp

set_option Elab.async false
set_option linter.all false
set_option maxRecDepth 100000
set_option maxHeartbeats 2000000
/-! Mp, part E2: dict(pairs). -/
namespace Mp
open PySem PySem.Spec PyProof.Rows L2
section
variable {X : Cx} {pins : List (Addr × Obj)} {σ : L2.St} {H : Hp} {s : Shared} {m : List Addr}
theorem stored_mem {k : NestedKey} {ka : Addr} {u : Value} {j : NestedKey} : ∀ {xs : List (NestedKey × Addr × Value)}, (xs.map (·.1)).Nodup → j ∈ (storedH xs k ka u).map (·.1) → j = k ∨ j ∈ xs.map (·.1)
  | [], _, h => by
    have : j ∈ [k] := h
    exact .inl (List.mem_singleton.mp this)
  | x :: xs, hn, h => by
    rw [storedH_cons hn] at h
    have hn2 : (xs.map (·.1)).Nodup := by
      rw [List.map_cons, List.nodup_cons] at hn
      exact hn.2
    split at h
    · exact .inr (by simpa using h)
    · rw [List.map_cons, List.mem_cons] at h
      rcases h with h | h
      · exact .inr (by rw [h]; simp)
      · rcases stored_mem hn2 h with q | q
        · exact .inl q
        · exact .inr (List.mem_cons_of_mem _ q)
theorem stored_nd {k : NestedKey} {ka : Addr} {u : Value} : ∀ {xs : List (NestedKey × Addr × Value)}, (xs.map (·.1)).Nodup → ((storedH xs k ka u).map (·.1)).Nodup
  | [], _ => by
    show ([k] : List NestedKey).Nodup
    simp
  | x :: xs, hn => by
    rw [storedH_cons hn]
    have hn2 := hn
    rw [List.map_cons, List.nodup_cons] at hn2
    split
    · simpa using hn2
    · rename_i hx
      rw [List.map_cons, List.nodup_cons]
      refine ⟨fun hm => ?_, stored_nd hn2.2⟩
      rcases stored_mem hn2.2 hm with q | q
      · exact hx q
      · exact hn2.1 q
theorem RD.puts {K : Kw} : ∀ {ps acc : List (Val × Val)} {qs xs : List (NestedKey × Addr × Value)}, RD K m H ps qs → RD K m H acc xs → (xs.map (·.1)).Nodup → RD K m H (dputs ps acc) (storedAllH xs qs)
  | [], acc, qs, xs, h, ha, hn => by
    simp only [RD] at h; subst h
    exact ha
  | p :: ps, acc, qs, xs, h, ha, hn => by
    obtain ⟨ka, u, vv, ys, rfl, h1, h2, h3, h4, h5⟩ := h
    exact RD.puts (acc := dput p.1 p.2 acc) (xs := storedH xs (keyN p.1) ka u) h5 (RD.put h1 h2 h3 h4 ha hn) (stored_nd hn)
theorem storedAll_len {xs : List (NestedKey × Addr × Value)} : ∀ qs : List (NestedKey × Addr × Value), (storedAllH xs qs).length ≤ xs.length + qs.length := by
  intro qs
  induction qs generalizing xs with
  | nil => exact Nat.le_refl _
  | cons q qs ih =>
    have h1 := ih (xs := storedH xs q.1 q.2.1 q.2.2)
    have h2 := storedH_length xs q.1 q.2.1 q.2.2
    show (storedAllH (storedH xs q.1 q.2.1 q.2.2) qs).length ≤ _
    rw [List.length_cons]
    omega
theorem pairs_lay (I : Inv X pins σ H s) : ∀ {xs : List Val} {ws : List V} {its : List Value} {ps : List (Val × Val)}, pairsOf xs = some ps → RVs (Cxkw X) m H xs ws → Vals ws its →
    ∃ qs : List (NestedKey × Addr × Value), RD (Cxkw X) m H ps qs ∧ its.length = qs.length ∧ ∀ (j : Nat) (q : NestedKey × Addr × Value), qs[j]? = some q → ∃ T : Addr, its[j]? = some (Value.ref T) ∧ PairAt s.heap T (Value.ref q.2.1) q.2.2
  | [], ws, its, ps, e, r, v => by
    simp only [RVs] at r; subst r
    cases v
    unfold pairsOf at e
    simp only [optAll] at e
    cases e
    exact ⟨[], rfl, rfl, fun j q h => by simp at h⟩
  | x :: xs, ws, its, ps, e, r, v => by
    simp only [RVs] at r
    obtain ⟨w, ws, rfl, r1, r2⟩ := r
    cases v with
    | @cons _ u _ us v1 v2 =>
    have e0 : optAll (fun
      | Val.tup [k, v] => if dkey k then some (k, v) else none
      | _ => none) (x :: xs) = some ps := e
    simp only [optAll] at e0
    split at e0
    · rename_i p hp
      split at e0
      · rename_i ps2 hps
        cases e0
        split at hp
        · rename_i k v
          split at hp
          · rename_i hk
            cases hp
            obtain ⟨qs, q1, q2, q3⟩ := pairs_lay I (ps := ps2) hps r2 v2
            simp only [RV] at r1
            obtain ⟨T, zs, rfl, hT, hz⟩ := r1
            obtain rfl : u = Value.ref T := v1
            simp only [RVs] at hz
            obtain ⟨zk, _, rfl, hzk, zv, _, rfl, hzv, rfl⟩ := hz
            obtain ⟨ka, rfl⟩ := key_ref hk hzk
            obtain ⟨tis, tv, tt, _⟩ := I.tuple hT
            cases tv with
            | cons t1 t2 =>
              cases t2 with
              | @cons _ u2 _ _ t3 t4 =>
                cases t4
                rename_i u1
                obtain rfl : u1 = Value.ref ka := t1
                refine ⟨(keyN k, ka, u2) :: qs, ⟨ka, u2, zv, qs, rfl, hk, hzk, hzv, t3, q1⟩, by simp [q2], fun j q hj => ?_⟩
                cases j with
                | zero =>
                  simp only [List.getElem?_cons_zero] at hj
                  cases hj
                  exact ⟨T, rfl, .inl tt⟩
                | succ j =>
                  simp only [List.getElem?_cons_succ] at hj ⊢
                  exact q3 j q hj
          · cases hp
        · cases hp
      · cases e0
    · cases e0
theorem dict_of {k : Nat} {kvs : List (Val × Val)} {xs : List Val} {ws : List V} {a : Addr} {Q : Value → Shared → Prop} {E : Value → Shared → Prop} (hr : Room k X.A) (hc : X.calm = true) (I : Inv X pins σ H s) (hl : SqL X.K H a ws) (r : RVs (Cxkw X) m H xs ws) (e : pairsOf xs = some kvs) (hz : kvs.length ≤ cap)
    (h : ∀ p s' zs, H p = none → Inv X pins σ (upd H p (.ext (DctP X.w p zs))) s' → RD (Cxkw X) m H (dputs kvs []) zs → Q (.ref p) s') : wpAny (model X.prog X.w) X.A (call (.type "dict") [.ref a]) Q E s := by
  obtain ⟨its, rv, ⟨o, n, ho, hcl, hdi, hda⟩, hlen⟩ := I.list hl
  obtain ⟨qs, q1, q2, q3⟩ := pairs_lay I e r rv
  let Ts : Nat → Addr := fun j => match its[j]? with
    | some (.ref T) => T
    | _ => 0
  let ps : List (Value × Value) := qs.map fun q => (.ref q.2.1, q.2.2)
  have hpl : ps.length = qs.length := List.length_map _
  have pit : PairItems s.heap its.toArray Ts ps := by
    refine ⟨by rw [List.size_toArray, hpl]; exact q2, fun j kk v hj => ?_⟩
    rw [List.getElem?_map] at hj
    cases hq : qs[j]? with
    | none => rw [hq] at hj; cases hj
    | some q =>
      rw [hq] at hj
      cases hj
      obtain ⟨T, h1, h2⟩ := q3 j q hq
      have hT : Ts j = T := by
        show (match its[j]? with
          | some (.ref T) => T
          | _ => 0) = T
        rw [h1]
      rw [hT]
      exact ⟨by simpa using h1, h2⟩
  have hz2 : qs.length ≤ sizeLine := by rw [← q1.length]; exact cap_line hz
  refine call_dict_pairsH (knd := nestedKind X.prog X.w) (ps := qs) (PairArg.list a its.toArray Ts ps) (I.ok.hd hc) ?_ ⟨⟨o, n, ho, hcl, hdi, hda⟩, pit⟩ ⟨hpl.symm, fun i key v hrel => ?_⟩ (fun h' hk x hx => ?_) (by rw [hpl]; exact hz2) fun h' tk hd' hk => ?_
  · have := hr.un
    show X.A.in1.in1.units + 8 < cLine
    rw [Around.in1_units, Around.in1_units]
    omega
  · have hrel : ps[i]? = some (key, v) := hrel
    rw [List.getElem?_map] at hrel
    cases hq : qs[i]? with
    | none => rw [hq] at hrel; cases hrel
    | some q =>
      rw [hq] at hrel
      cases hrel
      exact ⟨q.1, q.2.1, rfl, rfl⟩
  · refine nestedKind_stays.stays (fun b ob vs nn hb hd => hk b ob ?_ (by simp) hb) (q1.is I x hx)
    exact Nat.ne_of_lt (Heap.lt_size hb)
  · have hsys : (s.heap.objs.size == sysModules) = false := beq_eq_false_iff_ne.mpr (Ne.symm (Nat.ne_of_lt I.big))
    have hl2 : (storedAllH ([] : List (NestedKey × Addr × Value)) qs).length ≤ sizeLine := by
      have := storedAll_len (xs := []) qs
      simp only [List.length_nil] at this
      omega
    refine h _ _ (storedAllH [] qs) (I.hok.fresh (Nat.le_refl _)) (I.laid (a := s.heap.objs.size) (fun b ob z => hk b ob (by simp) z) (Nat.le_refl _) (dct_ok hsys hl2 hd')) (RD.puts q1 rfl (by simp))
end
end Mp

set_option Elab.async false
set_option linter.all false
set_option maxRecDepth 100000
set_option maxHeartbeats 2000000
/-! Mp, part E3: the least and the greatest of a list. -/
namespace Mp
open PySem PySem.Spec PyProof.Rows L2
theorem dat_inj {S : Sto} : ∀ (k : Nat) (a b : Val) (d : PyData), pureV a = true → pureV b = true → dat S k a = some d → dat S k b = some d → a = b
  | 0, a, b, d, _, _, h, _ => by simp only [dat] at h; cases h
  | k + 1, a, b, d, pa, pb, ha, hb => by
    have ls : ∀ (xs ys : List Val) (ds : List PyData), pureVs xs = true → pureVs ys = true → optAll (dat S k) xs = some ds → optAll (dat S k) ys = some ds → xs = ys := by
      intro xs
      induction xs with
      | nil =>
        intro ys ds _ _ h1 h2
        simp only [optAll] at h1
        cases h1
        cases ys with
        | nil => rfl
        | cons y ys =>
          simp only [optAll] at h2
          split at h2
          · split at h2 <;> cases h2
          · cases h2
      | cons x xs ih =>
        intro ys ds p1 p2 h1 h2
        simp only [optAll] at h1
        split at h1
        · rename_i d1 e1
          split at h1
          · rename_i ds1 e2
            cases h1
            cases ys with
            | nil => simp only [optAll] at h2; cases h2
            | cons y ys =>
              simp only [optAll] at h2
              split at h2
              · rename_i d2 e3
                split at h2
                · rename_i ds2 e4
                  cases h2
                  simp only [pureVs, Bool.and_eq_true] at p1 p2
                  rw [dat_inj k x y d1 p1.1 p2.1 e1 e3, ih ys ds1 p1.2 p2.2 e2 e4]
                · cases h2
              · cases h2
          · cases h1
        · cases h1
    cases a with
    | non => cases b with
      | non => rfl
      | tup ys => simp only [dat] at ha hb; cases ha; split at hb <;> cases hb
      | bl c => simp only [dat] at ha hb; cases ha; cases hb
      | int c => simp only [dat] at ha hb; cases ha; cases hb
      | str c => simp only [dat] at ha hb; cases ha; cases hb
      | _ => cases pb
    | bl a => cases b with
      | bl c => simp only [dat] at ha hb; cases ha; cases hb; rfl
      | tup ys => simp only [dat] at ha hb; cases ha; split at hb <;> cases hb
      | non => simp only [dat] at ha hb; cases ha; cases hb
      | int c => simp only [dat] at ha hb; cases ha; cases hb
      | str c => simp only [dat] at ha hb; cases ha; cases hb
      | _ => cases pb
    | int a => cases b with
      | int c => simp only [dat] at ha hb; cases ha; cases hb; rfl
      | tup ys => simp only [dat] at ha hb; cases ha; split at hb <;> cases hb
      | non => simp only [dat] at ha hb; cases ha; cases hb
      | bl c => simp only [dat] at ha hb; cases ha; cases hb
      | str c => simp only [dat] at ha hb; cases ha; cases hb
      | _ => cases pb
    | str a => cases b with
      | str c => simp only [dat] at ha hb; cases ha; cases hb; rfl
      | tup ys => simp only [dat] at ha hb; cases ha; split at hb <;> cases hb
      | non => simp only [dat] at ha hb; cases ha; cases hb
      | bl c => simp only [dat] at ha hb; cases ha; cases hb
      | int c => simp only [dat] at ha hb; cases ha; cases hb
      | _ => cases pb
    | tup xs => cases b with
      | tup ys =>
        simp only [dat] at ha hb
        split at ha
        · rename_i ds e1
          cases ha
          split at hb
          · rename_i ds2 e2
            cases hb
            rw [ls xs ys ds (by simpa only [pureV] using pa) (by simpa only [pureV] using pb) e1 e2]
          · cases hb
        · cases ha
      | non => simp only [dat] at ha hb; cases hb; split at ha <;> cases ha
      | bl c => simp only [dat] at ha hb; cases hb; split at ha <;> cases ha
      | int c => simp only [dat] at ha hb; cases hb; split at ha <;> cases ha
      | str c => simp only [dat] at ha hb; cases hb; split at ha <;> cases ha
      | _ => cases pb
    | _ => cases pa
theorem lay_inj {S : Sto} {a b : Val} {d : PyData} (pa : pureV a = true) (pb : pureV b = true) (ha : lay S a = some d) (hb : lay S b = some d) : a = b := by
  unfold lay at ha hb
  split at ha
  · rename_i d1 e1
    split at ha
    · cases ha
      split at hb
      · rename_i d2 e2
        split at hb
        · cases hb
          exact dat_inj _ a b d pa pb e1 e2
        · cases hb
      · cases hb
    · cases ha
  · cases ha
theorem optAll_get {α β : Type} {f : α → Option β} : ∀ {xs : List α} {ds : List β} {i : Nat} {x : α}, optAll f xs = some ds → xs[i]? = some x → ∃ d, ds[i]? = some d ∧ f x = some d
  | [], ds, i, x, _, h => by simp at h
  | a :: xs, ds, i, x, e, h => by
    simp only [optAll] at e
    split at e
    · rename_i d1 e1
      split at e
      · rename_i ds1 e2
        cases e
        cases i with
        | zero =>
          simp only [List.getElem?_cons_zero, Option.some.injEq] at h ⊢
          subst h
          exact ⟨d1, rfl, e1⟩
        | succ i =>
          simp only [List.getElem?_cons_succ] at h ⊢
          exact optAll_get e2 h
      · cases e
    · cases e
theorem best_fold {S : Sto} {lt : PyData → PyData → Bool} : ∀ {xs : List Val} {ds : List PyData} {x : Val} {d : PyData}, optAll (lay S) xs = some ds → lay S x = some d → pureV x = true → pureVs xs = true →
    lay S ((xs.zip ds).foldl (fun a y => if lt y.2 a.2 then y else a) (x, d)).1 = some (ds.foldl (fun a y => if lt y a then y else a) d) ∧ pureV ((xs.zip ds).foldl (fun a y => if lt y.2 a.2 then y else a) (x, d)).1 = true
  | [], ds, x, d, e, h, p, _ => by
    simp only [optAll] at e
    cases e
    exact ⟨h, p⟩
  | y :: xs, ds, x, d, e, h, p, q => by
    simp only [optAll] at e
    split at e
    · rename_i d1 e1
      split at e
      · rename_i ds1 e2
        cases e
        simp only [pureVs, Bool.and_eq_true] at q
        simp only [List.zip_cons_cons, List.foldl_cons]
        by_cases c : lt d1 d = true
        · simp only [c, if_true]
          exact best_fold e2 e1 q.1 q.2
        · simp only [c, if_false]
          exact best_fold e2 h p q.2
      · cases e
    · cases e
theorem depth_all : ∀ {ds : List PyData}, (∀ d ∈ ds, d.depth ≤ 64) → PyData.depthAll ds ≤ 64
  | [], _ => by simp [PyData.depthAll]
  | d :: ds, h => by
    have h1 := h d (List.mem_cons_self ..)
    have h2 := depth_all (ds := ds) fun e he => h e (List.mem_cons_of_mem _ he)
    simp only [PyData.depthAll]
    omega
section
variable {X : Cx} {pins : List (Addr × Obj)} {σ : L2.St} {H : Hp} {s : Shared} {m : List Addr}
theorem pure_at : ∀ {xs : List Val} {i : Nat} {x : Val}, pureVs xs = true → xs[i]? = some x → pureV x = true
  | [], i, x, _, h => by simp at h
  | a :: xs, i, x, p, h => by
    simp only [pureVs, Bool.and_eq_true] at p
    cases i with
    | zero => simp only [List.getElem?_cons_zero, Option.some.injEq] at h; subst h; exact p.1
    | succ i => simp only [List.getElem?_cons_succ] at h; exact pure_at p.2 h
/-- what min and max find: the i-th item, by its data -/
theorem best_at {S : Sto} {xs : List Val} {ws : List V} {its : List Value} {ds : List PyData} {v : Val} {dv : PyData} {i : Nat} {u : Value} {h' : Heap} {bs : List Addr} (I : Inv X pins σ H s) (rs : RS (Cxkw X) m H S) (r : RVs (Cxkw X) m H xs ws) (rv : Vals ws its) (e : optAll (lay S) xs = some ds) (p : pureVs xs = true)
    (hv : lay S v = some dv) (pv : pureV v = true) (hu : its[i]? = some u) (hr : Reads h' u dv bs) (hk : ∀ b o, s.heap.get? b = some o → h'.get? b = some o) : ∃ z, RelV z u ∧ RV (Cxkw X) m H v z := by
  have hi : i < xs.length := by
    obtain ⟨q, _⟩ := List.getElem?_eq_some_iff.mp hu
    rw [r.length, rv.length]; exact q
  have hx := List.getElem?_eq_getElem hi
  obtain ⟨d, hd, ld⟩ := optAll_get e hx
  obtain ⟨w, hw, rw'⟩ := r.get hx
  obtain ⟨u2, hu2, ru⟩ := rv.get hw
  rw [hu] at hu2; cases hu2
  obtain ⟨l1, l2⟩ := lay_ok rs ld rw'
  obtain ⟨as, r1⟩ := Dp.reads I d w u l1 ru
  have r2 := PyProof.Rows.Reads.keeps hk r1
  have ed : d = dv := SeqAt.Reads.unique d dv u as bs (SeqAt.canLay_of_shaped l2) r2 hr
  subst ed
  have := lay_inj (pure_at p hx) pv ld hv
  rw [← this]
  exact ⟨w, ru, rw'⟩
theorem best_ok {S : Sto} {lt : PyData → PyData → Bool} {xs : List Val} {v : Val} (e : bestV lt S xs = some v) : ∃ d ds, optAll (lay S) xs = some (d :: ds) ∧ alikeL (d :: ds) = true ∧ (d :: ds).all notNone = true ∧ pureVs xs = true ∧ lay S v = some (ds.foldl (fun a y => if lt y a then y else a) d) ∧ pureV v = true := by
  unfold bestV at e
  split at e
  · rename_i x xs' d ds ho
    split at e
    · rename_i hc
      cases e
      simp only [Bool.and_eq_true] at hc
      obtain ⟨⟨⟨h1, h2⟩, h3⟩, h4⟩ := hc
      have ho2 := ho
      simp only [optAll] at ho2
      split at ho2
      · rename_i d1 e1
        split at ho2
        · rename_i ds1 e2
          cases ho2
          have hp := h3
          simp only [pureVs, Bool.and_eq_true] at hp
          obtain ⟨b1, b2⟩ := best_fold (lt := lt) e2 e1 hp.1 hp.2
          exact ⟨d, ds, ho, h1, h2, h3, b1, b2⟩
        · cases ho2
      · cases ho2
    · cases e
  · cases e
theorem best_pre {S : Sto} {xs : List Val} {ws : List V} {its : List Value} {ds : List PyData} {k : Nat} (hr : Room k X.A) (I : Inv X pins σ H s) (rs : RS (Cxkw X) m H S) (r : RVs (Cxkw X) m H xs ws) (rv : Vals ws its) (e : optAll (lay S) xs = some ds) (h1 : alikeL ds = true) (h2 : ds.all notNone = true) :
    (∃ as, ReadsAll s.heap its ds as) ∧ PySem.W.AlikeAll ds ∧ X.A.units + 1 + PyData.depthAll ds < cLine := by
  obtain ⟨t1, t2, t3, t4⟩ := tri_all rs e r rv
  have er : PySem.W.EachIs (fun v (t : It3) => ∃ as, Reads s.heap v t.d as) its (tri xs ws ds) := each_and t4 fun v t _ q => Dp.reads I t.d t.w v q.2.2.1 q.1
  obtain ⟨as, ra⟩ := PySem.W.each_readsAll It3.d er
  rw [t1] at ra
  refine ⟨⟨as, ra⟩, ⟨alike_of h1, fun x hx z => ?_⟩, ?_⟩
  · have := List.all_eq_true.mp h2 x hx
    rw [z] at this
    cases this
  · have hd : PyData.depthAll ds ≤ 64 := depth_all fun d hd => by
      rw [← t1] at hd
      obtain ⟨t, ht, rfl⟩ := List.mem_map.mp hd
      obtain ⟨v, q⟩ := each_mem t4 t ht
      exact SeqAt.depth_of_shaped q.2.2.2
    have := hr.un
    omega
theorem min_of {S : Sto} {xs : List Val} {ws : List V} {v : Val} {k : Nat} {a : Addr} {Q : Value → Shared → Prop} {E : Value → Shared → Prop} (hr : Room k X.A) (hc : X.calm = true) (I : Inv X pins σ H s) (rs : RS (Cxkw X) m H S) (hl : SqL X.K H a ws) (r : RVs (Cxkw X) m H xs ws) (e : bestV (fun y a => PySem.W.dataLt y a) S xs = some v)
    (h : ∀ z u s', Inv X pins σ H s' → RelV z u → RV (Cxkw X) m H v z → Q u s') : wpAny (model X.prog X.w) X.A (call (.builtin "min") [.ref a]) Q E s := by
  obtain ⟨d, ds, e1, e2, e3, e4, e5, e6⟩ := best_ok e
  obtain ⟨its, rv, ⟨o, n, ho, hcl, hdi, hda⟩, hlen⟩ := I.list hl
  obtain ⟨⟨as, ra⟩, al, un⟩ := best_pre hr I rs r rv e1 e2 e3
  refine PySem.W.min_list_data (I.ok.hd hc) (vs := its.toArray) ⟨o, ho, hcl, n, hda⟩ (by simpa using ra) al un fun i u h' tk bs hu hR hk => ?_
  obtain ⟨z, z1, z2⟩ := best_at I rs r rv e1 e4 e5 e6 (by simpa using hu) hR hk
  exact h z u _ (I.kept hk) z1 z2
theorem max_of {S : Sto} {xs : List Val} {ws : List V} {v : Val} {k : Nat} {a : Addr} {Q : Value → Shared → Prop} {E : Value → Shared → Prop} (hr : Room k X.A) (hc : X.calm = true) (I : Inv X pins σ H s) (rs : RS (Cxkw X) m H S) (hl : SqL X.K H a ws) (r : RVs (Cxkw X) m H xs ws) (e : bestV (fun y a => PySem.W.dataLt a y) S xs = some v)
    (h : ∀ z u s', Inv X pins σ H s' → RelV z u → RV (Cxkw X) m H v z → Q u s') : wpAny (model X.prog X.w) X.A (call (.builtin "max") [.ref a]) Q E s := by
  obtain ⟨d, ds, e1, e2, e3, e4, e5, e6⟩ := best_ok e
  obtain ⟨its, rv, ⟨o, n, ho, hcl, hdi, hda⟩, hlen⟩ := I.list hl
  obtain ⟨⟨as, ra⟩, al, un⟩ := best_pre hr I rs r rv e1 e2 e3
  refine PySem.W.max_list_data (I.ok.hd hc) (vs := its.toArray) ⟨o, ho, hcl, n, hda⟩ (by simpa using ra) al un fun i u h' tk bs hu hR hk => ?_
  obtain ⟨z, z1, z2⟩ := best_at I rs r rv e1 e4 e5 e6 (by simpa using hu) hR hk
  exact h z u _ (I.kept hk) z1 z2
end
end Mp

set_option Elab.async false
set_option linter.all false
set_option maxRecDepth 100000
set_option maxHeartbeats 2000000
/-! Mp, part E4: x[::-1]. -/
namespace Mp
open PySem PySem.Spec PyProof.Rows L2
theorem back_bounds (n : Nat) : Builtin.Slice.sliceAdjust none none (-1) (n : Int) = ((n : Int) - 1, -1) ∧ Builtin.Slice.slicePlaces ((n : Int) - 1) (-1) (-1) = n := by
  constructor
  · simp [Builtin.Slice.sliceAdjust]
  · simp [Builtin.Slice.slicePlaces]; omega
section
variable {prog : Program} {w : World} {A : Around} {E : Value → Shared → Prop} {s : Shared}
theorem back_tuple {t sl : Addr} {its : Array Value} {u : Tok} {Q : Value → Shared → Prop} (hz : its.size ≤ sizeLine) (ht : IsTup s.heap t its) (hs : s.heap.IsSliceOf sl .none .none (.int (-1) u))
    (h : Q (.ref s.heap.objs.size) { s with heap := s.heap.push { cls := .type "tuple", data := .seq its.reverse } }) :
    wpAny (model prog w) A (Builtin.«tuple.__getitem__» ⟨[.ref t, .ref sl], []⟩) (fun f s' => ∃ v, f = .done (.ret v) ∧ Q v s') E s := by
  obtain ⟨⟨c1, d1, dt1, x1⟩, h1, h2, n, h3⟩ := ht
  obtain ⟨⟨c2, d2, dt2, x2⟩, g1, g2, g3⟩ := hs
  simp only at h2 h3 g2 g3
  subst h2 h3 g2 g3
  have tS : s.TypeIs (.ref sl) "slice" := ⟨_, g1, rfl⟩
  have step : ∀ {B : Around} {E' : Value → Shared → Prop} {R : Option Int → Shared → Prop}, R (some (-1)) s → wpAny (model prog w) B (Builtin.Slice.slicePartIndex (.int (-1) u)) R E' s := fun q => slicePart_int q
  have what : (List.filterMap (fun k : Nat => its[((its.size : Int) - 1 + (k : Int) * -1).toNat]?) (List.range its.size)).toArray = its.reverse := by
    apply Array.ext'
    rw [Array.toList_reverse]
    apply List.ext_getElem?
    intro i
    have all : ∀ k ∈ List.range its.size, its[((its.size : Int) - 1 + (k : Int) * -1).toNat]? = some (its.toList.reverse.getD k .none) := fun k hk => by
      have hk : k < its.size := List.mem_range.mp hk
      rw [show ((its.size : Int) - 1 + (k : Int) * -1).toNat = its.size - 1 - k by omega, List.getD_eq_getElem?_getD, List.getElem?_reverse (by simpa using hk)]
      simp only [Array.length_toList, Array.getElem?_toList]
      rw [Array.getElem?_eq_getElem (show its.size - 1 - k < its.size by omega)]
      rfl
    have mp : List.filterMap (fun k : Nat => its[((its.size : Int) - 1 + (k : Int) * -1).toNat]?) (List.range its.size) = (List.range its.size).map fun k => its.toList.reverse.getD k .none := by
      revert all
      generalize List.range its.size = ks
      intro all
      induction ks with
      | nil => rfl
      | cons k ks ih => rw [List.filterMap_cons, all k (List.mem_cons_self ..), List.map_cons, ih fun j hj => all j (List.mem_cons_of_mem _ hj)]
    simp only [mp, List.getElem?_map]
    by_cases hi : i < its.size
    · rw [List.getElem?_range hi, Option.map_some, List.getD_eq_getElem?_getD, List.getElem?_eq_getElem (by simpa using hi)]
      rfl
    · rw [List.getElem?_eq_none (by simpa using hi), List.getElem?_eq_none (by simpa using hi)]
      rfl
  have room : sizeOk (.seq its.reverse) := by
    show its.reverse.size ≤ sizeLine
    simpa using hz
  unfold Builtin.«tuple.__getitem__» Builtin.Slice.sliceApplied
  generalize hP : Builtin.Slice.slicePartIndex = P at step ⊢
  wp_walk using step
  refine step ?_
  subst hP
  show wpAny _ _ (if ((-1 : Int) == 0) = true then _ else _) _ _ _
  rw [if_neg (by decide)]
  refine wpAny_bind (slicePart_none (wpAny_bind (slicePart_none ?_)))
  refine wpAny_bind (wpAny_pure ?_)
  have e0 : (some (-1 : Int)).getD 1 = -1 := rfl
  have e1 : ((-1 : Int) < 0) = True := by simp
  simp only [e0, e1, if_true]
  first
    | rw [(back_bounds its.size).2]
    | simp only [(back_bounds its.size).1, (back_bounds its.size).2]
  refine wpAny_pure ?_
  dsimp only
  rw [if_neg (by simp), what]
  exact wpAny_bind (wpAny_newObj_type (wpAny_pure ⟨_, rfl, h⟩) room)
end
section
variable {X : Cx}
theorem back_item {pins : List (Addr × Obj)} {σ : L2.St} {H : Hp} {s : Shared} {a sl : Addr} {ws : List V} {u : Tok} {Q : VK} (I : Inv X pins σ H s) (ht : SqT X.K H a ws) (hs : s.heap.IsSliceOf sl .none .none (.int (-1) u))
    (h : ∀ p, H p = none → Q (.ref p) (upd H p (.tup ws.reverse))) : wpAny (model X.prog X.w) X.A (getItem (.ref a) (.ref sl)) (EP X pins σ Q) X.xe s := by
  obtain ⟨its, rel, tup, small⟩ := I.tuple ht
  unfold getItem
  refine wpAny_holding (wpAny_bind (wpAny_sequenceKey tup.typeIs (by decide) (wpAny_bind (wpAny_callSpecial?_slot tup.typeIs slot_tuple_getitem (wpAny_call_entry slot_tuple_getitem tup.typeIs entry_tuple_getitem ?_ (args_tuple_getitem _ _))))))
  refine back_tuple (by rw [List.size_toArray, ← rel.length]; exact small) tup hs (wpAny_pure ?_)
  refine ⟨.ref _, _, I.laid (t' := s.toks) (o := .tup ws.reverse) (fun _ _ e => Heap.get?_push_of_some _ e) (Nat.le_refl _) ⟨by simpa using small, its.reverse, rel.reverse, ?_⟩, rfl, h _ (I.hok.fresh (Nat.le_refl _))⟩
  exact ⟨_, Heap.get?_push_size _ rfl, rfl, 0, by simp⟩
/-- the slice [::-1] itself -/
theorem back_slice {k : Nat} {p1 p2 p3 : Pos} {pins : List (Addr × Obj)} {σ : L2.St} {H : Hp} {s : Shared} {R : Value → Shared → Prop} (I : Inv X pins σ H s)
    (h : ∀ s1 sl u, Inv X pins σ H s1 → s1.heap.IsSliceOf sl .none .none (.int (-1) u) → R (.ref sl) s1) :
    wpAny (model X.prog X.w) X.A (eval (.Slice none none (some (.UnaryOp .USub (.Constant (.int 1) k p1) p2)) p3) X.env) R X.xe s := by
  have num : PE X (.UnaryOp .USub (.Constant (.int 1) k p1) p2) _ := pe_un un_neg pe_int
  refine wpAny_Slice (wpAny_pure (wpAny_pure (thn (num.run pins s σ H (fun v H1 => v = .int (-1) ∧ H1 = H) I ⟨1, rfl, rfl, rfl⟩) fun st s1 got => ?_)))
  obtain ⟨_, _, I1, ⟨u, rfl⟩, rfl, rfl⟩ : ∃ v H1, Inv X pins σ H1 s1 ∧ (∃ u, st = .int (-1) u) ∧ v = V.int (-1) ∧ H1 = H := by
    obtain ⟨v, H1, I1, rel, rfl, rfl⟩ := got
    exact ⟨_, _, I1, rel, rfl, rfl⟩
  exact h _ _ u (I1.kept (t' := s1.toks) fun _ _ e => Heap.get?_push_of_some _ e) (Heap.IsSliceOf.new _ _ _ _)
/-- x[::-1] of a tuple -/
def tBackT (K : PySem.W.Frag) (te : TE) : TE := fun σ H Q => te σ H fun x H1 => ∃ a ws, x = .ref a ∧ SqT K H1 a ws ∧ ∀ p, H1 p = none → Q (.ref p) (upd H1 p (.tup ws.reverse))
theorem pe_backT {e : Expr} {te : TE} {k : Nat} {p1 p2 p3 pos : Pos} (he : PE X e te) : PE X (.Subscript e (.Slice none none (some (.UnaryOp .USub (.Constant (.int 1) k p1) p2)) p3) pos) (tBackT X.K te) where
  run pins s σ H Q I h := Subscript_ <| thn (he.run pins s σ H _ I h) fun v s1 got => by
    obtain ⟨x, H1, I1, rel, a, ws, rfl, tup, fin⟩ := got
    obtain rfl : v = .ref a := rel
    refine back_slice I1 fun s2 sl u I2 hs => ?_
    obtain ⟨its, _, ht, _⟩ := I2.tuple tup
    exact tail_any (ops := [.ref a, .ref sl]) ht.typeIs slot_tuple_getitem.lookup (back_item I2 tup hs fin) (by with_unfolding_all rfl)
/-! ### sorted(set(t)) -/
theorem insU_mem {x y : Int} : ∀ {l : List Int}, y ∈ insU x l ↔ y = x ∨ y ∈ l
  | [] => by simp [insU]
  | z :: l => by
    unfold insU
    split
    · simp
    · split
      · rename_i h
        subst h
        simp
      · simp only [List.mem_cons, insU_mem (l := l)]
        constructor
        · rintro (h | h | h)
          · exact .inr (.inl h)
          · exact .inl h
          · exact .inr (.inr h)
        · rintro (h | h | h)
          · exact .inr (.inl h)
          · exact .inl h
          · exact .inr (.inr h)
theorem insU_sorted {x : Int} : ∀ {l : List Int}, l.Pairwise (· < ·) → (insU x l).Pairwise (· < ·)
  | [], _ => by simp [insU]
  | z :: l, h => by
    have h2 := List.pairwise_cons.mp h
    unfold insU
    split
    · rename_i hx
      refine List.pairwise_cons.mpr ⟨fun y hy => ?_, h⟩
      rcases List.mem_cons.mp hy with e | e
      · rw [e]; exact hx
      · have := h2.1 y e
        omega
    · split
      · exact h
      · refine List.pairwise_cons.mpr ⟨fun y hy => ?_, insU_sorted h2.2⟩
        rcases insU_mem.mp hy with e | e
        · rw [e]; omega
        · exact h2.1 y e
theorem sortU_mem {y : Int} : ∀ {l : List Int}, y ∈ sortU l ↔ y ∈ l
  | [] => by simp [sortU]
  | x :: l => by unfold sortU; rw [insU_mem, sortU_mem (l := l)]; simp
theorem sortU_sorted : ∀ l : List Int, (sortU l).Pairwise (· < ·)
  | [] => List.Pairwise.nil
  | x :: l => insU_sorted (sortU_sorted l)
/-- rising rows of the same numbers are one -/
theorem rise_eq : ∀ {a b : List Int}, a.Pairwise (· < ·) → b.Pairwise (· < ·) → (∀ k, k ∈ a ↔ k ∈ b) → a = b
  | [], [], _, _, _ => rfl
  | [], y :: b, _, _, h => by have := (h y).mpr (List.mem_cons_self ..); cases this
  | x :: a, [], _, _, h => by have := (h x).mp (List.mem_cons_self ..); cases this
  | x :: a, y :: b, ha, hb, h => by
    have ha2 := List.pairwise_cons.mp ha
    have hb2 := List.pairwise_cons.mp hb
    have e : x = y := by
      have h1 := (h x).mp (List.mem_cons_self ..)
      have h2 := (h y).mpr (List.mem_cons_self ..)
      rcases List.mem_cons.mp h1 with q | q
      · exact q
      · rcases List.mem_cons.mp h2 with r | r
        · exact r.symm
        · have := ha2.1 y r
          have := hb2.1 x q
          omega
    subst e
    rw [rise_eq ha2.2 hb2.2 fun k => ?_]
    constructor
    · intro q
      rcases List.mem_cons.mp ((h k).mp (List.mem_cons_of_mem _ q)) with r | r
      · have := ha2.1 k q
        omega
      · exact r
    · intro q
      rcases List.mem_cons.mp ((h k).mpr (List.mem_cons_of_mem _ q)) with r | r
      · have := hb2.1 k q
        omega
      · exact r
theorem c_setT (hc : X.calm = true) : CallR X (.type "set") (fun vs H Q => ∃ (l : Addr) (ns : List Int), vs = [V.ref l] ∧ SqT X.K H l (ns.map V.int) ∧ ns.length < 64 ∧ ∀ p c, H p = none → c ≤ ns.length → Q (.ref p) (upd H p (SetO X.w p (fun j => decide (j ∈ ns)) c))) := by
  intro pins s σ H xs us Q I r h
  obtain ⟨l, ns, rfl, hl, hz, q⟩ := h
  cases r with
  | cons ru rn =>
    cases rn
    rename_i u
    obtain rfl : u = Value.ref l := ru
    obtain ⟨its, rv, pt, _⟩ := I.tuple hl
    have hi : IntsAre its ns := intsAre_of rv
    refine call_set_tupI ns (I.ok.hd hc) (show s.heap.IsTuple l its.toArray from pt) (by simpa using hi) (by unfold scanBound; omega) fun h' tk c R1 hcn k => ?_
    exact ⟨.ref _, _, I.laid (a := s.heap.objs.size) (o := SetO X.w s.heap.objs.size (fun j => decide (j ∈ ns)) c) k (Nat.le_refl _) (setO_new R1), rfl, q _ c (I.hok.fresh (Nat.le_refl _)) hcn⟩
end
end Mp

set_option Elab.async false
set_option linter.all false
set_option maxRecDepth 100000
set_option maxHeartbeats 1000000
/-! Mp, part F: built-in functions and methods, by values. -/
namespace Mp
open PySem PySem.Spec PyProof.Rows L2
theorem get_lst {S : Sto} {r : Nat} {xs : List Val} (h : S.get r = some (.lst xs)) : S.lst r = some xs := by unfold Sto.lst; rw [h]
section
variable {K : Kw} {m : List Addr} {H : Hp} {S : Sto}
theorem RVs.one_of {v : Val} {xs : List V} (h : RVs K m H [v] xs) : ∃ x, xs = [x] ∧ RV K m H v x := by
  simp only [RVs] at h
  obtain ⟨y, ys, rfl, h1, h2⟩ := h
  subst h2
  exact ⟨y, rfl, h1⟩
theorem RVs.two_of {v w : Val} {xs : List V} (h : RVs K m H [v, w] xs) : ∃ x y, xs = [x, y] ∧ RV K m H v x ∧ RV K m H w y := by
  simp only [RVs] at h
  obtain ⟨y, ys, rfl, h1, z, zs, rfl, h2, h3⟩ := h
  subst h3
  exact ⟨y, z, rfl, h1, h2⟩
theorem RVs.nil_of {xs : List V} (h : RVs K m H [] xs) : xs = [] := by simp only [RVs] at h; exact h
theorem rv_int {i : Int} {x : V} (h : RV K m H (.int i) x) : x = .int i := by simp only [RV] at h; exact h
theorem rv_bl {i : Bool} {x : V} (h : RV K m H (.bl i) x) : x = .bl i := by simp only [RV] at h; exact h
theorem rv_str {i : Str} {x : V} (h : RV K m H (.str i) x) : x = .str i := by simp only [RV] at h; exact h
theorem rv_tup {ds : List Val} {x : V} (h : RV K m H (.tup ds) x) : ∃ a xs, x = .ref a ∧ SqT K H a xs ∧ RVs K m H ds xs := by simp only [RV] at h; exact h
theorem rv_fl {ds : List Val} {x : V} (h : RV K m H (.fl ds) x) : ∃ a xs, x = .ref a ∧ SqL K H a xs ∧ RVs K m H ds xs := by
  simp only [RV] at h
  obtain ⟨a, xs, e, h1, h2⟩ := h
  exact ⟨a, xs, e, h1.sq, h2⟩
theorem rv_ref {r : Nat} {x : V} (h : RV K m H (.ref r) x) : ∃ a, x = .ref a ∧ m[r]? = some a := by simp only [RV] at h; exact h
theorem rv_rng {lo hi : Int} {x : V} (h : RV K m H (.rng lo hi) x) : ∃ a, x = .ref a ∧ H a = some (.rng lo hi) := by simp only [RV] at h; exact h
theorem mk_int {i : Int} : RV K m H (.int i) (.int i) := by simp only [RV]
theorem mk_bl {i : Bool} : RV K m H (.bl i) (.bl i) := by simp only [RV]
theorem mk_str {i : Str} : RV K m H (.str i) (.str i) := by simp only [RV]
theorem mk_non : RV K m H .non .non := by simp only [RV]
theorem bools_of : ∀ {xs : List Val} {bs : List Bool} {vs : List V}, bools xs = some bs → RVs K m H xs vs → vs = bs.map V.bl
  | [], bs, vs, h, r => by
    unfold bools at h
    simp only [optAll] at h; cases h
    rw [r.nil_of]; rfl
  | x :: xs, bs, vs, h, r => by
    unfold bools at h
    simp only [optAll] at h
    simp only [RVs] at r
    obtain ⟨y, ys, rfl, h1, h2⟩ := r
    split at h
    · rename_i b hb
      split at h
      · rename_i cs hc
        cases h
        cases x with
        | bl c =>
          dsimp only at hb; cases hb
          rw [rv_bl h1, bools_of (xs := xs) (bs := cs) (vs := ys) hc h2]; rfl
        | _ => dsimp only at hb; cases hb
      · cases h
    · cases h
theorem rg_vals (lo hi : Int) : RVs K m H ((List.range (hi - lo).toNat).map fun (k : Nat) => Val.int (lo + (k : Int))) (rgV lo hi) := by
  unfold rgV
  generalize List.range (hi - lo).toNat = l
  induction l with
  | nil => exact RVs.nil
  | cons a l ih => exact RVs.cons mk_int ih
end
section
variable {X : Cx}
theorem c_len : CallR X (.builtin "len") (rN (Cxkw X) (bapp .len)) := by
  intro pins s σ H xs us Q I r h
  obtain ⟨m, S, vs, v, S', rs, hv, e, f⟩ := h
  cases vs with
  | nil => simp only [bapp] at e; cases e
  | cons x rest =>
    cases rest with
    | cons y rest2 => cases x <;> (simp only [bapp] at e; cases e)
    | nil =>
      obtain ⟨z, rfl, hz⟩ := hv.one_of
      cases x with
      | str t =>
        simp only [bapp] at e
        split at e
        · rename_i hl
          cases e
          have := rv_str hz; subst this
          exact call_len_str pins s σ H _ us Q I r ⟨t, rfl, cap_line hl, f.self rs mk_int⟩
        · cases e
      | tup ds =>
        simp only [bapp] at e; cases e
        obtain ⟨a, ws, rfl, h1, h2⟩ := rv_tup hz
        refine call_len_seq pins s σ H _ us Q I r ⟨a, ws, rfl, .inr h1, f.self rs ?_⟩
        rw [h2.length]; exact mk_int
      | fl ds =>
        simp only [bapp] at e; cases e
        obtain ⟨a, ws, rfl, h1, h2⟩ := rv_fl hz
        refine call_len_seq pins s σ H _ us Q I r ⟨a, ws, rfl, .inl h1, f.self rs ?_⟩
        rw [h2.length]; exact mk_int
      | ref q =>
        simp only [bapp] at e
        split at e
        · rename_i xs hg
          cases e
          obtain ⟨a, rfl, h1⟩ := rv_ref hz
          obtain ⟨ws, h3, h2⟩ := rs.list (get_lst hg) h1
          refine call_len_seq pins s σ H _ us Q I r ⟨a, ws, rfl, .inl (SqL.of h3), f.self rs ?_⟩
          rw [h2.length]; exact mk_int
        · rename_i kvs hg
          cases e
          obtain ⟨a, rfl, h1⟩ := rv_ref hz
          obtain ⟨b, hb, xs, hH, rd⟩ := rs.at hg
          rw [h1] at hb; cases hb
          obtain ⟨u, rfl, ru⟩ := vals1 r
          cases ru
          obtain ⟨q1, q2, es, ep, q3, q4⟩ := dct_raw I hH
          have hl : es.size = xs.length := by
            have := congrArg List.length q4
            simpa using this
          refine len_raw q1 q3 (by rw [hl]; exact q2) ⟨.int es.size, H, (I.tok _).tok _, ⟨_, rfl⟩, ?_⟩
          rw [hl, ← rd.length]
          exact f.self rs mk_int
        · rename_i kvs hg
          cases e
          obtain ⟨a, rfl, h1⟩ := rv_ref hz
          obtain ⟨b, hb, xs, hH, rd⟩ := rs.at hg
          rw [h1] at hb; cases hb
          obtain ⟨u, rfl, ru⟩ := vals1 r
          cases ru
          obtain ⟨q1, q2, es, ep, q3, q4⟩ := dci_raw I hH
          have hl : es.size = xs.length := by
            have := q4.length
            simpa using this
          refine len_raw q1 q3 (by rw [hl]; exact q2) ⟨.int es.size, H, (I.tok _).tok _, ⟨_, rfl⟩, ?_⟩
          rw [hl, ← rd.length]
          exact f.self rs mk_int
        · cases e
      | _ => simp only [bapp] at e; cases e
theorem c_all (hc : X.calm = true) : CallR X (.builtin "all") (rN (Cxkw X) (bapp .all)) := by
  intro pins s σ H xs us Q I r h
  obtain ⟨m, S, vs, v, S', rs, hv, e, f⟩ := h
  cases vs with
  | nil => simp only [bapp] at e; cases e
  | cons x rest =>
    cases rest with
    | cons y rest2 => cases x <;> (simp only [bapp] at e; cases e)
    | nil =>
      obtain ⟨z, rfl, hz⟩ := hv.one_of
      cases x with
      | ref q =>
        simp only [bapp] at e
        split at e
        · rename_i xs hl
          obtain ⟨e9, rfl⟩ := R.of_ok e
          obtain ⟨bs, eb, rfl⟩ := Option.map_eq_some_iff.mp e9
          obtain ⟨a, rfl, h1⟩ := rv_ref hz
          obtain ⟨ws, h3, h2⟩ := rs.list hl h1
          have := bools_of eb h2; subst this
          exact cr_all hc pins s σ H _ us Q I r ⟨a, bs, rfl, SqL.of h3, f.self rs mk_bl⟩
        · cases e
      | _ => simp only [bapp] at e; cases e
theorem c_any (hc : X.calm = true) : CallR X (.builtin "any") (rN (Cxkw X) (bapp .any)) := by
  intro pins s σ H xs us Q I r h
  obtain ⟨m, S, vs, v, S', rs, hv, e, f⟩ := h
  cases vs with
  | nil => simp only [bapp] at e; cases e
  | cons x rest =>
    cases rest with
    | cons y rest2 => cases x <;> (simp only [bapp] at e; cases e)
    | nil =>
      obtain ⟨z, rfl, hz⟩ := hv.one_of
      cases x with
      | ref q =>
        simp only [bapp] at e
        split at e
        · rename_i xs hl
          obtain ⟨e9, rfl⟩ := R.of_ok e
          obtain ⟨bs, eb, rfl⟩ := Option.map_eq_some_iff.mp e9
          obtain ⟨a, rfl, h1⟩ := rv_ref hz
          obtain ⟨ws, h3, h2⟩ := rs.list hl h1
          have := bools_of eb h2; subst this
          exact cr_any hc pins s σ H _ us Q I r ⟨a, bs, rfl, SqL.of h3, f.self rs mk_bl⟩
        · cases e
      | _ => simp only [bapp] at e; cases e
theorem rg_of {lo hi : Int} (h : rgOk lo hi = true) : RgOk lo hi := by
  unfold rgOk at h
  simp only [Bool.and_eq_true, decide_eq_true_eq] at h
  obtain ⟨⟨⟨h1, h2⟩, h3, h4⟩, h5⟩ := h
  exact ⟨h1, h2, h3, h4, by omega⟩
theorem c_tuple (hc : X.calm = true) : CallR X (.type "tuple") (rN (Cxkw X) (bapp .tuple)) := by
  intro pins s σ H xs us Q I r h
  obtain ⟨m, S, vs, v, S', rs, hv, e, f⟩ := h
  cases vs with
  | nil => simp only [bapp] at e; cases e
  | cons x rest =>
    cases rest with
    | cons y rest2 => cases x <;> (simp only [bapp] at e; cases e)
    | nil =>
      obtain ⟨z, rfl, hz⟩ := hv.one_of
      cases x with
      | tup ds =>
        simp only [bapp] at e; cases e
        have hz2 := hz
        obtain ⟨a, ws, rfl, h1, h2⟩ := rv_tup hz
        exact call_tuple_of pins s σ H _ us Q I r ⟨a, ws, rfl, .inr ⟨h1, f.self rs hz2⟩⟩
      | ref q =>
        simp only [bapp] at e
        split at e
        · rename_i xs hl
          cases e
          obtain ⟨a, rfl, h1⟩ := rv_ref hz
          obtain ⟨ws, h3, h2⟩ := rs.list hl h1
          exact call_tuple_of pins s σ H _ us Q I r ⟨a, ws, rfl, .inl ⟨SqL.of h3, f.tup rs h2⟩⟩
        · cases e
      | rng lo hi =>
        simp only [bapp] at e
        split at e
        · rename_i hg
          cases e
          obtain ⟨a, rfl, h1⟩ := rv_rng hz
          obtain ⟨b1, b2, b3, b4, b5⟩ := rg_of hg
          obtain ⟨u, rfl, ru⟩ := vals1 r
          cases ru
          obtain ⟨t1, t2, t3, ho⟩ := I.hok a _ h1
          refine call_tuple_range (n := (hi - lo).toNat) (I.ok.hd hc) ho (small_one b1 b2 b3 b4) (rangeSize_nat lo hi) b5 fun h' tk acc hk hi2 => ?_
          have I2 : Inv X pins σ H { s with heap := h', toks := tk } := I.kept hk
          have hn := I2.hok.fresh (Nat.le_refl h'.objs.size)
          refine ⟨.ref h'.objs.size, upd H h'.objs.size (.tup (rgV lo hi)), I2.laid (t' := tk) (fun c o q => Heap.get?_push_of_some _ q) (Nat.le_refl _) (show ObjOk X.prog X.w _ _ _ (.tup (rgV lo hi)) from ⟨?_, acc.toList, vals_rg hi2, ?_⟩), rfl, f.tup rs (rg_vals lo hi) _ hn⟩
          · rw [rgV_length, sizeLine_eq]; omega
          · rw [Array.toArray_toList]; exact IsTup.new _ _
        · cases e
      | _ => simp only [bapp] at e; cases e
theorem c_sorted {k : Nat} (hr : Room k X.A) (hc : X.calm = true) : CallR X (.builtin "sorted") (rN (Cxkw X) (bapp .sorted)) := by
  intro pins s σ H xs us Q I r h
  obtain ⟨m, S, vs, v, S', rs, hv, e, f⟩ := h
  cases vs with
  | nil => simp only [bapp] at e; cases e
  | cons x rest =>
    cases rest with
    | cons y rest2 => cases x <;> (simp only [bapp] at e; cases e)
    | nil =>
      obtain ⟨z, rfl, hz⟩ := hv.one_of
      cases r with
      | cons ru rn =>
        cases rn
        rename_i u
        have fin : ∀ ys, v = .ref S.n → S' = S.new (.lst ys) → ∀ p s' zs, H p = none → Inv X pins σ (upd H p (.lst zs)) s' → RVs (Cxkw X) m H ys zs → EP X pins σ Q (.ref p) s' := by
          rintro ys rfl rfl p s' zs n I' hw
          obtain ⟨q1, q2, q3⟩ := rs.new n hw
          exact ⟨.ref p, _, I', rfl, f _ _ q2 q1 _ q3⟩
        cases x with
        | tup ds =>
          simp only [bapp] at e
          split at e
          · rename_i ys hy
            cases e
            obtain ⟨a, ws, rfl, h1, h2⟩ := rv_tup hz
            obtain rfl : u = Value.ref a := ru
            obtain ⟨its, rv, ⟨o, ho, hcl, nn, hd⟩, hl⟩ := I.tuple h1
            refine sorted_of hr I rs h2 rv hy (fun R E hR => ?_) (fin ys rfl rfl)
            refine wpAny_collect_seq a (.inr rfl) ho hcl hd (fun h' hk => ?_) (by rw [List.size_toArray, ← rv.length]; exact hl)
            exact hR h' s.toks hk
          · cases e
        | ref q =>
          simp only [bapp] at e
          split at e
          · rename_i xs hg
            split at e
            · rename_i ys hy
              cases e
              obtain ⟨a, rfl, h1⟩ := rv_ref hz
              obtain rfl : u = Value.ref a := ru
              obtain ⟨ws, h3, h2⟩ := rs.list (get_lst hg) h1
              obtain ⟨its, rv, ⟨o, nn, ho, hcl, _, hd⟩, hl⟩ := I.list (SqL.of h3)
              refine sorted_of hr I rs h2 rv hy (fun R E hR => ?_) (fin ys rfl rfl)
              refine wpAny_collect_seq a (.inl rfl) ho hcl hd (fun h' hk => ?_) (by rw [List.size_toArray, ← rv.length]; exact hl)
              exact hR h' s.toks hk
            · cases e
          · rename_i kvs hg
            split at e
            · rename_i ys hy
              cases e
              obtain ⟨a, rfl, h1⟩ := rv_ref hz
              obtain rfl : u = Value.ref a := ru
              obtain ⟨b, hb, zs, hH, rd⟩ := rs.at hg
              rw [h1] at hb; cases hb
              obtain ⟨q1, q2, es, ep, q3, q4⟩ := dct_raw I hH
              have hl : es.size = zs.length := by
                have := congrArg List.length q4
                simpa using this
              refine sorted_of hr I rs rd.keys (vals_refs zs) hy (fun R E hR => ?_) (fin ys rfl rfl)
              refine PySem.W.kdu_collect (src_raw q1) (I.ok.hd hc) q3 (by rw [hl]; exact q2) fun h' tk acc hk hacc => ?_
              rw [raw_keys q4 hacc]
              exact hR h' tk hk
            · cases e
          · rename_i kvs hg
            split at e
            · rename_i ys hy
              cases e
              obtain ⟨a, rfl, h1⟩ := rv_ref hz
              obtain rfl : u = Value.ref a := ru
              obtain ⟨b, hb, zs, hH, rd⟩ := rs.at hg
              rw [h1] at hb; cases hb
              obtain ⟨q1, q2, es, ep, q3, q4⟩ := dci_raw I hH
              have hl : es.size = zs.length := by
                have := q4.length
                simpa using this
              refine sorted_of hr I rs rd.keys (pairs_keys q4) hy (fun R E hR => ?_) (fin ys rfl rfl)
              refine PySem.W.kdu_collect (src_raw q1) (I.ok.hd hc) q3 (by rw [hl]; exact q2) fun h' tk acc hk hacc => ?_
              rw [raw_keysG hacc]
              exact hR h' tk hk
            · cases e
          · cases e
        | _ => simp only [bapp] at e; cases e
theorem c_dict {k : Nat} (hr : Room k X.A) (hc : X.calm = true) : CallR X (.type "dict") (rN (Cxkw X) (bapp .dict)) := by
  intro pins s σ H xs us Q I r h
  obtain ⟨m, S, vs, v, S', rs, hv, e, f⟩ := h
  cases vs with
  | nil => simp only [bapp] at e; cases e
  | cons x rest =>
    cases rest with
    | cons y rest2 => cases x <;> (simp only [bapp] at e; cases e)
    | nil =>
      obtain ⟨z, rfl, hz⟩ := hv.one_of
      cases r with
      | cons ru rn =>
        cases rn
        rename_i u
        cases x with
        | ref q =>
          simp only [bapp] at e
          split at e
          · rename_i xs hg
            split at e
            · rename_i ps hp
              split at e
              · rename_i hc2
                cases e
                obtain ⟨a, rfl, h1⟩ := rv_ref hz
                obtain rfl : u = Value.ref a := ru
                obtain ⟨ws, h3, h2⟩ := rs.list hg h1
                refine dict_of hr hc I (SqL.of h3) h2 hp (of_decide_eq_true hc2) fun p s' zs n I' rd => ?_
                have kk : Keeps H (upd H p (.ext (DctP X.w p zs))) := fun b o z _ => by
                  rw [upd_ne (ne_of_none z n)]; exact z
                obtain ⟨q1, q2, q3⟩ := rs.newO (u := .ext (DctP X.w p zs)) (o := .dct (dputs ps [])) n ⟨zs, upd_same, RD.monoK ⟨[], by simp⟩ kk _ _ rd⟩
                exact ⟨.ref p, _, I', rfl, f _ _ q2 q1 _ q3⟩
              · cases e
            · cases e
          · cases e
        | _ => simp only [bapp] at e; cases e
theorem dedup_eq (ns : List Int) : PyProof.Rows.firstMet (fun i => ns.getD i 0) ns.length = ns.foldl PyProof.Rows.step_dedup [] := by
  unfold PyProof.Rows.firstMet
  congr 1
  apply List.ext_getElem?
  intro i
  rw [List.getElem?_map]
  by_cases h : i < ns.length
  · rw [List.getElem?_range h, List.getElem?_eq_getElem h]
    simp [List.getElem?_eq_getElem h]
  · rw [List.getElem?_eq_none (by simpa using h), List.getElem?_eq_none (by omega)]
    rfl
def setOfI (ns : List Int) : HO := .set (fun k => (ns.foldl PyProof.Rows.step_dedup []).any (· == k)) (ns.foldl PyProof.Rows.step_dedup []).length
theorem c_setI (hc : X.calm = true) : CallR X (.type "set") (fun vs H Q => ∃ l ns, vs = [V.ref l] ∧ SqL X.K H l (ns.map V.int) ∧ ns.length + 1 < 4096 ∧ ∀ p, H p = none → Q (.ref p) (upd H p (setOfI ns))) := by
  intro pins s σ H xs us Q I r h
  obtain ⟨l, ns, rfl, hl, hz, q⟩ := h
  cases r with
  | cons ru rn =>
    cases rn
    rename_i u
    obtain rfl : u = Value.ref l := ru
    obtain ⟨its, rv, ⟨o, n, ho, hcl, hdi, hda⟩, _⟩ := I.list hl
    have hi : IntsAre its ns := intsAre_of rv
    have hlen : its.length = ns.length := hi.length
    refine PySem.call_set_list (I.ok.hd hc) ⟨o, ho, hcl, n, hda⟩ (ns := ns) (by simpa using hi) (by rw [List.size_toArray, hlen]; exact hz) fun h' tk hs hk => ?_
    have hsz : its.toArray.size = ns.length := by rw [List.size_toArray]; exact hlen
    rw [hsz, dedup_eq] at hs
    exact ⟨.ref _, _, I.laid (a := s.heap.objs.size) (o := setOfI ns) (fun b ob z => hk b ob (Heap.lt_size z) z) (Nat.le_refl _) hs, rfl, q _ (I.hok.fresh (Nat.le_refl _))⟩
theorem c_lenS : CallR X (.builtin "len") (fun vs H Q => ∃ p S n, vs = [V.ref p] ∧ H p = some (.set S n) ∧ Q (.int n) H) := by
  intro pins s σ H xs us Q I r h
  obtain ⟨p, S, n, rfl, hp, q⟩ := h
  cases r with
  | cons ru rn =>
    cases rn
    rename_i u
    obtain rfl : u = Value.ref p := ru
    obtain ⟨o, es, ep, t, h1, h2, h3, _, _, h4, h5, h6⟩ := I.hok p _ hp
    subst h6
    refine call_len_set h1 h2 h3 h5 ?_ ⟨.int _, H, I.tok _, ⟨_, rfl⟩, q⟩
    have : scanBound = 4096 := rfl
    omega
theorem c_list (hc : X.calm = true) : CallR X (.type "list") (rN (Cxkw X) (bapp .list)) := by
  intro pins s σ H xs us Q I r h
  obtain ⟨m, S, vs, v, S', rs, hv, e, f⟩ := h
  cases vs with
  | nil => simp only [bapp] at e; cases e
  | cons x rest =>
    cases rest with
    | cons y rest2 => cases x <;> (simp only [bapp] at e; cases e)
    | nil =>
      obtain ⟨z, rfl, hz⟩ := hv.one_of
      cases x with
      | tup ds =>
        simp only [bapp] at e; cases e
        obtain ⟨a, ws, rfl, h1, h2⟩ := rv_tup hz
        exact call_list_of pins s σ H _ us Q I r ⟨a, ws, rfl, .inr h1, f.new rs h2⟩
      | ref q =>
        simp only [bapp] at e
        split at e
        · rename_i xs hl
          cases e
          obtain ⟨a, rfl, h1⟩ := rv_ref hz
          obtain ⟨ws, h3, h2⟩ := rs.list (get_lst hl) h1
          exact call_list_of pins s σ H _ us Q I r ⟨a, ws, rfl, .inl (SqL.of h3), f.new rs h2⟩
        · rename_i kvs hg
          cases e
          obtain ⟨a, rfl, h1⟩ := rv_ref hz
          obtain ⟨b, hb, xs, hH, rd⟩ := rs.at hg
          rw [h1] at hb; cases hb
          cases r with
          | cons ru rn =>
            cases rn
            rename_i u
            obtain rfl : u = Value.ref a := ru
            exact list_dict hc I hH rd fun p s' n ws I' hw => by
              obtain ⟨q1, q2, q3⟩ := rs.new n hw
              exact ⟨.ref p, _, I', rfl, f _ _ q2 q1 _ q3⟩
        · rename_i kvs hg
          cases e
          obtain ⟨a, rfl, h1⟩ := rv_ref hz
          obtain ⟨b, hb, xs, hH, rd⟩ := rs.at hg
          rw [h1] at hb; cases hb
          cases r with
          | cons ru rn =>
            cases rn
            rename_i u
            obtain rfl : u = Value.ref a := ru
            exact list_dci hc I hH rd fun p s' n ws I' hw => by
              obtain ⟨q1, q2, q3⟩ := rs.new n hw
              exact ⟨.ref p, _, I', rfl, f _ _ q2 q1 _ q3⟩
        · cases e
      | rng lo hi =>
        simp only [bapp] at e
        split at e
        · rename_i hg
          cases e
          obtain ⟨a, rfl, h1⟩ := rv_rng hz
          obtain ⟨b1, b2, b3, b4, b5⟩ := rg_of hg
          obtain ⟨u, rfl, ru⟩ := vals1 r
          cases ru
          obtain ⟨t1, t2, t3, ho⟩ := I.hok a _ h1
          refine call_list_range (n := (hi - lo).toNat) (I.ok.hd hc) ho (small_one b1 b2 b3 b4) (rangeSize_nat lo hi) b5 fun h' tk acc c' hk e' hi2 => ?_
          have hn := I.hok.fresh (Nat.le_refl s.heap.objs.size)
          refine ⟨.ref s.heap.objs.size, upd H s.heap.objs.size (.lst (rgV lo hi)), I.laid hk (Nat.le_refl _) (show ObjOk X.prog X.w _ _ _ (.lst (rgV lo hi)) from ⟨?_, acc.toList, c', vals_rg hi2, ?_⟩), rfl, f.new rs (rg_vals lo hi) _ hn⟩
          · rw [rgV_length, sizeLine_eq]; omega
          · rw [Array.toArray_toList]; exact e'
        · cases e
      | _ => simp only [bapp] at e; cases e
theorem c_range : CallR X (.type "range") (rN (Cxkw X) (bapp .range)) := by
  intro pins s σ H xs us Q I r h
  obtain ⟨m, S, vs, v, S', rs, hv, e, f⟩ := h
  cases vs with
  | nil => simp only [bapp] at e; cases e
  | cons x rest =>
    cases x with
    | int i =>
      cases rest with
      | nil =>
        simp only [bapp] at e
        split at e
        · rename_i hg
          cases e
          obtain ⟨z, rfl, hz⟩ := hv.one_of
          have := rv_int hz; subst this
          obtain ⟨u, rfl, ru⟩ := vals1 r
          obtain ⟨t, rfl⟩ := ru
          have hn := I.hok.fresh (Nat.le_refl s.heap.objs.size)
          refine call_range_1 ⟨.ref s.heap.objs.size, upd H s.heap.objs.size (.rng 0 i), I.laid (fun b o q => Heap.get?_push_of_some _ q) (Nat.le_refl _) ?_, rfl, f.rng rs _ hn⟩
          exact ⟨_, _, _, Heap.get?_push_size _ rfl⟩
        · cases e
      | cons y rest2 =>
        cases y with
        | int j =>
          cases rest2 with
          | nil =>
            simp only [bapp] at e
            split at e
            · rename_i hg
              cases e
              obtain ⟨z, z2, rfl, hz, hz2⟩ := hv.two_of
              have := rv_int hz; subst this
              have := rv_int hz2; subst this
              exact cr_range2 pins s σ H _ us Q I r ⟨i, j, rfl, f.rng rs⟩
            · cases e
          | cons w r3 => simp only [bapp] at e; cases e
        | _ => simp only [bapp] at e; cases e
    | _ => simp only [bapp] at e; cases e
theorem c_max {k : Nat} (hr : Room k X.A) (hc : X.calm = true) : CallR X (.builtin "max") (rN (Cxkw X) (bapp .max)) := by
  intro pins s σ H xs us Q I r h
  obtain ⟨m, S, vs, v, S', rs, hv, e, f⟩ := h
  cases vs with
  | nil => simp only [bapp] at e; cases e
  | cons x rest =>
    cases rest with
    | nil =>
      obtain ⟨z, rfl, hz⟩ := hv.one_of
      cases x with
      | ref q =>
        simp only [bapp] at e
        split at e
        · rename_i xs hg
          obtain ⟨e9, rfl⟩ := R.of_ok e
          obtain ⟨a, rfl, h1⟩ := rv_ref hz
          obtain ⟨ws, h3, h2⟩ := rs.list hg h1
          cases r with
          | cons ru rn =>
            cases rn
            rename_i u
            obtain rfl : u = Value.ref a := ru
            exact max_of hr hc I rs (SqL.of h3) h2 e9 fun z u s' I' rz hz' => ⟨z, H, I', rz, f.self rs hz'⟩
        · cases e
      | _ => simp only [bapp] at e; cases e
    | cons y rest2 =>
      cases rest2 with
      | cons y2 r3 => cases x <;> cases y <;> (simp only [bapp] at e; cases e)
      | nil =>
        cases x with
        | int i =>
          cases y with
          | int j =>
            simp only [bapp] at e
            cases e
            obtain ⟨z, z2, rfl, hz, hz2⟩ := hv.two_of
            have := rv_int hz; subst this
            have := rv_int hz2; subst this
            exact call_max2 hc pins s σ H _ us Q I r ⟨i, j, rfl, f.self rs mk_int⟩
          | _ => simp only [bapp] at e; cases e
        | _ => simp only [bapp] at e; cases e
theorem c_min {k : Nat} (hr : Room k X.A) (hc : X.calm = true) : CallR X (.builtin "min") (rN (Cxkw X) (bapp .min)) := by
  intro pins s σ H xs us Q I r h
  obtain ⟨m, S, vs, v, S', rs, hv, e, f⟩ := h
  cases vs with
  | nil => simp only [bapp] at e; cases e
  | cons x rest =>
    cases rest with
    | nil =>
      obtain ⟨z, rfl, hz⟩ := hv.one_of
      cases x with
      | ref q =>
        simp only [bapp] at e
        split at e
        · rename_i xs hg
          obtain ⟨e9, rfl⟩ := R.of_ok e
          obtain ⟨a, rfl, h1⟩ := rv_ref hz
          obtain ⟨ws, h3, h2⟩ := rs.list hg h1
          cases r with
          | cons ru rn =>
            cases rn
            rename_i u
            obtain rfl : u = Value.ref a := ru
            exact min_of hr hc I rs (SqL.of h3) h2 e9 fun z u s' I' rz hz' => ⟨z, H, I', rz, f.self rs hz'⟩
        · cases e
      | _ => simp only [bapp] at e; cases e
    | cons y rest2 =>
      cases rest2 with
      | cons y2 r3 => cases x <;> cases y <;> (simp only [bapp] at e; cases e)
      | nil =>
        cases x with
        | int i =>
          cases y with
          | int j =>
            simp only [bapp] at e
            cases e
            obtain ⟨z, z2, rfl, hz, hz2⟩ := hv.two_of
            have := rv_int hz; subst this
            have := rv_int hz2; subst this
            exact call_min2 hc pins s σ H _ us Q I r ⟨i, j, rfl, f.self rs mk_int⟩
          | _ => simp only [bapp] at e; cases e
        | _ => simp only [bapp] at e; cases e
theorem ints_of {K : Kw} {m : List Addr} {H : Hp} : ∀ {xs : List Val} {ns : List Int} {ws : List V}, intsOf xs = some ns → RVs K m H xs ws → ws = ns.map V.int
  | [], ns, ws, e, r => by
    unfold intsOf at e
    simp only [optAll] at e
    cases e
    simp only [RVs] at r
    exact r
  | x :: xs, ns, ws, e, r => by
    simp only [RVs] at r
    obtain ⟨w, ws, rfl, r1, r2⟩ := r
    have e0 : optAll (fun
      | Val.int i => some i
      | _ => none) (x :: xs) = some ns := e
    simp only [optAll] at e0
    split at e0
    · rename_i i hi
      split at e0
      · rename_i ns2 hns
        cases e0
        rw [ints_of (ns := ns2) hns r2]
        split at hi
        · cases hi
          simp only [RV] at r1
          rw [r1]; rfl
        · cases hi
      · cases e0
    · cases e0
mutual
theorem plain_noDict : ∀ d : PyData, d.plain = true → d.hasDict = false
  | .none, _ => rfl
  | .bool _, _ => rfl
  | .int _, _ => rfl
  | .str _, _ => rfl
  | .list xs, h => by simp only [PyData.plain] at h; simp only [PyData.hasDict]; exact plain_noDicts xs h
  | .tuple xs, h => by simp only [PyData.plain] at h; simp only [PyData.hasDict]; exact plain_noDicts xs h
  | .dict _, h => by simp [PyData.plain] at h
theorem plain_noDicts : ∀ xs : List PyData, PyData.plainAll xs = true → PyData.hasDictAll xs = false
  | [], _ => rfl
  | x :: xs, h => by
    simp only [PyData.plainAll, Bool.and_eq_true] at h
    simp only [PyData.hasDictAll, plain_noDict x h.1, plain_noDicts xs h.2, Bool.or_self]
end
/-! ### repr -/
section
variable {pins : List (Addr × Obj)} {σ : L2.St} {H : Hp} {s : Shared} {m : List Addr} {S : Sto}
theorem rreads_all {k : Nat} (ih : ∀ (v : Val) (d : PyData) (x : V) (u : Value), rdat S k v = some d → RV (Cxkw X) m H v x → RelV x u → ∃ as, Reads s.heap u d as ∧ sysModules ∉ as) :
    ∀ (vs : List Val) (ds : List PyData) (xs : List V) (us : List Value), optAll (rdat S k) vs = some ds → RVs (Cxkw X) m H vs xs → Vals xs us → ∃ as, ReadsAll s.heap us ds as ∧ sysModules ∉ as
  | [], ds, xs, us, e, r, q => by
    simp only [optAll] at e
    cases e
    simp only [RVs] at r
    subst r
    cases q
    exact ⟨[], .nil, by simp⟩
  | v :: vs, ds, xs, us, e, r, q => by
    simp only [optAll] at e
    split at e
    · rename_i d hd
      split at e
      · rename_i es he
        cases e
        simp only [RVs] at r
        obtain ⟨y, ys, rfl, r1, r2⟩ := r
        cases q with
        | cons q1 q2 =>
          obtain ⟨as, a1, a2⟩ := ih v d y _ hd r1 q1
          obtain ⟨bs, b1, b2⟩ := rreads_all ih vs es ys _ he r2 q2
          exact ⟨as ++ bs, .cons a1 b1, by simp [a2, b2]⟩
      · cases e
    · cases e
theorem rd_reads {k : Nat} (ih : ∀ (v : Val) (d : PyData) (x : V) (u : Value), rdat S k v = some d → RV (Cxkw X) m H v x → RelV x u → ∃ as, Reads s.heap u d as ∧ sysModules ∉ as) :
    ∀ (kvs : List (Val × Val)) (xs : List (NestedKey × Addr × Value)) (ks ds : List PyData), RD (Cxkw X) m H kvs xs → optAll (rdat S k) (kvs.map (·.1)) = some ks → optAll (rdat S k) (kvs.map (·.2)) = some ds →
      (∃ as, ReadsAll s.heap (xs.map fun x => Value.ref x.2.1) ks as ∧ sysModules ∉ as) ∧ (∃ as, ReadsAll s.heap (xs.map fun x => x.2.2) ds as ∧ sysModules ∉ as) ∧ ks.length = ds.length
  | [], xs, ks, ds, rd, e1, e2 => by
    simp only [RD] at rd
    subst rd
    simp only [List.map_nil, optAll] at e1 e2
    cases e1; cases e2
    exact ⟨⟨[], .nil, by simp⟩, ⟨[], .nil, by simp⟩, rfl⟩
  | p :: r, xs, ks, ds, rd, e1, e2 => by
    obtain ⟨ka, u, vv, ys, rfl, h1, h2, h3, h4, h5⟩ := rd
    simp only [List.map_cons, optAll] at e1 e2
    split at e1
    · rename_i dk hk
      split at e1
      · rename_i ks2 hks
        cases e1
        split at e2
        · rename_i dv hv
          split at e2
          · rename_i ds2 hds
            cases e2
            obtain ⟨⟨as, a1, a2⟩, ⟨bs, b1, b2⟩, hl⟩ := rd_reads ih r ys ks2 ds2 h5 hks hds
            obtain ⟨cs, c1, c2⟩ := ih _ _ _ _ hk h2 (show RelV (.ref ka) (.ref ka) from rfl)
            obtain ⟨es, d1, d2⟩ := ih _ _ _ _ hv h3 h4
            exact ⟨⟨cs ++ as, .cons c1 a1, by simp [a2, c2]⟩, ⟨es ++ bs, .cons d1 b1, by simp [b2, d2]⟩, by simp [hl]⟩
          · cases e2
        · cases e2
      · cases e1
    · cases e1
theorem ri_reads {k : Nat} (ih : ∀ (v : Val) (d : PyData) (x : V) (u : Value), rdat S k v = some d → RV (Cxkw X) m H v x → RelV x u → ∃ as, Reads s.heap u d as ∧ sysModules ∉ as) :
    ∀ (kvs : List (Int × Val)) (xs : List (Int × Value)) (ds : List PyData) (es : List DictEntry), RI (Cxkw X) m H kvs xs → Pairs (intKind X.prog X.w) es xs → optAll (rdat S k) (kvs.map (·.2)) = some ds →
      ReadsAll s.heap (es.map (·.key)) (kvs.map fun p => PyData.int p.1) [] ∧ (∃ as, ReadsAll s.heap (xs.map fun x => x.2) ds as ∧ sysModules ∉ as) ∧ kvs.length = ds.length
  | [], xs, ds, es, rd, pr, e2 => by
    simp only [RI] at rd
    subst rd
    cases pr
    simp only [List.map_nil, optAll] at e2
    cases e2
    exact ⟨.nil, ⟨[], .nil, by simp⟩, rfl⟩
  | p :: r, xs, ds, es, rd, pr, e2 => by
    obtain ⟨u, vv, ys, rfl, h3, h4, h5⟩ := rd
    simp only [List.map_cons, optAll] at e2
    cases pr with
    | cons p1 p2 p3 =>
      split at e2
      · rename_i dv hv
        split at e2
        · rename_i ds2 hds
          cases e2
          obtain ⟨a1, ⟨bs, b1, b2⟩, hl⟩ := ri_reads ih r ys ds2 _ h5 p3 hds
          obtain ⟨es, d1, d2⟩ := ih _ _ _ _ hv h3 h4
          obtain ⟨tk, ek⟩ := Value.isInt_shape p1
          refine ⟨?_, ⟨es ++ bs, .cons d1 b1, by simp [b2, d2]⟩, by simp [hl]⟩
          rw [List.map_cons, List.map_cons, ek]
          exact .cons (as := []) (.int _ _) a1
        · cases e2
      · cases e2
theorem rreads (I : Inv X pins σ H s) (rs : RS (Cxkw X) m H S) : ∀ (k : Nat) (v : Val) (d : PyData) (x : V) (u : Value), rdat S k v = some d → RV (Cxkw X) m H v x → RelV x u → ∃ as, Reads s.heap u d as ∧ sysModules ∉ as
  | 0, v, d, x, u, e, _, _ => by simp only [rdat] at e; cases e
  | k + 1, v, d, x, u, e, r, q => by
    have ih := rreads I rs k
    cases v with
    | non =>
      simp only [rdat] at e; cases e
      simp only [RV] at r; subst r
      obtain rfl : u = Value.none := q
      exact ⟨[], .none, by simp⟩
    | bl b =>
      simp only [rdat] at e; cases e
      simp only [RV] at r; subst r
      obtain rfl : u = Value.bool b := q
      exact ⟨[], .bool b, by simp⟩
    | int i =>
      simp only [rdat] at e; cases e
      simp only [RV] at r; subst r
      obtain ⟨t, rfl⟩ := q
      exact ⟨[], .int i t, by simp⟩
    | str w =>
      simp only [rdat] at e; cases e
      simp only [RV] at r; subst r
      obtain ⟨t, rfl⟩ := q
      exact ⟨[], .str w t, by simp⟩
    | tup xs =>
      simp only [rdat] at e
      split at e
      · rename_i ds hd
        cases e
        obtain ⟨a, ws, rfl, h1, h2⟩ := rv_tup r
        obtain rfl : u = Value.ref a := q
        obtain ⟨its, rv, ⟨o, ho, hc, n, hdd⟩, _⟩ := I.tuple h1
        obtain ⟨as, a1, a2⟩ := rreads_all ih xs ds ws its hd h2 rv
        exact ⟨as, .tuple ho hc hdd (by simpa using a1), a2⟩
      · cases e
    | ref rr =>
      simp only [rdat] at e
      split at e
      · rename_i kvs hg
        split at e
        · rename_i ks ds h1 h2
          cases e
          obtain ⟨a, rfl, ha⟩ := rv_ref r
          obtain rfl : u = Value.ref a := q
          obtain ⟨b, hb, xs, hH, rd⟩ := rs.at hg
          rw [ha] at hb; cases hb
          obtain ⟨z1, z2, es, ep, ⟨o, ho, hx, hdd⟩, he⟩ := dct_raw I hH
          obtain ⟨⟨as, a1, a2⟩, ⟨bs, b1, b2⟩, hl⟩ := rd_reads ih kvs xs ks ds rd h1 h2
          have e1 : es.toList.map (·.key) = xs.map fun x => Value.ref x.2.1 := by rw [he, List.map_map]; rfl
          have e2 : es.toList.map (·.val) = xs.map fun x => x.2.2 := by rw [he, List.map_map]; rfl
          have f1 : (ks.zip ds).map (·.1) = ks := by rw [List.map_fst_zip]; omega
          have f2 : (ks.zip ds).map (·.2) = ds := by rw [List.map_snd_zip]; omega
          refine ⟨a :: as ++ bs, .dict ho hx.1 hdd (by rw [e1, f1]; exact a1) (by rw [e2, f2]; exact b1), ?_⟩
          have : sysModules ≠ a := fun z => by rw [← z] at z1; simp at z1
          simp [this, a2, b2]
        · cases e
      · rename_i kvs hg
        split at e
        · rename_i ds h2
          cases e
          obtain ⟨a, rfl, ha⟩ := rv_ref r
          obtain rfl : u = Value.ref a := q
          obtain ⟨b, hb, xs, hH, rd⟩ := rs.at hg
          rw [ha] at hb; cases hb
          obtain ⟨z1, z2, es, ep, ⟨o, ho, hx, hdd⟩, he⟩ := dci_raw I hH
          obtain ⟨a1, ⟨bs, b1, b2⟩, hl⟩ := ri_reads ih kvs xs ds es.toList rd he h2
          have f1 : ((kvs.map fun p => PyData.int p.1).zip ds).map (·.1) = kvs.map fun p => PyData.int p.1 := by rw [List.map_fst_zip]; rw [List.length_map]; omega
          have f2 : ((kvs.map fun p => PyData.int p.1).zip ds).map (·.2) = ds := by rw [List.map_snd_zip]; rw [List.length_map]; omega
          refine ⟨a :: [] ++ bs, .dict ho hx.1 hdd (by rw [f1]; exact a1) (by rw [pairs_vals he, f2]; exact b1), ?_⟩
          have : sysModules ≠ a := fun z => by rw [← z] at z1; simp at z1
          simp [this, b2]
        · cases e
      · cases e
    | fl xs => simp only [rdat] at e; cases e
    | rng lo hi => simp only [rdat] at e; cases e
end
theorem rdepth_all {S : Sto} {k : Nat} (ih : ∀ (v : Val) (d : PyData), rdat S k v = some d → d.depth ≤ k) : ∀ (vs : List Val) (ds : List PyData), optAll (rdat S k) vs = some ds → PyData.depthAll ds ≤ k
  | [], ds, e => by simp only [optAll] at e; cases e; simp [PyData.depthAll]
  | v :: vs, ds, e => by
    simp only [optAll] at e
    split at e
    · rename_i d hd
      split at e
      · rename_i es he
        cases e
        have h1 := ih v d hd
        have h2 := rdepth_all ih vs es he
        simp only [PyData.depthAll]
        omega
      · cases e
    · cases e
theorem depthKv_le {k : Nat} : ∀ (ks ds : List PyData), PyData.depthAll ks ≤ k → PyData.depthAll ds ≤ k → PyData.depthKv (ks.zip ds) ≤ k
  | [], ds, _, _ => by simp [PyData.depthKv]
  | a :: ks, [], _, _ => by simp [PyData.depthKv]
  | a :: ks, b :: ds, h1, h2 => by
    simp only [PyData.depthAll] at h1 h2
    have := depthKv_le (k := k) ks ds (by omega) (by omega)
    simp only [List.zip_cons_cons, PyData.depthKv]
    omega
theorem rdepth {S : Sto} : ∀ (k : Nat) (v : Val) (d : PyData), rdat S k v = some d → d.depth ≤ k
  | 0, v, d, e => by simp only [rdat] at e; cases e
  | k + 1, v, d, e => by
    have ih := rdepth (S := S) k
    cases v with
    | non => simp only [rdat] at e; cases e; simp [PyData.depth]
    | bl b => simp only [rdat] at e; cases e; simp [PyData.depth]
    | int i => simp only [rdat] at e; cases e; simp [PyData.depth]
    | str s => simp only [rdat] at e; cases e; simp [PyData.depth]
    | tup xs =>
      simp only [rdat] at e
      split at e
      · rename_i ds hd
        cases e
        have := rdepth_all ih xs ds hd
        simp only [PyData.depth]; omega
      · cases e
    | fl xs => simp only [rdat] at e; cases e
    | rng lo hi => simp only [rdat] at e; cases e
    | ref q =>
      simp only [rdat] at e
      split at e
      · split at e
        · rename_i ks ds h1 h2
          cases e
          have := depthKv_le ks ds (rdepth_all ih _ ks h1) (rdepth_all ih _ ds h2)
          simp only [PyData.depth]; omega
        · cases e
      · rename_i kvs hg
        split at e
        · rename_i ds h2
          cases e
          have hk : PyData.depthAll (kvs.map fun p => PyData.int p.1) ≤ k := by
            clear hg h2
            induction kvs with
            | nil => simp [PyData.depthAll]
            | cons q r ih2 => simp only [List.map_cons, PyData.depthAll, PyData.depth]; omega
          have := depthKv_le _ ds hk (rdepth_all ih _ ds h2)
          simp only [PyData.depth]; omega
        · cases e
      · cases e
theorem reprD_ok {d : PyData} {x : Str} (h : reprD d = some x) : d.showable = true ∧ d.shown.length ≤ cap ∧ x = d.shown := by
  unfold reprD at h
  split at h
  · rename_i hc
    cases h
    simp only [Bool.and_eq_true, decide_eq_true_eq] at hc
    exact ⟨hc.1, hc.2, rfl⟩
  · cases h
theorem c_repr {k : Nat} (hr : Room k X.A) (hgd : X.A.guards = some []) : CallR X (.builtin "repr") (rN (Cxkw X) (bapp .repr)) := by
  intro pins s σ H xs us Q I r h
  obtain ⟨m, S, vs, v, S', rs, hv, e, f⟩ := h
  cases vs with
  | nil => simp only [bapp] at e; cases e
  | cons x rest =>
    cases rest with
    | cons y rest2 => simp only [bapp] at e; cases e
    | nil =>
      simp only [bapp] at e
      obtain ⟨e9, rfl⟩ := R.of_ok e
      obtain ⟨tx, e1, rfl⟩ := Option.map_eq_some_iff.mp e9
      obtain ⟨z, rfl, hz⟩ := hv.one_of
      cases r with
      | cons ru rn =>
        cases rn
        rename_i u
        have h12 : deep = 12 := rfl
        have key : ∃ d, reprD d = some tx ∧ d.depth ≤ 12 ∧ ∃ as, Reads s.heap u d as ∧ (d.hasDict = true → sysModules ∉ as) := by
          unfold reprOf at e1
          split at e1
          · rename_i d hd
            obtain ⟨as, r1⟩ := Dp.reads I d _ _ (dp_of rs deep _ _ _ hd hz) ru
            refine ⟨d, e1, depth_le _ _ _ hd, as, r1, fun hh => ?_⟩
            have hp := dat_plain _ _ _ hd
            rw [plain_noDict d hp] at hh
            cases hh
          · split at e1
            · rename_i d hd
              obtain ⟨as, r1, r2⟩ := rreads I rs deep _ _ _ _ hd hz ru
              exact ⟨d, e1, rdepth _ _ _ hd, as, r1, fun _ => r2⟩
            · cases e1
        obtain ⟨d, hd, hdp, as, rd, hsm⟩ := key
        obtain ⟨hs, hlen, rfl⟩ := reprD_ok hd
        have hun := hr.un
        have hcap := cap_line hlen
        cases rd with
        | none => exact P.repr_of_none ⟨.str (PyData.none).shown, H, I.tok _, ⟨_, rfl⟩, f.self rs mk_str⟩
        | bool b => exact P.repr_of_bool ⟨.str (PyData.bool b).shown, H, I.tok _, ⟨_, by cases b <;> rfl⟩, f.self rs mk_str⟩
        | int i t => exact P.repr_of_int (by simpa [PyData.showable] using hs) ⟨.str (PyData.int i).shown, H, I.tok _, ⟨_, rfl⟩, f.self rs mk_str⟩
        | str x t => exact P.repr_of_str ⟨.str (PyData.str x).shown, H, I.tok _, ⟨_, rfl⟩, f.self rs mk_str⟩ (by simpa only [PyData.shown] using hcap)
        | list h1 h2 h3 h4 => exact repr_of_reads' (.list h1 h2 h3 h4) hs hsm hgd (by omega) (fun b o q => q) (fun h' u' tk hk => ⟨.str _, H, I.kept (t' := tk) hk, ⟨_, rfl⟩, f.self rs mk_str⟩) hcap
        | tuple h1 h2 h3 h4 => exact repr_of_reads' (.tuple h1 h2 h3 h4) hs hsm hgd (by omega) (fun b o q => q) (fun h' u' tk hk => ⟨.str _, H, I.kept (t' := tk) hk, ⟨_, rfl⟩, f.self rs mk_str⟩) hcap
        | dict h1 h2 h3 h4 h5 => exact repr_of_reads' (.dict h1 h2 h3 h4 h5) hs hsm hgd (by omega) (fun b o q => q) (fun h' u' tk hk => ⟨.str _, H, I.kept (t' := tk) hk, ⟨_, rfl⟩, f.self rs mk_str⟩) hcap
theorem c_sum (hc : X.calm = true) : CallR X (.builtin "sum") (rN (Cxkw X) (bapp .sum)) := by
  intro pins s σ H xs us Q I r h
  obtain ⟨m, S, vs, v, S', rs, hv, e, f⟩ := h
  unfold bapp at e
  split at e <;> try contradiction
  rename_i rr _
  split at e
  · rename_i xs2 hl
    split at e
    · rename_i ns hns
      cases e
      obtain ⟨z, rfl, hz⟩ := hv.one_of
      obtain ⟨a, rfl, h1⟩ := rv_ref hz
      obtain ⟨ws, h3, h2⟩ := rs.list hl h1
      rw [ints_of hns h2] at h3
      exact cr_sum hc pins s σ H _ us Q I r ⟨a, ns, rfl, SqL.of h3, f.self rs mk_int⟩
    · cases e
  · cases e
theorem c_abs : CallR X (.builtin "abs") (rN (Cxkw X) (bapp .abs)) := by
  intro pins s σ H xs us Q I r h
  obtain ⟨m, S, vs, v, S', rs, hv, e, f⟩ := h
  unfold bapp at e
  split at e <;> try contradiction
  rename_i i _
  cases e
  obtain ⟨z, rfl, hz⟩ := hv.one_of
  have := rv_int hz; subst this
  exact call_abs pins s σ H _ us Q I r ⟨i, rfl, f.self rs mk_int⟩
theorem c_divmod : CallR X (.builtin "divmod") (rN (Cxkw X) (bapp .divmod)) := by
  intro pins s σ H xs us Q I r h
  obtain ⟨m, S, vs, v, S', rs, hv, e, f⟩ := h
  unfold bapp at e
  split at e <;> try contradiction
  rename_i i j _
  split at e
  · rename_i hd
    cases e
    obtain ⟨z, z2, rfl, hz, hz2⟩ := hv.two_of
    have := rv_int hz; subst this
    have := rv_int hz2; subst this
    simp only [divOk, Bool.and_eq_true, decide_eq_true_eq] at hd
    exact call_divmod pins s σ H _ us Q I r ⟨i, j, rfl, hd, f.tup rs (RVs.cons mk_int (RVs.one mk_int))⟩
  · cases e
theorem c_int : CallR X (.type "int") (rN (Cxkw X) (bapp .int)) := by
  intro pins s σ H xs us Q I r h
  obtain ⟨m, S, vs, v, S', rs, hv, e, f⟩ := h
  unfold bapp at e
  split at e <;> try contradiction
  · rename_i i _
    cases e
    obtain ⟨z, rfl, hz⟩ := hv.one_of
    have := rv_int hz; subst this
    exact call_int1 pins s σ H _ us Q I r (.inl ⟨i, rfl, f.self rs mk_int⟩)
  · rename_i b _
    cases e
    obtain ⟨z, rfl, hz⟩ := hv.one_of
    have := rv_bl hz; subst this
    exact call_int1 pins s σ H _ us Q I r (.inr ⟨b, rfl, f.self rs mk_int⟩)

/-! ### methods -/
theorem m_index {k : Nat} (hr : Room k X.A) : MtR X "list.index" (rM (Cxkw X) (mapp .index)) := by
  intro pins s σ H x xs v us Q I rx rxs h
  obtain ⟨m, S, o, vs, v, S', rs, ho, hv, e, f⟩ := h
  cases o with
  | ref q =>
    cases vs with
    | nil => simp only [mapp] at e; cases e
    | cons y rest =>
      cases rest with
      | cons y2 rest2 => simp only [mapp] at e; cases e
      | nil =>
        simp only [mapp] at e
        split at e
        · rename_i d ds h1 h2
          split at e
          · rename_i j hj
            cases e
            obtain ⟨z, rfl, hz⟩ := hv.one_of
            have ho2 := ho
            obtain ⟨a, rfl, _⟩ := rv_ref ho
            obtain ⟨p1, s1⟩ := lay_ok rs h1 hz
            obtain ⟨p2, s2⟩ := lay_ok rs h2 ho2
            obtain ⟨hlt, hz1, hz2⟩ := List.findIdx?_eq_some_iff_getElem.mp hj
            refine mt_indexD (room65 hr) pins s σ H _ _ _ _ Q I rx rxs ⟨a, z, d, ds, j, ds[j], rfl, rfl, p2, p1, s2, s1, List.getElem?_eq_getElem hlt, hz1, fun i z' hi hz' => ?_, f.self rs mk_int⟩
            obtain ⟨hl2, rfl⟩ := List.getElem?_eq_some_iff.mp hz'
            simpa using hz2 i hi
          · cases e
        · cases e
  | _ => simp only [mapp] at e; cases e
theorem m_append : MtR X "list.append" (rM (Cxkw X) (mapp .append)) := by
  intro pins s σ H x xs v us Q I rx rxs h
  obtain ⟨m, S, o, vs, w, S', rs, ho, hv, e, f⟩ := h
  unfold mapp at e
  split at e <;> try contradiction
  rename_i r y _
  split at e <;> try contradiction
  rename_i zs hl
  split at e <;> try contradiction
  rename_i hz
  cases e
  obtain ⟨a, rfl, h1⟩ := rv_ref ho
  obtain ⟨yv, rfl, hy⟩ := hv.one_of
  obtain ⟨ws, h3, h2⟩ := rs.list hl h1
  obtain ⟨q1, q2⟩ := rs.put (ys := zs ++ [y]) (vs := ws ++ [yv]) hl h1 (h2.append (RVs.one hy))
  refine mt_append pins s σ H _ _ v us Q I rx rxs ⟨a, ws, yv, rfl, rfl, h3, ?_, f _ _ q2 q1 _ mk_non⟩
  rw [← h2.length]
  exact Nat.lt_of_lt_of_le hz (by rw [sizeLine_eq]; decide)
theorem seqIx {n : Nat} {i : Int} {k : Nat} (h : L2.ixN n i = some k) : seqIndex? i n = some k := (ixN_seq h).1
theorem m_pop : MtR X "list.pop" (rM (Cxkw X) (mapp .pop)) := by
  intro pins s σ H x xs v us Q I rx rxs h
  obtain ⟨m, S, o, vs, w, S', rs, ho, hv, e, f⟩ := h
  unfold mapp at e
  split at e <;> try contradiction
  · rename_i r _
    split at e <;> try contradiction
    rename_i zs hl
    split at e <;> try contradiction
    rename_i y hy
    cases e
    obtain ⟨a, rfl, h1⟩ := rv_ref ho
    have := hv.nil_of; subst this
    obtain ⟨ws, h3, h2⟩ := rs.list hl h1
    obtain ⟨q1, q2⟩ := rs.put (ys := zs.dropLast) (vs := ws.dropLast) hl h1 h2.dropLast
    obtain ⟨yv, y1, y2⟩ := h2.get hy
    rw [h2.length] at y1
    exact mt_pop pins s σ H _ _ v us Q I rx rxs ⟨a, ws, yv, rfl, rfl, h3, y1, f _ _ q2 q1 _ (RV.mono q2 rs.muts _ _ y2)⟩
  · rename_i r i _
    split at e <;> try contradiction
    rename_i zs hl
    split at e <;> try contradiction
    rename_i k hk
    split at e <;> try contradiction
    rename_i y hy
    split at e <;> try contradiction
    rename_i hcap
    cases e
    obtain ⟨a, rfl, h1⟩ := rv_ref ho
    obtain ⟨iv, rfl, hi⟩ := hv.one_of
    have := rv_int hi; subst this
    obtain ⟨ws, h3, h2⟩ := rs.list hl h1
    obtain ⟨q1, q2⟩ := rs.put (ys := zs.eraseIdx k) (vs := ws.eraseIdx k) hl h1 (h2.eraseIdx k)
    obtain ⟨yv, y1, y2⟩ := h2.get hy
    unfold place at hk
    rw [h2.length] at hk
    obtain ⟨g1, g2, g3, g4⟩ := ixN_seq hk
    have hc2 : zs.length ≤ 1000000 := of_decide_eq_true hcap
    have := h2.length
    exact mt_popAt pins s σ H _ _ v us Q I rx rxs ⟨a, ws, i, k, yv, rfl, rfl, h3, by omega, by omega, g1, y1, f _ _ q2 q1 _ (RV.mono q2 rs.muts _ _ y2)⟩
theorem m_extend : MtR X "list.extend" (rM (Cxkw X) (mapp .extend)) := by
  intro pins s σ H x xs v us Q I rx rxs h
  obtain ⟨m, S, o, vs, w, S', rs, ho, hv, e, f⟩ := h
  unfold mapp at e
  split at e <;> try contradiction
  rename_i r q _
  split at e <;> try contradiction
  rename_i zs ys hl hl2
  split at e <;> try contradiction
  rename_i hz
  cases e
  rw [Bool.and_eq_true, decide_eq_true_eq] at hz
  obtain ⟨a, rfl, h1⟩ := rv_ref ho
  obtain ⟨yv, rfl, hy⟩ := hv.one_of
  obtain ⟨b, rfl, h4⟩ := rv_ref hy
  obtain ⟨ws, h3, h2⟩ := rs.list hl h1
  obtain ⟨ws2, h6, h5⟩ := rs.list hl2 h4
  obtain ⟨q1, q2⟩ := rs.put (ys := zs ++ ys) (vs := ws ++ ws2) hl h1 (h2.append h5)
  refine mt_extend pins s σ H _ _ v us Q I rx rxs ⟨a, b, ws, ws2, rfl, rfl, h3, h6, ?_, f _ _ q2 q1 _ mk_non⟩
  rw [← h2.length, ← h5.length]
  exact cap_line hz.1
end
end Mp

set_option Elab.async false
set_option linter.all false
set_option maxRecDepth 100000
set_option maxHeartbeats 1000000
/-! Mp, part G: readings of the little language; expressions. -/
namespace Mp
open PySem PySem.Spec PyProof.Rows L2
abbrev CF := Nat → List Val → Sto → R Val
theorem bind_ok {α β : Type} {x : R α} {f : α → Sto → R β} {b : β} {S' : Sto} (h : x.bind f = .ok b S') : ∃ a S1, x = .ok a S1 ∧ f a S1 = .ok b S' := by
  cases x with
  | ok a S => exact ⟨a, S, rfl, h⟩
  | exc e S => cases h
  | err => cases h
theorem tru_ok2 {v : Val} {S S1 : Sto} {b : Bool} (h : truR v S = .ok b S1) : tru S v = some b ∧ S1 = S := R.of_ok h

def rdE (K : Kw) (cf : CF) (e : ME) : TE := fun σ H Q => ∃ env S m v S', RS K m H S ∧ RE K m H env σ ∧ evE cf e env S = .ok v S' ∧ Fin K m H v S' Q
def rdT (K : Kw) (cf : CF) (e : ME) : TT := fun σ H Q => ∃ env S m v S' b, RS K m H S ∧ RE K m H env σ ∧ evE cf e env S = .ok v S' ∧ tru S' v = some b ∧ Aft K m H S' fun _ H2 => Q b H2
def rdA (K : Kw) (cf : CF) (e : MA) : TA := fun σ H Q => ∃ env S m vs S', RS K m H S ∧ RE K m H env σ ∧ evA cf e env S = .ok vs S' ∧ Aft K m H S' fun m2 H2 => ∀ zs, RVs K m2 H2 vs zs → Q zs H2
def rdG (K : Kw) (cf : CF) (g : MG) : TG := fun x σ H Q => ∃ env S m v env2 S', RS K m H S ∧ RE K m H env σ ∧ RV K m H v x ∧ asG cf g v env S = .ok env2 S' ∧ Aft K m H S' fun m2 H2 => ∀ σ2, RE K m2 H2 env2 σ2 → Q σ2 H2
def rdGs (K : Kw) (cf : CF) (g : MGs) : TGs := fun xs σ H Q => ∃ env S m vs env2 S', RS K m H S ∧ RE K m H env σ ∧ RVs K m H vs xs ∧ asGs cf g vs env S = .ok env2 S' ∧ Aft K m H S' fun m2 H2 => ∀ σ2, RE K m2 H2 env2 σ2 → Q σ2 H2

section
variable {X : Cx} {cf : CF} {e : Expr}
theorem PE_imp {t u : TE} (h : PE X e t) (i : ∀ σ H Q, u σ H Q → t σ H Q) : PE X e u := ⟨fun pins s σ H Q I q => h.run pins s σ H Q I (i σ H Q q)⟩
theorem PT_imp {t u : TT} (h : PT X e t) (i : ∀ σ H Q, u σ H Q → t σ H Q) : PT X e u := ⟨fun pins s σ H Q I q => h.run pins s σ H Q I (i σ H Q q)⟩
theorem PW_imp {t u : TT} (h : PW X e t) (i : ∀ σ H Q, u σ H Q → t σ H Q) : PW X e u := ⟨fun wh pins s σ H Q I q => h.run wh pins s σ H Q I (i σ H Q q)⟩
theorem PA_imp {es : List Expr} {t u : TA} (h : PA X es t) (i : ∀ σ H Q, u σ H Q → t σ H Q) : PA X es u := ⟨fun pos pins s σ H Q I q => h.run pos pins s σ H Q I (i σ H Q q)⟩
theorem PG_imp {t u : TG} (h : PG X e t) (i : ∀ x σ H Q, u x σ H Q → t x σ H Q) : PG X e u := ⟨fun pins s σ H v w Q I r q => h.run pins s σ H v w Q I r (i v σ H Q q)⟩
theorem PGs_imp {es : List Expr} {t u : TGs} (h : PGs X es t) (i : ∀ x σ H Q, u x σ H Q → t x σ H Q) : PGs X es u := ⟨fun pins s σ H v w Q I r q => h.run pins s σ H v w Q I r (i v σ H Q q)⟩

/-! ### small expressions -/
theorem sn_non {j pos} : PE X (.Constant .none j pos) (rdE (Cxkw X) cf .non) := PE_imp pe_non fun σ H Q ⟨env, S, m, v, S', rs, re, e, f⟩ => by
  simp only [evE] at e; cases e; exact f.self rs mk_non
theorem sn_bl {b j pos} : PE X (.Constant (.bool b) j pos) (rdE (Cxkw X) cf (.bl b)) := PE_imp pe_bl fun σ H Q ⟨env, S, m, v, S', rs, re, e, f⟩ => by
  simp only [evE] at e; cases e; exact f.self rs mk_bl
theorem sn_int {b j pos} : PE X (.Constant (.int b) j pos) (rdE (Cxkw X) cf (.int b)) := PE_imp pe_int fun σ H Q ⟨env, S, m, v, S', rs, re, e, f⟩ => by
  simp only [evE] at e; cases e; exact f.self rs mk_int
theorem sn_str {b j pos} : PE X (.Constant (.str b) j pos) (rdE (Cxkw X) cf (.str b)) := PE_imp pe_str fun σ H Q ⟨env, S, m, v, S', rs, re, e, f⟩ => by
  simp only [evE] at e; cases e; exact f.self rs mk_str
theorem sn_var {i : Nat} {x : Str} {pos : Pos} (hN : X.N[i]? = some x) (hv : Vis X.env.scope x) (hd : (x == ("__debug__" : Str)) = false) (hcd : (x == ("__classdict__" : Str)) = false) : PE X (.Name x pos) (rdE (Cxkw X) cf (.var i)) :=
  PE_imp (pe_var hN hv hd hcd) fun σ H Q ⟨env, S, m, v, S', rs, re, e, f⟩ => by
    simp only [evE] at e
    split at e
    · rename_i w hw
      cases e
      obtain ⟨z, h1, h2⟩ := re.at_ i _ hw
      exact ⟨z, h1, f.self rs h2⟩
    · cases e
theorem sn_gint {x : Str} {i : Int} {t : Tok} {pos : Pos} (hg : Gl X x) (hm : X.mg x = some (.int i t)) (hd : (x == ("__debug__" : Str)) = false) : PE X (.Name x pos) (rdE (Cxkw X) cf (.gint x i)) :=
  PE_imp (pe_glob (v := .int i) hg hm ⟨t, rfl⟩ hd) fun σ H Q ⟨env, S, m, v, S', rs, re, e, f⟩ => by
    simp only [evE] at e; cases e; exact f.self rs mk_int
theorem sn_gstr {x z : Str} {t : Tok} {pos : Pos} (hg : Gl X x) (hm : X.mg x = some (.str z t)) (hd : (x == ("__debug__" : Str)) = false) : PE X (.Name x pos) (rdE (Cxkw X) cf (.gstr x z)) :=
  PE_imp (pe_glob (v := .str z) hg hm ⟨t, rfl⟩ hd) fun σ H Q ⟨env, S, m, v, S', rs, re, e, f⟩ => by
    simp only [evE] at e; cases e; exact f.self rs mk_str

/-! ### two in a row -/
variable {a b c : Expr} {ma mb mc : ME} {pos : Pos}
theorem two {g : Val → Val → Sto → R Val} {σ : L2.St} {H : Hp} {Q : VK} {env : Env} {S S' : Sto} {m : List Addr} {v : Val} (rs : RS (Cxkw X) m H S) (re : RE (Cxkw X) m H env σ)
    (e : ((evE cf ma env S).bind fun x S1 => (evE cf mb env S1).bind fun y S2 => g x y S2) = .ok v S') (f : Fin (Cxkw X) m H v S' Q) : tOp (r2 (Cxkw X) g) (rdE (Cxkw X) cf ma) (rdE (Cxkw X) cf mb) σ H Q := by
  obtain ⟨x, S1, e1, e⟩ := bind_ok e
  obtain ⟨y, S2, e2, e⟩ := bind_ok e
  exact ⟨env, S, m, x, S1, rs, re, e1, fun m1 H1 ex1 rs1 xv hx => ⟨env, S1, m1, y, S2, rs1, re.mono ex1 rs.muts, e2, fun m2 H2 ex2 rs2 yv hy =>
    ⟨m2, S2, x, y, v, S', rs2, RV.mono ex2 rs1.muts x xv hx, hy, e, f.on (ex1.trans ex2)⟩⟩⟩
theorem sn_bin {o : Operator} {op : BOp} (ho : OpR X (binaryOp o) (r2 (Cxkw X) (bop op))) (ha : PE X a (rdE (Cxkw X) cf ma)) (hb : PE X b (rdE (Cxkw X) cf mb)) : PE X (.BinOp a o b pos) (rdE (Cxkw X) cf (.bin op ma mb)) :=
  PE_imp (pe_op ho ha hb) fun σ H Q ⟨env, S, m, v, S', rs, re, e, f⟩ => by
    simp only [evE] at e
    exact two rs re e f
theorem sn_cmp {o : CmpOp} {op : COp} (ho : OpR X (compareOp o) (r2 (Cxkw X) (cop op))) (ha : PE X a (rdE (Cxkw X) cf ma)) (hb : PE X b (rdE (Cxkw X) cf mb)) (hm : behindInMarks o b = false) : PE X (.Compare a [o] [b] pos) (rdE (Cxkw X) cf (.cmp op ma mb)) :=
  PE_imp (pe_cmpR ho ha hb hm) fun σ H Q ⟨env, S, m, v, S', rs, re, e, f⟩ => by
    simp only [evE] at e
    exact two rs re e f
theorem cop_bl {op : COp} {x y v : Val} {S S' : Sto} (h : cop op x y S = .ok v S') : ∃ b, v = .bl b := by
  cases op with
  | eq => simp only [cop] at h; obtain ⟨h, _⟩ := R.of_ok h; obtain ⟨b, _, rfl⟩ := Option.map_eq_some_iff.mp h; exact ⟨_, rfl⟩
  | ne => simp only [cop] at h; obtain ⟨h, _⟩ := R.of_ok h; obtain ⟨b, _, rfl⟩ := Option.map_eq_some_iff.mp h; exact ⟨_, rfl⟩
  | lt => simp only [cop] at h; obtain ⟨h, _⟩ := R.of_ok h; obtain ⟨b, _, rfl⟩ := Option.map_eq_some_iff.mp h; exact ⟨_, rfl⟩
  | gt => simp only [cop] at h; split at h <;> cases h; exact ⟨_, rfl⟩
  | le => simp only [cop] at h; split at h <;> cases h; exact ⟨_, rfl⟩
  | ge => simp only [cop] at h; split at h <;> cases h; exact ⟨_, rfl⟩
  | is => simp only [cop] at h; split at h <;> cases h <;> exact ⟨_, rfl⟩
  | nis => simp only [cop] at h; split at h <;> cases h <;> exact ⟨_, rfl⟩
  | mem =>
    obtain ⟨_, hc⟩ := mem_case false h
    rcases hc with ⟨ys, b, hs, eb, rfl⟩ | ⟨r, kvs, rfl, hg, hk, rfl⟩ | ⟨r, kvs, i, rfl, hg, rfl, rfl⟩ <;> exact ⟨_, rfl⟩
  | nmem =>
    obtain ⟨_, hc⟩ := mem_case true h
    rcases hc with ⟨ys, b, hs, eb, rfl⟩ | ⟨r, kvs, rfl, hg, hk, rfl⟩ | ⟨r, kvs, i, rfl, hg, rfl, rfl⟩ <;> exact ⟨_, rfl⟩
/-- a test from a value that is a truth -/
theorem tru_bl {K : Kw} {m : List Addr} {H : Hp} {S : Sto} {b c : Bool} {Φ : Bool → Hp → Prop} (h : tru S (.bl b) = some c) (f : Aft K m H S fun _ H2 => Φ c H2) : Aft K m H S fun _ H2 => Φ b H2 := by
  simp only [tru] at h; cases h; exact f
theorem st_cmp {o : CmpOp} {op : COp} (ho : OpR X (compareOp o) (r2 (Cxkw X) (cop op))) (ha : PE X a (rdE (Cxkw X) cf ma)) (hb : PE X b (rdE (Cxkw X) cf mb)) (hm : behindInMarks o b = false) : PT X (.Compare a [o] [b] pos) (rdT (Cxkw X) cf (.cmp op ma mb)) :=
  PT_imp (pt_cmpR ho ha hb hm) fun σ H Q ⟨env, S, m, v, S', t, rs, re, e, et, f⟩ => by
    simp only [evE] at e
    obtain ⟨x, S1, e1, e2⟩ := bind_ok e
    obtain ⟨y, S2, e3, e4⟩ := bind_ok e2
    obtain ⟨bb, rfl⟩ := cop_bl e4
    refine two rs re e fun m2 H2 ex rs2 z hz => ?_
    exact ⟨bb, rv_bl hz, tru_bl (Φ := Q) et f m2 H2 ex rs2⟩
theorem three {op op2 : COp} {σ : L2.St} {H : Hp} {Q : VK} {env : Env} {S S' : Sto} {m : List Addr} {v : Val} (rs : RS (Cxkw X) m H S) (re : RE (Cxkw X) m H env σ)
    (e : evE cf (.chain op op2 ma mb mc) env S = .ok v S') (f : Fin (Cxkw X) m H v S' Q) : tChain (r2 (Cxkw X) (cop op)) (r2 (Cxkw X) (cop op2)) (rdE (Cxkw X) cf ma) (rdE (Cxkw X) cf mb) (rdE (Cxkw X) cf mc) σ H Q := by
  simp only [evE] at e
  obtain ⟨x, S1, e1, e⟩ := bind_ok e
  obtain ⟨y, S2, e2, e⟩ := bind_ok e
  obtain ⟨t, S3, e3, e⟩ := bind_ok e
  obtain ⟨bb, rfl⟩ := cop_bl e3
  refine ⟨env, S, m, x, S1, rs, re, e1, fun m1 H1 ex1 rs1 xv hx => ⟨env, S1, m1, y, S2, rs1, re.mono ex1 rs.muts, e2, fun m2 H2 ex2 rs2 yv hy =>
    ⟨m2, S2, x, y, .bl bb, S3, rs2, RV.mono ex2 rs1.muts x xv hx, hy, e3, fun m3 H3 ex3 rs3 z hz => ⟨bb, rv_bl hz, ?_⟩⟩⟩⟩
  cases bb with
  | false =>
    dsimp only at e
    cases e
    show Q (.bl false) H3
    exact f m3 H3 ((ex1.trans ex2).trans ex3) rs3 _ mk_bl
  | true =>
    dsimp only at e
    obtain ⟨w, S4, e4, e5⟩ := bind_ok e
    exact ⟨env, S3, m3, w, S4, rs3, re.mono ((ex1.trans ex2).trans ex3) rs.muts, e4, fun m4 H4 ex4 rs4 wv hw =>
      ⟨m4, S4, y, w, v, S', rs4, RV.mono (ex3.trans ex4) rs2.muts y yv hy, hw, e5, f.on (((ex1.trans ex2).trans ex3).trans ex4)⟩⟩
end
end Mp

set_option Elab.async false
set_option linter.all false
set_option maxRecDepth 100000
set_option maxHeartbeats 1000000
/-! Mp, part H: expressions, on. -/
namespace Mp
open PySem PySem.Spec PyProof.Rows L2
section
variable {X : Cx} {cf : CF} {a b c e : Expr} {ma mb mc : ME} {pos : Pos} {rest : List Expr}
theorem sn_chain {o o2 : CmpOp} {op op2 : COp} (ho : OpR X (compareOp o) (r2 (Cxkw X) (cop op))) (ho2 : OpR X (compareOp o2) (r2 (Cxkw X) (cop op2))) (ha : PE X a (rdE (Cxkw X) cf ma)) (hb : PE X b (rdE (Cxkw X) cf mb)) (hc : PE X c (rdE (Cxkw X) cf mc)) (hm : lastMarks [o, o2] [b, c] = false) :
    PE X (.Compare a [o, o2] [b, c] pos) (rdE (Cxkw X) cf (.chain op op2 ma mb mc)) :=
  PE_imp (pe_chain ho ho2 ha hb hc hm) fun σ H Q ⟨env, S, m, v, S', rs, re, e, f⟩ => three rs re e f
theorem chain_bl {op op2 : COp} {env : Env} {S S' : Sto} {v : Val} (e : evE cf (.chain op op2 ma mb mc) env S = .ok v S') : ∃ t, v = .bl t := by
  simp only [evE] at e
  obtain ⟨x, S1, e1, e⟩ := bind_ok e
  obtain ⟨y, S2, e2, e⟩ := bind_ok e
  obtain ⟨t, S3, e3, e⟩ := bind_ok e
  obtain ⟨bb, rfl⟩ := cop_bl e3
  cases bb with
  | false => dsimp only at e; cases e; exact ⟨_, rfl⟩
  | true =>
    dsimp only at e
    obtain ⟨w, S4, e4, e5⟩ := bind_ok e
    exact cop_bl e5
theorem st_chain {o o2 : CmpOp} {op op2 : COp} (ho : OpR X (compareOp o) (r2 (Cxkw X) (cop op))) (ho2 : OpR X (compareOp o2) (r2 (Cxkw X) (cop op2))) (ha : PE X a (rdE (Cxkw X) cf ma)) (hb : PE X b (rdE (Cxkw X) cf mb)) (hc : PE X c (rdE (Cxkw X) cf mc)) (hm : lastMarks [o, o2] [b, c] = false) :
    PT X (.Compare a [o, o2] [b, c] pos) (rdT (Cxkw X) cf (.chain op op2 ma mb mc)) :=
  PT_imp (pt_chain ho ho2 ha hb hc hm) fun σ H Q ⟨env, S, m, v, S', t, rs, re, e, et, f⟩ => by
    obtain ⟨bb, rfl⟩ := chain_bl e
    refine three rs re e fun m2 H2 ex rs2 z hz => ?_
    exact ⟨bb, rv_bl hz, tru_bl (Φ := Q) et f m2 H2 ex rs2⟩

/-! ### and, or, not -/
theorem sn_and (ha : PE X a (rdE (Cxkw X) cf ma)) (hb : PE X (.BoolOp .And (b :: rest) pos) (rdE (Cxkw X) cf mb)) : PE X (.BoolOp .And (a :: b :: rest) pos) (rdE (Cxkw X) cf (.and ma mb)) :=
  PE_imp (pe_andT ha hb) fun σ H Q ⟨env, S, m, v, S', rs, re, e, f⟩ => by
    simp only [evE] at e
    obtain ⟨x, S1, e1, e⟩ := bind_ok e
    obtain ⟨t, S2, e2, e⟩ := bind_ok e
    obtain ⟨e2, rfl⟩ := tru_ok2 e2
    refine ⟨env, S, m, x, S2, rs, re, e1, fun m1 H1 ex1 rs1 xv hx => ⟨t, tru_of rs1 e2 hx, ?_⟩⟩
    cases t with
    | true => exact ⟨env, S2, m1, v, S', rs1, re.mono ex1 rs.muts, e, f.on ex1⟩
    | false =>
      dsimp only at e; cases e
      exact f m1 H1 ex1 rs1 xv hx
theorem sn_or (ha : PE X a (rdE (Cxkw X) cf ma)) (hb : PE X (.BoolOp .Or (b :: rest) pos) (rdE (Cxkw X) cf mb)) : PE X (.BoolOp .Or (a :: b :: rest) pos) (rdE (Cxkw X) cf (.or ma mb)) :=
  PE_imp (pe_orT ha hb) fun σ H Q ⟨env, S, m, v, S', rs, re, e, f⟩ => by
    simp only [evE] at e
    obtain ⟨x, S1, e1, e⟩ := bind_ok e
    obtain ⟨t, S2, e2, e⟩ := bind_ok e
    obtain ⟨e2, rfl⟩ := tru_ok2 e2
    refine ⟨env, S, m, x, S2, rs, re, e1, fun m1 H1 ex1 rs1 xv hx => ⟨t, tru_of rs1 e2 hx, ?_⟩⟩
    cases t with
    | false => exact ⟨env, S2, m1, v, S', rs1, re.mono ex1 rs.muts, e, f.on ex1⟩
    | true =>
      dsimp only at e; cases e
      exact f m1 H1 ex1 rs1 xv hx
theorem sn_not (ha : PE X a (rdE (Cxkw X) cf ma)) : PE X (.UnaryOp .Not a pos) (rdE (Cxkw X) cf (.not ma)) :=
  PE_imp (pe_notT ha) fun σ H Q ⟨env, S, m, v, S', rs, re, e, f⟩ => by
    simp only [evE] at e
    obtain ⟨x, S1, e1, e8⟩ := bind_ok e
    obtain ⟨t, S2, e2, e9⟩ := bind_ok e8
    obtain ⟨e3, rfl⟩ := tru_ok2 e2
    cases e9
    exact ⟨env, S, m, x, _, rs, re, e1, fun m1 H1 ex1 rs1 xv hx => ⟨t, tru_of rs1 e3 hx, f m1 H1 ex1 rs1 _ mk_bl⟩⟩
theorem sn_neg (ha : PE X a (rdE (Cxkw X) cf ma)) : PE X (.UnaryOp .USub a pos) (rdE (Cxkw X) cf (.neg ma)) :=
  PE_imp (pe_un un_neg ha) fun σ H Q ⟨env, S, m, v, S', rs, re, e, f⟩ => by
    simp only [evE] at e
    obtain ⟨x, S1, e1, e⟩ := bind_ok e
    cases x with
    | int i =>
      dsimp only at e; cases e
      exact ⟨env, S, m, .int i, _, rs, re, e1, fun m1 H1 ex1 rs1 xv hx => ⟨i, rv_int hx, f m1 H1 ex1 rs1 _ mk_int⟩⟩
    | _ => dsimp only at e; cases e
theorem st_and (ha : PT X a (rdT (Cxkw X) cf ma)) (hb : PW X (.BoolOp .And (b :: rest) pos) (rdT (Cxkw X) cf mb)) : PW X (.BoolOp .And (a :: b :: rest) pos) (rdT (Cxkw X) cf (.and ma mb)) :=
  PW_imp (pw_and ha hb) fun σ H Q ⟨env, S, m, v, S', w, rs, re, e, ew, f⟩ => by
    simp only [evE] at e
    obtain ⟨x, S1, e1, e⟩ := bind_ok e
    obtain ⟨t, S2, e2, e⟩ := bind_ok e
    obtain ⟨e2, rfl⟩ := tru_ok2 e2
    refine ⟨env, S, m, x, S2, t, rs, re, e1, e2, fun m1 H1 ex1 rs1 => ?_⟩
    cases t with
    | true => exact ⟨env, S2, m1, v, S', w, rs1, re.mono ex1 rs.muts, e, ew, f.on ex1⟩
    | false =>
      dsimp only at e; cases e
      rw [e2] at ew; cases ew
      exact f m1 H1 ex1 rs1
theorem st_or (ha : PT X a (rdT (Cxkw X) cf ma)) (hb : PW X (.BoolOp .Or (b :: rest) pos) (rdT (Cxkw X) cf mb)) : PW X (.BoolOp .Or (a :: b :: rest) pos) (rdT (Cxkw X) cf (.or ma mb)) :=
  PW_imp (pw_or ha hb) fun σ H Q ⟨env, S, m, v, S', w, rs, re, e, ew, f⟩ => by
    simp only [evE] at e
    obtain ⟨x, S1, e1, e⟩ := bind_ok e
    obtain ⟨t, S2, e2, e⟩ := bind_ok e
    obtain ⟨e2, rfl⟩ := tru_ok2 e2
    refine ⟨env, S, m, x, S2, t, rs, re, e1, e2, fun m1 H1 ex1 rs1 => ?_⟩
    cases t with
    | false => exact ⟨env, S2, m1, v, S', w, rs1, re.mono ex1 rs.muts, e, ew, f.on ex1⟩
    | true =>
      dsimp only at e; cases e
      rw [e2] at ew; cases ew
      exact f m1 H1 ex1 rs1
theorem st_not (ha : PT X a (rdT (Cxkw X) cf ma)) : PT X (.UnaryOp .Not a pos) (rdT (Cxkw X) cf (.not ma)) :=
  PT_imp (pt_not ha) fun σ H Q ⟨env, S, m, v, S', w, rs, re, e, ew, f⟩ => by
    simp only [evE] at e
    obtain ⟨x, S1, e1, e8⟩ := bind_ok e
    obtain ⟨t, S2, e2, e9⟩ := bind_ok e8
    obtain ⟨e3, rfl⟩ := tru_ok2 e2
    cases e9
    simp only [tru] at ew; cases ew
    exact ⟨env, S, m, x, _, t, rs, re, e1, e3, f⟩
/-- any other expression as a test -/
theorem st_any {me : ME} (h : PE X e (rdE (Cxkw X) cf me)) (he : ∀ whole, isTrue e X.env whole = (do let v ← whole; standAt e.pos; holding [v] (truthy v))) : PT X e (rdT (Cxkw X) cf me) :=
  PT_imp (pt_truth h he) fun σ H Q ⟨env, S, m, v, S', w, rs, re, e, ew, f⟩ =>
    ⟨env, S, m, v, S', rs, re, e, fun m1 H1 ex1 rs1 xv hx => ⟨w, tru_of rs1 ew hx, f m1 H1 ex1 rs1⟩⟩
theorem sn_ite (hc : PT X c (rdT (Cxkw X) cf mc)) (ha : PE X a (rdE (Cxkw X) cf ma)) (hb : PE X b (rdE (Cxkw X) cf mb)) : PE X (.IfExp c a b pos) (rdE (Cxkw X) cf (.ite mc ma mb)) :=
  PE_imp (pe_ifExp hc ha hb) fun σ H Q ⟨env, S, m, v, S', rs, re, e, f⟩ => by
    simp only [evE] at e
    obtain ⟨x, S1, e1, e⟩ := bind_ok e
    obtain ⟨t, S2, e2, e⟩ := bind_ok e
    obtain ⟨e2, rfl⟩ := tru_ok2 e2
    refine ⟨env, S, m, x, S2, t, rs, re, e1, e2, fun m1 H1 ex1 rs1 => ?_⟩
    cases t with
    | false => exact ⟨env, S2, m1, v, S', rs1, re.mono ex1 rs.muts, e, f.on ex1⟩
    | true => exact ⟨env, S2, m1, v, S', rs1, re.mono ex1 rs.muts, e, f.on ex1⟩
/-- .. as a test -/
theorem st_ite (hc : PT X c (rdT (Cxkw X) cf mc)) (ha : PT X a (rdT (Cxkw X) cf ma)) (hb : PT X b (rdT (Cxkw X) cf mb)) : PT X (.IfExp c a b pos) (rdT (Cxkw X) cf (.ite mc ma mb)) := by
  refine ⟨fun pins s σ H Q I h => ?_⟩
  obtain ⟨env, S, m, v, S', w, rs, re, e, ew, f⟩ := h
  simp only [evE] at e
  obtain ⟨x, S1, e1, e⟩ := bind_ok e
  obtain ⟨t, S2, e2, e⟩ := bind_ok e
  obtain ⟨e2, rfl⟩ := tru_ok2 e2
  show wpAny _ _ (isTrue c X.env (eval c X.env) >>= fun d => if d = true then isTrue a X.env (eval a X.env) else isTrue b X.env (eval b X.env)) _ _ _
  refine wpAny_bind (thn (hc.run pins s σ H (fun t' H1 => t' = t ∧ ∃ m1, Ext m m1 H H1 ∧ RS (Cxkw X) m1 H1 S2) I ⟨env, S, m, x, S2, t, rs, re, e1, e2, fun m1 H1 ex1 rs1 => ⟨rfl, m1, ex1, rs1⟩⟩) fun d s1 hd => ?_)
  obtain ⟨H1, I1, rfl, m1, ex1, rs1⟩ := hd
  cases d with
  | true => exact ha.run pins s1 σ H1 Q I1 ⟨env, S2, m1, v, S', w, rs1, re.mono ex1 rs.muts, e, ew, f.on ex1⟩
  | false => exact hb.run pins s1 σ H1 Q I1 ⟨env, S2, m1, v, S', w, rs1, re.mono ex1 rs.muts, e, ew, f.on ex1⟩

/-! ### arguments and displays -/
variable {es : List Expr} {mas : MA}
theorem sa_nil : PA X [] (rdA (Cxkw X) cf .nil) := PA_imp pa_nil fun σ H Q ⟨env, S, m, vs, S', rs, re, e, f⟩ => by
  simp only [evA] at e; cases e
  exact f.self rs _ RVs.nil
theorem sa_cons (ha : PE X a (rdE (Cxkw X) cf ma)) (hr : PA X es (rdA (Cxkw X) cf mas)) (hs : starEach (a :: es) X.env = (false, eval a X.env) :: starEach es X.env) : PA X (a :: es) (rdA (Cxkw X) cf (.cons ma mas)) :=
  PA_imp (pa_cons ha hr hs) fun σ H Q ⟨env, S, m, vs, S', rs, re, e, f⟩ => by
    simp only [evA] at e
    obtain ⟨x, S1, e1, e⟩ := bind_ok e
    obtain ⟨ys, S2, e2, e⟩ := bind_ok e
    cases e
    exact ⟨env, S, m, x, S1, rs, re, e1, fun m1 H1 ex1 rs1 xv hx => ⟨env, S1, m1, ys, _, rs1, re.mono ex1 rs.muts, e2, fun m2 H2 ex2 rs2 zs hz =>
      f m2 H2 (ex1.trans ex2) rs2 _ (RVs.cons (RV.mono ex2 rs1.muts x xv hx) hz)⟩⟩
theorem sn_tup {k : Nat} (h : PA X es (rdA (Cxkw X) cf mas)) : PE X (.Tuple es k pos) (rdE (Cxkw X) cf (.tup mas)) :=
  PE_imp (pe_tup h) fun σ H Q ⟨env, S, m, v, S', rs, re, e, f⟩ => by
    simp only [evE] at e
    obtain ⟨vs, S1, e1, e⟩ := bind_ok e
    split at e
    · rename_i hl
      cases e
      refine ⟨env, S, m, vs, _, rs, re, e1, fun m1 H1 ex1 rs1 zs hz => ⟨by rw [← hz.length]; exact cap_line hl, (f.on ex1).tup rs1 hz⟩⟩
    · cases e
theorem sn_lst (h : PA X es (rdA (Cxkw X) cf mas)) : PE X (.List es pos) (rdE (Cxkw X) cf (.lst mas)) :=
  PE_imp (pe_lst h) fun σ H Q ⟨env, S, m, v, S', rs, re, e, f⟩ => by
    simp only [evE] at e
    obtain ⟨vs, S1, e1, e⟩ := bind_ok e
    split at e
    · rename_i hl
      cases e
      refine ⟨env, S, m, vs, _, rs, re, e1, fun m1 H1 ex1 rs1 zs hz => ⟨by rw [← hz.length]; exact cap_line hl, (f.on ex1).new rs1 hz⟩⟩
    · cases e

/-! ### dicts -/
theorem sys_no {pins : List (Addr × Obj)} {σ : L2.St} {H : Hp} {s : Shared} (I : Inv X pins σ H s) : (s.heap.objs.size == sysModules) = false := beq_eq_false_iff_ne.mpr (Ne.symm (Nat.ne_of_lt I.big))
theorem lay_dict {pins : List (Addr × Obj)} {σ : L2.St} {H : Hp} {s : Shared} (I : Inv X pins σ H s) : Inv X pins σ (upd H s.heap.objs.size (.ext (DctP X.w s.heap.objs.size []))) { s with heap := s.heap.push { cls := .type "dict", data := .dict #[] } } :=
  I.laid (a := s.heap.objs.size) (t' := s.toks) (fun _ _ q => Heap.get?_push_of_some _ q) (Nat.le_refl _) (dct_ok (P := X.prog) (sys_no I) (Nat.zero_le _) (Heap.DictOfH.new s.heap))
theorem sn_dct0 : PE X (.Dict [] [] pos) (rdE (Cxkw X) cf .dct0) := ⟨fun pins s σ H Q I h => by
  obtain ⟨env, S, m, v, S', rs, re, e, f⟩ := h
  simp only [evE] at e
  cases e
  have n := I.hok.fresh (Nat.le_refl s.heap.objs.size)
  obtain ⟨q1, q2, q3⟩ := rs.newO (u := .ext (DctP X.w s.heap.objs.size [])) (o := .dct []) n ⟨[], upd_same, rfl⟩
  exact wpAny_Dict_empty ⟨.ref s.heap.objs.size, _, lay_dict I, rfl, f _ _ q2 q1 _ q3⟩⟩
theorem keeps_at {H : Hp} {a : Addr} {u o : HO} (h : H a = some o) (mu : isMut o) : Keeps H (upd H a u) := fun b w z n => by
  rw [upd_ne]
  · exact z
  · rintro rfl
    rw [h] at z; cases z
    exact n mu
theorem lay_dci {pins : List (Addr × Obj)} {σ : L2.St} {H : Hp} {s : Shared} (I : Inv X pins σ H s) : Inv X pins σ (upd H s.heap.objs.size (.ext (DciP X.prog X.w s.heap.objs.size []))) { s with heap := s.heap.push { cls := .type "dict", data := .dict #[] } } :=
  I.laid (t' := s.toks) (fun _ _ q => Heap.get?_push_of_some _ q) (Nat.le_refl _) (dci_ok (sys_no I) (Nat.zero_le _) (Heap.DictOf.new s.heap))
theorem sn_dct0i : PE X (.Dict [] [] pos) (rdE (Cxkw X) cf .dct0i) := ⟨fun pins s σ H Q I h => by
  obtain ⟨env, S, m, v, S', rs, re, e, f⟩ := h
  simp only [evE] at e
  cases e
  obtain ⟨q1, q2, q3⟩ := rs.newO (u := .ext (DciP X.prog X.w s.heap.objs.size [])) (o := .dci []) (I.hok.fresh (Nat.le_refl s.heap.objs.size)) ⟨[], upd_same, rfl⟩
  exact wpAny_Dict_empty ⟨.ref s.heap.objs.size, _, lay_dci I, rfl, f _ _ q2 q1 _ q3⟩⟩
/-- {i: y} -/
theorem disp_int {ek ev : Expr} {mk mv : ME} {pins : List (Addr × Obj)} {σ : L2.St} {H : Hp} {s : Shared} {Q : VK} {env : Env} {S S1 S2 : Sto} {m : List Addr} {i : Int} {y : Val} (hk : PE X ek (rdE (Cxkw X) cf mk)) (hv : PE X ev (rdE (Cxkw X) cf mv)) (I : Inv X pins σ H s)
    (rs : RS (Cxkw X) m H S) (re : RE (Cxkw X) m H env σ) (e1 : evE cf mk env S = .ok (.int i) S1) (e2 : evE cf mv env S1 = .ok y S2) (f : Fin (Cxkw X) m H (.ref S2.n) (S2.new (.dci [(i, y)])) Q) :
    wpAny (model X.prog X.w) X.A (eval (.Dict [some ek] [ev] pos) X.env) (EP X pins σ Q) X.xe s := by
  have n := I.hok.fresh (Nat.le_refl s.heap.objs.size)
  have hsys := sys_no I
  have I1 := lay_dci I
  generalize hp : s.heap.objs.size = p at n hsys I1
  have ex0 : Ext m m H (upd H p (.ext (DciP X.prog X.w p []))) := rs.ext n
  have pm : p ∉ m := rs.fresh n
  have T := (pps_cons hk hv (pps_nil (pos := pos))).run pins _ σ _ (fun ps H3 => ∃ yv m2, ps = [(V.int i, yv)] ∧ RS (Cxkw X) m2 H3 S2 ∧ RV (Cxkw X) m2 H3 y yv ∧ Ext m m2 (upd H p (.ext (DciP X.prog X.w p []))) H3) I1
    ⟨env, S, m, _, S1, rs.tup n, re.mono ex0 rs.muts, e1, fun m1 H2 ex1 rs1 xv hx => ⟨env, S1, m1, y, S2, rs1, (re.mono ex0 rs.muts).mono ex1 (rs.tup n).muts, e2, fun m2 H3 ex2 rs2 yv hy => ⟨yv, m2, by rw [rv_int hx], rs2, hy, ex1.trans ex2⟩⟩⟩
  have hall : ([some ek] : List (Option Expr)).all (·.isSome) = true := rfl
  rw [arm_eval_Dict, zip_pairTrees [some ek] [ev] X.env pos hall rfl, dictDisplay_pairs (pairTrees [some ek] [ev] X.env pos) (by intro z; cases z) (by rw [pairTrees_length [some ek] [ev] X.env pos hall rfl]; show 1 < 17; decide)]
  refine wpAny_bind (wpAny_standAt (wpAny_bind (wpAny_subDict (knd := intKind X.prog X.w) (by rw [pairTrees_length [some ek] [ev] X.env pos hall rfl]; show 1 ≤ 15; decide) (thn T fun vs s2 ⟨ps, H3, I3, rel, yv, m2, eps, rs2, hy, ex⟩ => ?_))))
  subst eps
  obtain ⟨⟨u1, u2⟩, rfl, ⟨t, r1⟩, r3⟩ : ∃ q : Value × Value, vs = [q] ∧ RelV (.int i) q.1 ∧ RelV yv q.2 := by
    cases rel with
    | cons a b => cases b; exact ⟨_, rfl, a.1, a.2⟩
  have hH3 : H3 p = some (.ext (DciP X.prog X.w p [])) := ex.kp p _ upd_same pm
  obtain ⟨_, _, dd⟩ := dci_of I3 hH3
  have pm2 : p ∉ m2 := ex.out upd_same pm
  rw [hp]
  refine ⟨[(i, u2)], ⟨by show (intKind X.prog X.w).is i u1 = true; rw [show u1 = Value.int i t from r1]; exact is_int i t, rfl, trivial⟩, dd, fun h' d' sb => wpAny_pure ?_⟩
  have I4 := d_write (t' := s2.toks + 1) (ob := .ext (DciP X.prog X.w p [(i, u2)])) I3 (by rw [hH3]; exact True.intro) sb (let ⟨q, _, _, hq, _⟩ := d'; ⟨q, hq⟩) (dci_ok hsys (by rw [sizeLine_eq]; show 1 ≤ 16777216; decide) d')
  have kk : Keeps H3 (upd H3 p (.ext (DciP X.prog X.w p [(i, u2)]))) := keeps_at hH3 trivial
  have rs4 := rs2.stayK kk fun b hb => upd_ne (fun z => pm2 (z ▸ hb))
  obtain ⟨q1, q2⟩ := rs4.adoptO (o := .dci [(i, y)]) pm2 ⟨_, upd_same, u2, yv, [], rfl, RV.monoK ⟨[], by simp⟩ kk _ _ hy, r3, rfl⟩
  refine ⟨.ref p, _, I4, rfl, f _ _ ?_ q1 _ q2⟩
  have on : ∀ {a o}, H a = some o → a ≠ p := fun ha => ne_of_none ha n
  obtain ⟨t2, rfl⟩ := ex.pre
  refine ⟨⟨t2 ++ [p], by simp⟩, fun a o ha hm => ?_, fun a ha hm => ?_, fun a ob φ z => ?_⟩
  · rw [upd_ne (on ha)]; exact ex.kp a o (by rw [upd_ne (on ha)]; exact ha) hm
  · by_cases hap : a = p
    · rw [hap]; exact n
    · rcases List.mem_append.mp ha with z | z
      · have q := ex.nw a z hm
        rwa [upd_ne hap] at q
      · exact absurd (List.mem_singleton.mp z) hap
  · rw [upd_ne (on z)]; exact ex.lk a ob φ (by rw [upd_ne (on z)]; exact z)
theorem sn_dct1 {k : Nat} {ek ev : Expr} {mk mv : ME} (hr : Room k X.A) (hk : PE X ek (rdE (Cxkw X) cf mk)) (hv : PE X ev (rdE (Cxkw X) cf mv)) : PE X (.Dict [some ek] [ev] pos) (rdE (Cxkw X) cf (.dct1 mk mv)) := ⟨fun pins s σ H Q I h => by
  obtain ⟨env, S, m, v, S', rs, re, e, f⟩ := h
  simp only [evE] at e
  obtain ⟨x, S1, e1, e⟩ := bind_ok e
  obtain ⟨y, S2, e2, e⟩ := bind_ok e
  split at e
  · rename_i hkey
    cases e
    have n := I.hok.fresh (Nat.le_refl s.heap.objs.size)
    have hsys := sys_no I
    have I1 := lay_dict I
    generalize hp : s.heap.objs.size = p at n hsys I1
    have ex0 : Ext m m H (upd H p (.ext (DctP X.w p []))) := rs.ext n
    have pm : p ∉ m := rs.fresh n
    have T := (pps_cons hk hv (pps_nil (pos := pos))).run pins _ σ _ (fun ps H3 => ∃ xv yv m2, ps = [(xv, yv)] ∧ RS (Cxkw X) m2 H3 S2 ∧ RV (Cxkw X) m2 H3 x xv ∧ RV (Cxkw X) m2 H3 y yv ∧ Ext m m2 (upd H p (.ext (DctP X.w p []))) H3) I1
      ⟨env, S, m, x, S1, rs.tup n, re.mono ex0 rs.muts, e1, fun m1 H2 ex1 rs1 xv hx => ⟨env, S1, m1, y, S2, rs1, (re.mono ex0 rs.muts).mono ex1 (rs.tup n).muts, e2, fun m2 H3 ex2 rs2 yv hy => ⟨xv, yv, m2, rfl, rs2, RV.mono ex2 rs1.muts _ _ hx, hy, ex1.trans ex2⟩⟩⟩
    have hall : ([some ek] : List (Option Expr)).all (·.isSome) = true := rfl
    rw [arm_eval_Dict, zip_pairTrees [some ek] [ev] X.env pos hall rfl, dictDisplay_pairs (pairTrees [some ek] [ev] X.env pos) (by intro z; cases z) (by rw [pairTrees_length [some ek] [ev] X.env pos hall rfl]; show 1 < 17; decide)]
    refine wpAny_bind (wpAny_standAt (wpAny_bind (wpAny_subDictH (knd := nestedKind X.prog X.w) (by have := hr.un; show X.A.units + 8 < cLine; omega) (by rw [pairTrees_length [some ek] [ev] X.env pos hall rfl]; show 1 ≤ 15; decide) (thn T fun vs s2 ⟨ps, H3, I3, rel, xv, yv, m2, eps, rs2, hx, hy, ex⟩ => ?_))))
    subst eps
    obtain ⟨ka, rfl⟩ := key_ref hkey hx
    obtain ⟨⟨u1, u2⟩, rfl, r1, r3⟩ : ∃ q : Value × Value, vs = [q] ∧ RelV (.ref ka) q.1 ∧ RelV yv q.2 := by
      cases rel with
      | cons a b => cases b; exact ⟨_, rfl, a.1, a.2⟩
    obtain rfl : u1 = Value.ref ka := r1
    have hH3 : H3 p = some (.ext (DctP X.w p [])) := ex.kp p _ upd_same pm
    obtain ⟨_, _, _, dd⟩ := dct_of (m := m2) (kvs := []) I3 hH3 rfl
    have pm2 : p ∉ m2 := ex.out upd_same pm
    rw [hp]
    refine ⟨[(keyN x, ka, u2)], ⟨rfl, rfl, key_is I3 hkey hx, trivial⟩, dd, fun h' tk d' sb => wpAny_pure ?_⟩
    have d2 : h'.DictOfH (nestedKind X.prog X.w) p [(keyN x, ka, u2)] := d'
    have I4 := d_write (t' := tk) (ob := .ext (DctP X.w p [(keyN x, ka, u2)])) I3 (by rw [hH3]; exact True.intro) sb (let ⟨q, _, _, hq, _⟩ := d2; ⟨q, hq⟩) (dct_ok hsys (by rw [sizeLine_eq]; show 1 ≤ 16777216; decide) d2)
    have kk : Keeps H3 (upd H3 p (.ext (DctP X.w p [(keyN x, ka, u2)]))) := fun b o z nm => by
      rw [upd_ne]
      · exact z
      · rintro rfl
        rw [hH3] at z; cases z
        exact nm trivial
    have rs4 := rs2.stayK kk fun b hb => upd_ne (fun z => pm2 (z ▸ hb))
    have e0 : ∃ t, m2 = m2 ++ t := ⟨[], by simp⟩
    obtain ⟨q1, q2⟩ := rs4.adoptO (o := .dct [(x, y)]) pm2 ⟨_, upd_same, ka, u2, yv, [], rfl, hkey, RV.monoK e0 kk _ _ hx, RV.monoK e0 kk _ _ hy, r3, rfl⟩
    refine ⟨.ref p, _, I4, rfl, f _ _ ?_ q1 _ q2⟩
    obtain ⟨t, rfl⟩ := ex.pre
    refine ⟨⟨t ++ [p], by simp⟩, fun a o ha hm => ?_, fun a ha hm => ?_, fun a ob φ z => by
      have hap : a ≠ p := ne_of_none z n
      rw [upd_ne hap]
      exact ex.lk a ob φ (by rw [upd_ne hap]; exact z)⟩
    · have hap : a ≠ p := ne_of_none ha n
      rw [upd_ne hap]
      exact ex.kp a o (by rw [upd_ne hap]; exact ha) hm
    · rcases List.mem_append.mp ha with z | z
      · have q := ex.nw a z hm
        by_cases hap : a = p
        · rw [hap]; exact n
        · rw [upd_ne hap] at q; exact q
      · rw [List.mem_singleton.mp z]; exact n
  · split at e
    · rename_i _ i hi
      cases e
      have := keyI_of hi; subst this
      exact disp_int hk hv I rs re e1 e2 f
    · cases e⟩
/-! ### subscripts -/
theorem sn_ix {k : Nat} (hr : Room k X.A) (ha : PE X a (rdE (Cxkw X) cf ma)) (hb : PE X b (rdE (Cxkw X) cf mb)) (hs : PlainIx b) : PE X (.Subscript a b pos) (rdE (Cxkw X) cf (.ix ma mb)) :=
  PE_imp (pe_ix (ixM hr) ha hb hs) fun σ H Q ⟨env, S, m, v, S', rs, re, e, f⟩ => by
    simp only [evE] at e
    exact two rs re e f
/-- a part of a slice: .non stands for nothing written -/
def rdO (K : Kw) (cf : CF) (e : ME) : TO := fun σ H Q => ∃ env S m v S' o, RS K m H S ∧ RE K m H env σ ∧ evE cf e env S = .ok v S' ∧ partOf e v = some o ∧ Aft K m H S' fun _ H2 => Q o H2
theorem PO_imp {o : Option Expr} {t u : TO} (h : PO X o t) (i : ∀ σ H Q, u σ H Q → t σ H Q) : PO X o u := ⟨fun pins s σ H Q I q => h.run pins s σ H Q I (i σ H Q q)⟩
theorem so_none : PO X none (rdO (Cxkw X) cf .non) := PO_imp po_none fun σ H Q ⟨env, S, m, v, S', o, rs, re, e, ep, f⟩ => by
  simp only [evE] at e; cases e
  simp only [partOf, isNon, if_true] at ep; cases ep
  exact f.self rs
theorem so_some (h : PE X a (rdE (Cxkw X) cf ma)) (hi : isNon ma = false) : PO X (some a) (rdO (Cxkw X) cf ma) := PO_imp (po_some h) fun σ H Q ⟨env, S, m, v, S', o, rs, re, e, ep, f⟩ => by
  refine ⟨env, S, m, v, S', rs, re, e, fun m1 H1 ex1 rs1 xv hx => ?_⟩
  unfold partOf at ep
  rw [hi] at ep
  simp only [Bool.false_eq_true, if_false] at ep
  cases v with
  | int i =>
    dsimp only at ep; cases ep
    exact ⟨i, rv_int hx, f m1 H1 ex1 rs1⟩
  | _ => cases ep
theorem sn_sl {lo hi : Option Expr} {ml mh : ME} {p2 : Pos} (ha : PE X a (rdE (Cxkw X) cf ma)) (hl : PO X lo (rdO (Cxkw X) cf ml)) (hh : PO X hi (rdO (Cxkw X) cf mh)) : PE X (.Subscript a (.Slice lo hi none p2) pos) (rdE (Cxkw X) cf (.sl ma ml mh)) :=
  PE_imp (pe_slice slM ha hl hh) fun σ H Q ⟨env, S, m, v, S', rs, re, e, f⟩ => by
    simp only [evE] at e
    obtain ⟨x, S1, e1, e⟩ := bind_ok e
    obtain ⟨l, S2, e2, e⟩ := bind_ok e
    obtain ⟨h, S3, e3, e⟩ := bind_ok e
    have ep := e
    unfold getSl at ep
    split at ep
    · rename_i lo' hi' p1 p2
      exact ⟨env, S, m, x, S1, rs, re, e1, fun m1 H1 ex1 rs1 xv hx => ⟨env, S1, m1, l, S2, lo', rs1, re.mono ex1 rs.muts, e2, p1, fun m2 H2 ex2 rs2 =>
        ⟨env, S2, m2, h, S3, hi', rs2, re.mono (ex1.trans ex2) rs.muts, e3, p2, fun m3 H3 ex3 rs3 =>
          ⟨m3, S3, x, v, S', rs3, RV.mono (ex2.trans ex3) rs1.muts x xv hx, by rw [← p1, ← p2]; exact e, f.on ((ex1.trans ex2).trans ex3)⟩⟩⟩⟩
    · cases ep

theorem sn_rev {k : Nat} {p1 p2 p3 : Pos} (ha : PE X a (rdE (Cxkw X) cf ma)) : PE X (.Subscript a (.Slice none none (some (.UnaryOp .USub (.Constant (.int 1) k p1) p2)) p3) pos) (rdE (Cxkw X) cf (.rev ma)) :=
  ⟨fun pins s σ H Q I ⟨env, S, m, v, S', rs, re, e, f⟩ => by
    simp only [evE] at e
    obtain ⟨x, S1, e1, e⟩ := bind_ok e
    unfold getRev at e
    split at e
    · cases e
      refine (pe_backT ha).run pins s σ H Q I ⟨env, S, m, _, _, rs, re, e1, fun m1 H1 ex1 rs1 xv hx => ?_⟩
      obtain ⟨b, ws, rfl, h1, h2⟩ := rv_tup hx
      exact ⟨b, ws, rfl, h1, (f.on ex1).tup rs1 h2.reverse⟩
    · split at e
      · rename_i xs hl
        cases e
        refine (pe_revL ha).run pins s σ H Q I ⟨env, S, m, _, _, rs, re, e1, fun m1 H1 ex1 rs1 xv hx => ?_⟩
        obtain ⟨b, rfl, h1⟩ := rv_ref hx
        obtain ⟨ws, h3, h2⟩ := rs1.list hl h1
        exact ⟨b, ws, rfl, SqL.of h3, (f.on ex1).new rs1 h2.reverse⟩
      · cases e
    · cases e⟩

/-! ### calls of what is built in -/
variable {x : Str} {p : Pos} {id T : String}
theorem call_imp {r : List Val → Sto → R Val} {σ : L2.St} {H : Hp} {Q : VK} {env : Env} {S S' : Sto} {m : List Addr} {v : Val} (rs : RS (Cxkw X) m H S) (re : RE (Cxkw X) m H env σ)
    (e : ((evA cf mas env S).bind fun vs S1 => r vs S1) = .ok v S') (f : Fin (Cxkw X) m H v S' Q) : tCB (rN (Cxkw X) r) (rdA (Cxkw X) cf mas) σ H Q := by
  obtain ⟨vs, S1, e1, e⟩ := bind_ok e
  exact ⟨env, S, m, vs, S1, rs, re, e1, fun m1 H1 ex1 rs1 zs hz => ⟨m1, S1, vs, v, S', rs1, hz, e, f.on ex1⟩⟩
theorem sn_bltB {bf : Blt} (hc : CallR X (.builtin id) (rN (Cxkw X) (bapp bf))) (hg : Gl X x) (hm : X.mg x = none) (hv : bootBuiltins x = some (.builtin id)) (ha : PA X (e :: es) (rdA (Cxkw X) cf mas)) (hn : x ≠ "__name__") (hdb : (x == ("__debug__" : Str)) = false)
    (he : starEach (e :: es) X.env = (false, eval e X.env) :: starEach es X.env) (hpl : (backTo pos (starEach es X.env)).any (·.1) = false) : PE X (.Call (.Name x p) (e :: es) [] pos) (rdE (Cxkw X) cf (.blt bf mas)) :=
  PE_imp (pe_callB hc hg hm hv ha hn hdb he hpl) fun σ H Q ⟨env, S, m, v, S', rs, re, e, f⟩ => by
    simp only [evE] at e
    exact call_imp rs re e f
theorem sn_bltT {bf : Blt} (hc : CallR X (.type T) (rN (Cxkw X) (bapp bf))) (hg : Gl X x) (hm : X.mg x = none) (hv : bootBuiltins x = some (.type T)) (ha : PA X (e :: es) (rdA (Cxkw X) cf mas)) (hn : x ≠ "__name__") (hdb : (x == ("__debug__" : Str)) = false)
    (he : starEach (e :: es) X.env = (false, eval e X.env) :: starEach es X.env) (hpl : (backTo pos (starEach es X.env)).any (·.1) = false) : PE X (.Call (.Name x p) (e :: es) [] pos) (rdE (Cxkw X) cf (.blt bf mas)) :=
  PE_imp (pe_callTy hc hg hm hv ha hn hdb he hpl) fun σ H Q ⟨env, S, m, v, S', rs, re, e, f⟩ => by
    simp only [evE] at e
    exact call_imp rs re e f

theorem rvs_ints {K : Kw} {m : List Addr} {H : Hp} : ∀ ns : List Int, RVs K m H (ns.map Val.int) (ns.map V.int)
  | [] => RVs.nil
  | n :: ns => ⟨_, _, rfl, rfl, rvs_ints ns⟩
theorem sn_lens {a : Expr} {ma : ME} {p1 p2 pos2 : Pos} (hc : X.calm = true) (hg : Gl X "len") (hm : X.mg "len" = none) (hg2 : Gl X "set") (hm2 : X.mg "set" = none) (ha : PE X a (rdE (Cxkw X) cf ma)) (hs : starEach (a :: []) X.env = (false, eval a X.env) :: starEach [] X.env) :
    PE X (.Call (.Name "len" p1) [.Call (.Name "set" p2) [a] [] pos2] [] pos) (rdE (Cxkw X) cf (.lens ma)) := by
  have h1 := pe_callTy (x := "set") (p := p2) (pos := pos2) (c_setI hc) hg2 hm2 (by decide +kernel) (pa_cons ha pa_nil hs) (by decide) (by decide) hs rfl
  refine PE_imp (pe_callB (x := "len") c_lenS hg hm (by decide +kernel) (pa_cons h1 pa_nil rfl) (by decide) (by decide) rfl rfl) fun σ H Q ⟨env, S, m, v, S', rs, re, e, f⟩ => ?_
  simp only [evE] at e
  obtain ⟨x, S1, e1, e⟩ := bind_ok e
  unfold lenSet at e
  split at e
  · rename_i r
    split at e
    · rename_i xs hl
      split at e
      · rename_i ns hns
        split at e
        · rename_i hz
          cases e
          refine ⟨env, S, m, _, _, rs, re, e1, fun m1 H1 ex1 rs1 xv hx => ?_⟩
          obtain ⟨ad, rfl, q1⟩ := rv_ref hx
          obtain ⟨ws, h3, h2⟩ := rs1.list hl q1
          rw [ints_of hns h2] at h3
          refine ⟨ad, ns, rfl, SqL.of h3, of_decide_eq_true hz, fun p n => ⟨p, _, _, rfl, upd_same, ?_⟩⟩
          exact f m1 _ (ex1.trans (rs1.ext n)) (rs1.tup n) _ mk_int
        · cases e
      · cases e
    · cases e
  · cases e

theorem sn_sorts {a : Expr} {ma : ME} {p1 p2 pos2 : Pos} (hc : X.calm = true) (hg : Gl X "sorted") (hm : X.mg "sorted" = none) (hg2 : Gl X "set") (hm2 : X.mg "set" = none) (ha : PE X a (rdE (Cxkw X) cf ma)) (hs : starEach (a :: []) X.env = (false, eval a X.env) :: starEach [] X.env) :
    PE X (.Call (.Name "sorted" p1) [.Call (.Name "set" p2) [a] [] pos2] [] pos) (rdE (Cxkw X) cf (.sorts ma)) := by
  have h1 := pe_callTy (x := "set") (p := p2) (pos := pos2) (c_setT hc) hg2 hm2 (by decide +kernel) (pa_cons ha pa_nil hs) (by decide) (by decide) hs rfl
  refine PE_imp (pe_callB (x := "sorted") (cr_sortedSet hc) hg hm (by decide +kernel) (pa_cons h1 pa_nil rfl) (by decide) (by decide) rfl rfl) fun σ H Q ⟨env, S, m, v, S', rs, re, e, f⟩ => ?_
  simp only [evE] at e
  obtain ⟨x, S1, e1, e⟩ := bind_ok e
  unfold sortSet at e
  split at e
  · rename_i xs
    split at e
    · rename_i ns hns
      split at e
      · rename_i hz
        cases e
        have hz := of_decide_eq_true hz
        refine ⟨env, S, m, _, _, rs, re, e1, fun m1 H1 ex1 rs1 xv hx => ?_⟩
        obtain ⟨ad, ws, rfl, q1, q2⟩ := rv_tup hx
        rw [ints_of hns q2] at q1
        refine ⟨ad, ns, rfl, q1, hz, fun p c n hcn => ⟨p, _, c, rfl, upd_same, by omega, fun ns' p' h1 h2 h3 n' => ?_⟩⟩
        have he : ns' = sortU ns := rise_eq h1 (sortU_sorted ns) fun k => by rw [h2, sortU_mem]; simp
        subst he
        exact (f.on (ex1.trans (rs1.ext n))).new (rs1.tup n) (rvs_ints _) p' n'
      · cases e
    · cases e
  · cases e
/-! ### what is reached no longer is dropped -/
theorem sn_gc {me : ME} (h : PE X e (rdE (Cxkw X) cf me)) : PE X e (rdE (Cxkw X) cf (.gc me)) := PE_imp h fun σ H Q ⟨env, S, m, v, S', rs, re, e, f⟩ => by
  simp only [evE] at e
  obtain ⟨v1, S1, e1, e2⟩ := bind_ok e
  cases e2
  refine ⟨env, S, m, v1, S1, rs, re, e1, fun m2 H2 ex rs2 z hz => ?_⟩
  obtain ⟨m3, ex3, rs3, q⟩ := gcV_rs (v := v1) rs.len ex rs2
  exact f m3 H2 ex3 rs3 z (q z hz)
theorem gcT_imp {me : ME} {σ : L2.St} {H : Hp} {Q : Bool → Hp → Prop} (h : rdT (Cxkw X) cf (.gc me) σ H Q) : rdT (Cxkw X) cf me σ H Q := by
  obtain ⟨env, S, m, v, S', w, rs, re, e, ew, f⟩ := h
  simp only [evE] at e
  obtain ⟨v1, S1, e1, e2⟩ := bind_ok e
  cases e2
  rw [tru_gc] at ew
  refine ⟨env, S, m, v1, S1, w, rs, re, e1, ew, fun m2 H2 ex rs2 => ?_⟩
  obtain ⟨m3, ex3, rs3, q⟩ := gcV_rs (v := v1) rs.len ex rs2
  exact f m3 H2 ex3 rs3
theorem st_gc {me : ME} (h : PT X e (rdT (Cxkw X) cf me)) : PT X e (rdT (Cxkw X) cf (.gc me)) := PT_imp h fun σ H Q q => gcT_imp q
theorem sw_gc {me : ME} (h : PW X e (rdT (Cxkw X) cf me)) : PW X e (rdT (Cxkw X) cf (.gc me)) := PW_imp h fun σ H Q q => gcT_imp q

/-! ### a dict is locked while it is walked -/
theorem RE.monoK {K : Kw} {m m2 : List Addr} {H H2 : Hp} {env : Env} {σ : L2.St} (h : RE K m H env σ) (e : ∃ t, m2 = m ++ t) (k : Keeps H H2) : RE K m2 H2 env σ :=
  ⟨h.len, fun i v q => by
    obtain ⟨x, h1, h2⟩ := h.at_ i v q
    exact ⟨x, h1, RV.monoK e k v x h2⟩⟩
/-- into the lock, whichever kind of dict it is -/
theorem lock_in {pins : List (Addr × Obj)} {σ : L2.St} {H : Hp} {s : Shared} {m : List Addr} {S : Sto} {env : Env} {i : Nat} {p : Nat × SO} (I : Inv X pins σ H s) (rs : RS (Cxkw X) m H S) (h : lockAt env i S = some p) :
    ∃ a φ od, m[p.1]? = some a ∧ H a = some (.ext φ) ∧ Inv X pins σ (upd H a (.frz od (.ext φ))) s ∧ RS (Cxkw X) m (upd H a (.frz od (.ext φ))) (S.put p.1 p.2) := by
  have same : ∃ t, m = m ++ t := ⟨[], by simp⟩
  unfold lockAt at h
  split at h
  · split at h
    · rename_i r _ kvs hg
      cases h
      obtain ⟨a, ha, xs, hH, rd⟩ := rs.at hg
      obtain ⟨od, I1⟩ := I.lock hH True.intro
      obtain ⟨g1, ⟨z1, _, _, o, es, ep, g2, x1, x2, x3⟩, _⟩ := I1.hok a _ upd_same
      rw [g1] at g2
      cases g2
      exact ⟨a, _, od, ha, hH, I1, rs.putR hg ha ⟨xs, od, es, ep, upd_same, x1, x2, x3, z1, rd.monoK same (keeps_at hH trivial)⟩⟩
    · rename_i r _ kvs hg
      cases h
      obtain ⟨a, ha, xs, hH, rd⟩ := rs.at hg
      obtain ⟨od, I1⟩ := I.lock hH True.intro
      obtain ⟨g1, ⟨z1, _, o, es, ep, g2, x1, x2, _, x3, _⟩, _⟩ := I1.hok a _ upd_same
      rw [g1] at g2
      cases g2
      exact ⟨a, _, od, ha, hH, I1, rs.putR hg ha ⟨xs, od, es, ep, upd_same, x1, x2, x3, z1, rd.monoK same (keeps_at hH trivial)⟩⟩
    · cases h
  · cases h
/-- and out of it -/
theorem lock_out {α : Type} {K : Kw} {m m1 : List Addr} {H H1 : Hp} {S1 S2 : Sto} {r : Nat} {a : Addr} {φ : Heap → Prop} {od : Obj} {v w : α} (ha : m[r]? = some a) (hH : H a = some (.ext φ)) (ex : Ext m m1 (upd H a (.frz od (.ext φ))) H1) (rs : RS K m1 H1 S1)
    (h : unlockAt r v S1 = .ok w S2) : w = v ∧ H1 a = some (.frz od (.ext φ)) ∧ RS K m1 (upd H1 a (.ext φ)) S2 ∧ Ext m m1 H (upd H1 a (.ext φ)) ∧ Keeps H1 (upd H1 a (.ext φ)) := by
  have same : ∃ t, m1 = m1 ++ t := ⟨[], by simp⟩
  have hL := ex.lk a od φ upd_same
  have kk : Keeps H1 (upd H1 a (.ext φ)) := keeps_at hL trivial
  have h1 := ex.at ha
  have back : Ext m m1 H (upd H1 a (.ext φ)) := by
    have ne : ∀ {b}, b ∉ m → b ≠ a := fun n e => n (e ▸ List.mem_of_getElem? ha)
    refine ⟨ex.pre, fun b o z n => ?_, fun b z n => ?_, fun b ob ψ z => ?_⟩
    · rw [upd_ne (ne n)]; exact ex.kp b o (by rw [upd_ne (ne n)]; exact z) n
    · have q := ex.nw b z n
      rwa [upd_ne (ne n)] at q
    · have nb : b ≠ a := fun e => by rw [e, hH] at z; cases z
      rw [upd_ne nb]; exact ex.lk b ob ψ (by rw [upd_ne nb]; exact z)
  unfold unlockAt at h
  split at h
  · rename_i kvs hg
    cases h
    obtain ⟨b, hb, xs, o, es, ep, q1, _, _, _, _, q6⟩ := rs.at hg
    rw [h1] at hb; cases hb
    rw [hL] at q1
    injection q1 with q1
    injection q1 with _ q1
    exact ⟨rfl, hL, rs.putR hg h1 ⟨xs, by rw [upd_same, q1], q6.monoK same kk⟩, back, kk⟩
  · rename_i kvs hg
    cases h
    obtain ⟨b, hb, xs, o, es, ep, q1, _, _, _, _, q6⟩ := rs.at hg
    rw [h1] at hb; cases hb
    rw [hL] at q1
    injection q1 with q1
    injection q1 with _ q1
    exact ⟨rfl, hL, rs.putR hg h1 ⟨xs, by rw [upd_same, q1], q6.monoK same kk⟩, back, kk⟩
  · cases h
theorem sn_lk {i : Nat} {e : Expr} {me : ME} (h : PE X e (rdE (Cxkw X) cf me)) : PE X e (rdE (Cxkw X) cf (.lk i me)) := ⟨fun pins s σ H Q I hw => by
  obtain ⟨env, S, m, v, S', rs, re, ev, f⟩ := hw
  simp only [evE] at ev
  split at ev
  · rename_i p hp
    obtain ⟨v1, S1, e1, e2⟩ := bind_ok ev
    obtain ⟨a, φ, od, ha, hH, I1, rs1⟩ := lock_in I rs hp
    refine thn (h.run pins s σ _ (fun z H1 => H1 a = some (.frz od (.ext φ)) ∧ Q z (upd H1 a (.ext φ))) I1 ⟨env, _, m, v1, S1, rs1, re.monoK ⟨[], by simp⟩ (keeps_at hH trivial), e1, fun m1 H1 ex1 rs2 z hz => ?_⟩) fun u s1 ⟨x, H1, I2, rx, q1, q2⟩ => ⟨x, _, I2.unlock q1 (I.nofrz hH True.intro), rx, q2⟩
    obtain ⟨rfl, l1, l2, l3, l4⟩ := lock_out ha hH ex1 rs2 e2
    exact ⟨l1, f _ _ l3 l2 _ (RV.monoK ⟨[], by simp⟩ l4 _ _ hz)⟩
  · cases ev⟩

end
end Mp

set_option Elab.async false
set_option linter.all false
set_option maxRecDepth 100000
set_option maxHeartbeats 1000000
/-! Mp, part I: methods, types, defs that are called. -/
namespace Mp
open PySem PySem.Spec PyProof.Rows L2
section
variable {X : Cx} {cf : CF} {a b c e o : Expr} {ma mb mc mo : ME} {pos : Pos} {es : List Expr} {mas : MA} {x : Str} {p : Pos}
/-! ### methods of lists -/
variable {name : Str} {apos cpos : Pos} {id : String}
theorem ty_list {K : Kw} {m : List Addr} {H : Hp} {S : Sto} {mt : Mth} {ov : Val} {xv : V} (hmt : mt = .append ∨ mt = .pop ∨ mt = .extend ∨ mt = .index ∨ mt = .count) (rs : RS K m H S) (hx : RV K m H ov xv) (hl : recv mt ov S = true) : tyV K "list" xv H := by
  have hl2 : ∃ r xs, ov = .ref r ∧ S.lst r = some xs := by
    cases ov with
    | ref r =>
      rcases hmt with rfl | rfl | rfl | rfl | rfl <;>
      · simp only [recv] at hl
        obtain ⟨xs, e⟩ := Option.isSome_iff_exists.mp hl
        exact ⟨r, xs, rfl, e⟩
    | _ => rcases hmt with rfl | rfl | rfl | rfl | rfl <;> (simp only [recv] at hl; cases hl)
  obtain ⟨r, xs, rfl, e⟩ := hl2
  obtain ⟨ad, rfl, h1⟩ := rv_ref hx
  obtain ⟨ws, h3, h2⟩ := rs.list e h1
  exact .inl ⟨rfl, ws, SqL.of h3⟩
theorem meth_imp {mt : Mth} {T : String} {σ : L2.St} {H : Hp} {Q : VK} {env : Env} {S S' : Sto} {m : List Addr} {v : Val}
    (hty : ∀ {m : List Addr} {H : Hp} {S : Sto} {ov : Val} {xv : V}, RS (Cxkw X) m H S → RV (Cxkw X) m H ov xv → recv mt ov S = true → tyV (Cxkw X) T xv H) (rs : RS (Cxkw X) m H S) (re : RE (Cxkw X) m H env σ)
    (e : evE cf (.mth mt mo mas) env S = .ok v S') (f : Fin (Cxkw X) m H v S' Q) : tBM (Cxkw X) T (rM (Cxkw X) (mapp mt)) (rdE (Cxkw X) cf mo) (rdA (Cxkw X) cf mas) σ H Q := by
  simp only [evE] at e
  obtain ⟨y, S1, e1, e⟩ := bind_ok e
  split at e
  · rename_i hr
    obtain ⟨vs, S2, e2, e⟩ := bind_ok e
    exact ⟨env, S, m, y, S1, rs, re, e1, fun m1 H1 ex1 rs1 xv hx => ⟨hty rs1 hx hr, env, S1, m1, vs, S2, rs1, re.mono ex1 rs.muts, e2, fun m2 H2 ex2 rs2 zs hz =>
      ⟨m2, S2, y, vs, v, S', rs2, RV.mono ex2 rs1.muts y xv hx, hz, e, f.on (ex1.trans ex2)⟩⟩⟩
  · cases e
theorem meth_imp0 {mt : Mth} {T : String} {σ : L2.St} {H : Hp} {Q : VK} {env : Env} {S S' : Sto} {m : List Addr} {v : Val}
    (hty : ∀ {m : List Addr} {H : Hp} {S : Sto} {ov : Val} {xv : V}, RS (Cxkw X) m H S → RV (Cxkw X) m H ov xv → recv mt ov S = true → tyV (Cxkw X) T xv H) (rs : RS (Cxkw X) m H S) (re : RE (Cxkw X) m H env σ)
    (e : evE cf (.mth mt mo .nil) env S = .ok v S') (f : Fin (Cxkw X) m H v S' Q) : tBM0 (Cxkw X) T (rM (Cxkw X) (mapp mt)) (rdE (Cxkw X) cf mo) σ H Q := by
  simp only [evE] at e
  obtain ⟨y, S1, e1, e⟩ := bind_ok e
  split at e
  · rename_i hr
    simp only [evA, R.bind] at e
    exact ⟨env, S, m, y, S1, rs, re, e1, fun m1 H1 ex1 rs1 xv hx => ⟨hty rs1 hx hr, m1, S1, y, [], v, S', rs1, hx, RVs.nil, e, f.on ex1⟩⟩
  · cases e
theorem sn_mth {mt : Mth} {T : String} (hty : ∀ {m : List Addr} {H : Hp} {S : Sto} {ov : Val} {xv : V}, RS (Cxkw X) m H S → RV (Cxkw X) m H ov xv → recv mt ov S = true → tyV (Cxkw X) T xv H)
    (pa : PlainAttrs T) (slot : Slot T name id) (ht : typeOf (.builtin id) = pure (.type "method_descriptor")) (hm : MtR X id (rM (Cxkw X) (mapp mt))) (ho : PE X o (rdE (Cxkw X) cf mo)) (ha : PA X (e :: es) (rdA (Cxkw X) cf mas))
    (hbase : attributeBase o name X.env (eval o X.env) = eval o X.env)
    (hfew : ((backTo cpos (starEach (e :: es) X.env)).all (fun x => !x.1) && (backToKw cpos (keywordEach [] X.env)).all (fun x => x.1.isSome)
      && decide ((e :: es).length + ([] : List Keyword).length + (if ([] : List Keyword).isEmpty then 0 else 1) < 30)) = true)
    (hline : (apos.endLine == cpos.line) = true) (hs : starEach (e :: es) X.env = (false, eval e X.env) :: starEach es X.env) (hplain : (backTo cpos (starEach es X.env)).any (·.1) = false) :
    PE X (.Call (.Attribute o name apos) (e :: es) [] cpos) (rdE (Cxkw X) cf (.mth mt mo mas)) :=
  PE_imp (pe_bm pa slot ht hm ho ha hbase hfew hline hs hplain) fun σ H Q ⟨env, S, m, v, S', rs, re, e, f⟩ => meth_imp hty rs re e f
theorem sn_mth0 {mt : Mth} {T : String} (hty : ∀ {m : List Addr} {H : Hp} {S : Sto} {ov : Val} {xv : V}, RS (Cxkw X) m H S → RV (Cxkw X) m H ov xv → recv mt ov S = true → tyV (Cxkw X) T xv H)
    (pa : PlainAttrs T) (slot : Slot T name id) (ht : typeOf (.builtin id) = pure (.type "method_descriptor")) (hm : MtR X id (rM (Cxkw X) (mapp mt))) (ho : PE X o (rdE (Cxkw X) cf mo))
    (hbase : attributeBase o name X.env (eval o X.env) = eval o X.env) (hline : (apos.endLine == cpos.line) = true) : PE X (.Call (.Attribute o name apos) [] [] cpos) (rdE (Cxkw X) cf (.mth mt mo .nil)) :=
  PE_imp (pe_bm0 pa slot ht hm ho hbase hline) fun σ H Q ⟨env, S, m, v, S', rs, re, e, f⟩ => meth_imp0 hty rs re e f

/-! ### isinstance -/
def tyName : Ty → String
  | .int => "int"
  | .bool => "bool"
  | .str => "str"
  | .tuple => "tuple"
  | .list => "list"
theorem ty_of {K : Kw} {m : List Addr} {H : Hp} {S : Sto} {v : Val} {t : Ty} {r : Bool} {xv : V} (rs : RS K m H S) (hx : RV K m H v xv) (h : isTy t v S = some r) (hd : ∀ q kvs, v = .ref q → S.get q ≠ some (.dct kvs)) (hi : ∀ q kvs, v = .ref q → S.get q ≠ some (.dci kvs)) : ∃ T, TyX K H xv (.type T) ∧ kitB T (tyName t) = some r := by
  cases v with
  | non => have := hx; simp only [RV] at this; subst this; exact ⟨_, .base .non, by cases t <;> (simp only [isTy] at h; cases h; decide +kernel)⟩
  | bl b => rw [rv_bl hx]; exact ⟨_, .base (.bl b), by cases t <;> (simp only [isTy] at h; cases h; decide +kernel)⟩
  | int i => rw [rv_int hx]; exact ⟨_, .base (.int i), by cases t <;> (simp only [isTy] at h; cases h; decide +kernel)⟩
  | str s => rw [rv_str hx]; exact ⟨_, .base (.str s), by cases t <;> (simp only [isTy] at h; cases h; decide +kernel)⟩
  | tup ds =>
    obtain ⟨ad, ws, rfl, h1, h2⟩ := rv_tup hx
    have hk : kitB "tuple" (tyName t) = some r := by cases t <;> (simp only [isTy] at h; cases h; decide +kernel)
    rcases h1 with (h1 | ⟨ob, h1⟩) | ⟨ob, its, n, h1, h3, _⟩
    · exact ⟨_, .base (.tup h1), hk⟩
    · exact ⟨_, .fTuple h1, hk⟩
    · exact ⟨_, .kTuple h1 h3, hk⟩
  | fl ds =>
    obtain ⟨ad, ws, rfl, h1, h2⟩ := rv_fl hx
    have hk : kitB "list" (tyName t) = some r := by cases t <;> (simp only [isTy] at h; cases h; decide +kernel)
    rcases h1 with (h1 | ⟨ob, h1⟩) | ⟨ob, its, n, h1, h3, _⟩
    · exact ⟨_, .base (.lst h1), hk⟩
    · exact ⟨_, .base (.frz h1), hk⟩
    · exact ⟨_, .kList h1 h3, hk⟩
  | rng lo hi => cases t <;> (simp only [isTy] at h; cases h)
  | ref q =>
    obtain ⟨ad, rfl, h1⟩ := rv_ref hx
    obtain ⟨ob, hg, ho⟩ := rs.ob q ad h1
    cases ob with
    | lst xs =>
      obtain ⟨vs, h3, _⟩ := ho
      refine ⟨_, .base (.lst h3), ?_⟩
      cases t <;> (simp only [isTy, hg] at h; cases h; decide +kernel)
    | dct kvs => exact absurd hg (hd q kvs rfl)
    | ldc kvs => cases t <;> (simp only [isTy, hg] at h; cases h)
    | dci kvs => exact absurd hg (hi q kvs rfl)
    | ldi kvs => cases t <;> (simp only [isTy, hg] at h; cases h)
def rIsiM (K : Kw) (t : Ty) : List V → Hp → VK → Prop := fun xs H Q => ∃ m S v r xv, RS K m H S ∧ RV K m H v xv ∧ xs = [xv, .ty (tyName t)] ∧ isTy t v S = some r ∧ Q (.bl r) H
theorem c_isi {t : Ty} : CallR X (.builtin "isinstance") (rIsiM (Cxkw X) t) := by
  intro pins s σ H xs us Q I r h
  obtain ⟨m, S, v, w, xv, rs, hv, rfl, ht, q⟩ := h
  -- a dict of either kind: what stands at its place is an exact dict
  have dictAt : ∀ {a : Addr} {es : Array DictEntry} {ep : Nat}, xv = .ref a → s.heap.DictRaw a es ep → kitB "dict" (tyName t) = some w → wpAny (model X.prog X.w) X.A (call (.builtin "isinstance") us) (EP X pins σ Q) X.xe s := by
    rintro a es ep rfl ⟨o, ho, hxd, _⟩ hk
    obtain ⟨u, w2, rfl, r1, r2⟩ : ∃ u w2, us = [u, w2] ∧ RelV (.ref a) u ∧ RelV (.ty (tyName t)) w2 := by
      cases r with
      | cons p1 p2 =>
        cases p2 with
        | cons p3 p4 => cases p4; exact ⟨_, _, rfl, p1, p3⟩
    obtain rfl : u = Value.ref a := r1
    obtain rfl : w2 = Value.type (tyName t) := r2
    exact PySem.W.kia_one PySem.W.kitx_dict I.kIn ⟨o, ho, hxd.1⟩ (kit_ty hk) (fun z => nomatch z) fun tk => ⟨.bl w, H, I.tok _, rfl, q⟩
  by_cases hdd : ∃ q kvs, v = .ref q ∧ S.get q = some (.dct kvs)
  · obtain ⟨q0, kvs, rfl, hg⟩ := hdd
    obtain ⟨a, rfl, h1⟩ := rv_ref hv
    obtain ⟨b, hb, zs, hH, rd⟩ := rs.at hg
    rw [h1] at hb; cases hb
    obtain ⟨_, _, es, ep, raw, _⟩ := dct_raw I hH
    exact dictAt rfl raw (by cases t <;> (simp only [isTy, hg] at ht; cases ht; decide +kernel))
  by_cases hdi : ∃ q kvs, v = .ref q ∧ S.get q = some (.dci kvs)
  · obtain ⟨q0, kvs, rfl, hg⟩ := hdi
    obtain ⟨a, rfl, h1⟩ := rv_ref hv
    obtain ⟨b, hb, zs, hH, rd⟩ := rs.at hg
    rw [h1] at hb; cases hb
    obtain ⟨_, _, es, ep, raw, _⟩ := dci_raw I hH
    exact dictAt rfl raw (by cases t <;> (simp only [isTy, hg] at ht; cases ht; decide +kernel))
  obtain ⟨T, h1, h2⟩ := ty_of rs hv ht (fun q kvs e1 e2 => hdd ⟨q, kvs, e1, e2⟩) fun q kvs e1 e2 => hdi ⟨q, kvs, e1, e2⟩
  exact call_isi pins s σ H _ us Q I r ⟨xv, .ty (tyName t), .type T, .type (tyName t), w, rfl, .ty _, h1, kit_ty h2, q⟩
theorem sn_isi {t : Ty} {y : Str} {p2 : Pos} (hg : Gl X "isinstance") (hm : X.mg "isinstance" = none) (hg2 : Gl X y) (hm2 : X.mg y = none) (hv2 : bootBuiltins y = some (.type (tyName t))) (hn2 : y ≠ "__name__") (hd2 : (y == ("__debug__" : Str)) = false)
    (ha : PE X a (rdE (Cxkw X) cf ma)) (hs : starEach (a :: [.Name y p2]) X.env = (false, eval a X.env) :: starEach [.Name y p2] X.env) :
    PE X (.Call (.Name "isinstance" p) (a :: [.Name y p2]) [] pos) (rdE (Cxkw X) cf (.isi ma t)) := by
  have hT : PE X (.Name y p2) (tC (.ty (tyName t))) := pe_bltn hg2 hm2 hv2 rfl hn2 hd2
  refine PE_imp (pe_callB (c_isi (t := t)) hg hm (by decide +kernel) (pa_cons ha (pa_cons hT pa_nil rfl) hs) (by decide) (by decide) hs rfl) fun σ H Q ⟨env, S, m, v, S', rs, re, e, f⟩ => ?_
  simp only [evE] at e
  obtain ⟨y1, S1, e1, e2⟩ := bind_ok e
  obtain ⟨e3, rfl⟩ := R.of_ok e2
  obtain ⟨r, er, rfl⟩ := Option.map_eq_some_iff.mp e3
  exact ⟨env, S, m, y1, _, rs, re, e1, fun m1 H1 ex1 rs1 xv hx => ⟨m1, _, y1, r, xv, rs1, hx, rfl, er, f m1 H1 ex1 rs1 _ mk_bl⟩⟩

/-! ### defs of the text -/
/-- as the layer's FnOk, where no text is being shown (no repr runs around) -/
structure FnG (P : Program) (w : World) (K : PySem.W.Frag) (mg : Str → Option Value) (base : Heap) (k : Nat) (f : Addr) (fd : FuncData) (ps : List Str) (sp : Sp) : Prop where
  len : ∀ vs H Q E, sp vs H Q E → vs.length = ps.length
  run : ∀ (A : Around) (outer : List PySem.Env) (s : Shared) (H : Hp) (args : Args) (us : List Value) (vs : List V) (Q : VK) (E : XK), Room k A → A.guards = some [] → Env0 P w K mg base A outer s H → BindsTo s fd args (ps.zip us) →
    Vals vs us → sp vs H Q E → codeAny (model P w) A (.call (.ref f) args) (CR CX0 outer P w H s Q E) s
/-- what a def of the text hands back -/
def spF (K : Kw) (cf : CF) (f : Nat) : Sp := fun vs H Q _ => ∃ m S args v S', RS K m H S ∧ RVs K m H args vs ∧ cf f args S = .ok v S' ∧ Fin K m H v S' Q
theorem run_G {k : Nat} {f : Addr} {fd : FuncData} {ps : List Str} {sp : Sp} {E : XK} {pins : List (Addr × Obj)} {σ : L2.St} {H : Hp} {s : Shared} {Q : VK} {us : List Value} {vs : List V} (F : FnG X.prog X.w X.K X.mg X.base k f fd ps sp) (hr : Room k X.A) (hg : X.A.guards = some [])
    (hb : Binds X.K fd ps []) (I : Inv X pins σ H s) (r : Vals vs us) (h : sp vs H Q E) : wpAny (model X.prog X.w) X.A (PySem.call (.ref f) us) (EP X pins σ Q) X.xe s := by
  have hl : (us ++ []).length = ps.length := by rw [List.append_nil, ← r.length]; exact F.len vs H Q E h
  have hbind := hb s us I.kIn hl
  rw [List.append_nil] at hbind
  refine wpAny_call (codeAny_mono (F.run X.A X.stack s H ⟨us, []⟩ us vs Q E hr hg I.env0 hbind r h) fun res s2 q => ?_)
  cases res with
  | error ex => exact False.elim q
  | ok fl =>
    cases fl with
    | ret u => exact I.after q
    | next => exact q.elim
    | brk => exact q.elim
    | cont => exact q.elim
theorem pe_callG {k : Nat} {f : Addr} {fd : FuncData} {ps : List Str} {sp : Sp} {E : XK} {t : TA} (F : FnG X.prog X.w X.K X.mg X.base k f fd ps sp) (hr : Room k X.A) (hgd : X.A.guards = some []) (hg : Gl X x) (hm : X.mg x = some (.ref f)) (hk : PySem.W.keepIn X.K (.ref f) = true)
    (hb : Binds X.K fd ps []) (ha : PA X (e :: es) t) (hdb : (x == ("__debug__" : Str)) = false) (he : starEach (e :: es) X.env = (false, eval e X.env) :: starEach es X.env) (hpl : (backTo pos (starEach es X.env)).any (·.1) = false) :
    PE X (.Call (.Name x p) (e :: es) [] pos) (tCall sp [] E t) := ⟨fun pins s σ H Q I h =>
  wpAny_Call_Name_kw (ld_glob I hg hm (PySem.W.callWith_K (h₀ := X.base) I.ok.mod.kin hk (thn (ha.run pos pins s σ H _ I h) fun us s1 ⟨vs, H1, I1, r, q⟩ => ⟨I1.kIn, by
    have q2 : sp (vs ++ []) H1 Q E := q
    rw [List.append_nil] at q2
    exact run_G F hr hgd hb I1 r q2⟩) he hpl) hdb)⟩
theorem pe_callG0 {k : Nat} {f : Addr} {fd : FuncData} {ps : List Str} {sp : Sp} {E : XK} (F : FnG X.prog X.w X.K X.mg X.base k f fd ps sp) (hr : Room k X.A) (hgd : X.A.guards = some []) (hg : Gl X x) (hm : X.mg x = some (.ref f)) (hk : PySem.W.keepIn X.K (.ref f) = true)
    (hb : Binds X.K fd ps []) (hdb : (x == ("__debug__" : Str)) = false) : PE X (.Call (.Name x p) [] [] pos) (tCall sp [] E tNil) := ⟨fun pins s σ H Q I h =>
  wpAny_Call_Name_kw (ld_glob I hg hm (PySem.W.callWith_K0 I.kIn hk (run_G (us := []) (vs := []) F hr hgd hb I .nil h)) hdb)⟩
theorem sn_call {k fi : Nat} {f : Addr} {fd : FuncData} {ps : List Str} (F : FnG X.prog X.w X.K X.mg X.base k f fd ps (spF (Cxkw X) cf fi)) (hr : Room k X.A) (hgd : X.A.guards = some []) (hg : Gl X x) (hm : X.mg x = some (.ref f)) (hk : PySem.W.keepIn X.K (.ref f) = true)
    (hb : Binds X.K fd ps []) (ha : PA X (e :: es) (rdA (Cxkw X) cf mas)) (hdb : (x == ("__debug__" : Str)) = false) (he : starEach (e :: es) X.env = (false, eval e X.env) :: starEach es X.env) (hpl : (backTo pos (starEach es X.env)).any (·.1) = false) :
    PE X (.Call (.Name x p) (e :: es) [] pos) (rdE (Cxkw X) cf (.call fi mas)) :=
  PE_imp (pe_callG (E := E0) F hr hgd hg hm hk hb ha hdb he hpl) fun σ H Q ⟨env, S, m, v, S', rs, re, e, f⟩ => by
    simp only [evE] at e
    obtain ⟨vs, S1, e1, e⟩ := bind_ok e
    refine ⟨env, S, m, vs, S1, rs, re, e1, fun m1 H1 ex1 rs1 zs hz => ?_⟩
    show spF (Cxkw X) cf fi (zs ++ []) H1 Q E0
    rw [List.append_nil]
    exact ⟨m1, S1, vs, v, S', rs1, hz, e, f.on ex1⟩
theorem sn_call0 {k fi : Nat} {f : Addr} {fd : FuncData} {ps : List Str} (F : FnG X.prog X.w X.K X.mg X.base k f fd ps (spF (Cxkw X) cf fi)) (hr : Room k X.A) (hgd : X.A.guards = some []) (hg : Gl X x) (hm : X.mg x = some (.ref f)) (hk : PySem.W.keepIn X.K (.ref f) = true)
    (hb : Binds X.K fd ps []) (hdb : (x == ("__debug__" : Str)) = false) : PE X (.Call (.Name x p) [] [] pos) (rdE (Cxkw X) cf (.call fi .nil)) :=
  PE_imp (pe_callG0 (E := E0) F hr hgd hg hm hk hb hdb) fun σ H Q ⟨env, S, m, v, S', rs, re, e, f⟩ => by
    simp only [evE, evA, R.bind] at e
    exact ⟨m, S, [], v, S', rs, RVs.nil, e, f⟩
end
end Mp

set_option Elab.async false
set_option linter.all false
set_option maxRecDepth 100000
set_option maxHeartbeats 2000000
/-! Mp, part J0: a walk of the library (Walks, WalksT) as a turn of the layer. -/
namespace Mp
open PySem PySem.Spec PyProof.Rows L2
/-- what the layer's walk J has to say of a source with n items: G stands of it, each item is as V tells -/
structure Says (P : Program) (w : World) (K : PySem.W.Frag) (J : It) (n : Nat) (G : Heap → Prop) : Prop where
  go : ∀ {X : Cx} {pins : List (Addr × Obj)} {σ : L2.St} {H : Hp} {s : Shared} {i : Nat}, X.prog = P → X.w = w → X.K = K → Inv X pins σ H s → J.go i H → i < n ∧ G s.heap
  stop : ∀ {X : Cx} {pins : List (Addr × Obj)} {σ : L2.St} {H : Hp} {s : Shared} {i : Nat}, X.prog = P → X.w = w → X.K = K → Inv X pins σ H s → J.stop i H → n ≤ i ∧ G s.heap
section
variable {P : Program} {w : World} {K : PySem.W.Frag} {J : It} {it : Addr} {n : Nat} {G : Heap → Prop} {tn : Nat → Heap → Prop}
/-- items as they stand -/
theorem turn_walk {tg : Expr} {nm : String} {wf : List Addr} {V : Nat → Value → Prop} (plain : (["enumerate", "zip", "dict_itemiterator", "dict_reverseitemiterator", "odict_iterator", "itertools.zip_longest", "itertools.pairwise"].contains nm) = false)
    (shape : ∀ i h, tn i h → ∃ o vs, h.get? it = some o ∧ o.cls = .type nm ∧ o.data = .fields vs) (stays : ∀ i h h', tn i h → (∀ o, h.get? it = some o → h'.get? it = some o) → tn i h')
    (W : ∀ A : Around, A.handled = none → Walks P w A it wf [it] n V fun i h => tn i h ∧ G h) (iter : ∀ (A : Around) i s (Q E : Value → Shared → Prop), tn i s.heap → Q (.ref it) s → wpAny (model P w) A (pyIter (.ref it)) Q E s)
    (S : Says P w K J n G) (yields : ∀ i H u, V i u → ∃ x, RelV x u ∧ J.yld i H x H) : Turn P w K tg J [it] it fun i h => i ≤ n ∧ tn i h := by
  have only : ∀ {b}, b ∈ [it] ↔ b = it := by simp
  constructor
  case mem => simp
  case obj =>
    rintro i h ⟨_, st⟩ b hb
    obtain ⟨o, vs, e, _, d⟩ := shape i h st
    exact ⟨o, by rw [only.mp hb]; exact e, fun v z => by rw [d] at z; cases z⟩
  case keep => exact fun i h h' st k => ⟨st.1, stays i h h' st.2 (k it (by simp))⟩
  case self => exact fun A i s Q E st q => iter A i s Q E st.2 q
  case done =>
    intro X e1 e2 e3 calm i pins s σ H E I free st stop
    obtain ⟨hn, g⟩ := S.stop e1 e2 e3 I stop
    obtain rfl : i = n := Nat.le_antisymm st.1 hn
    obtain ⟨f0, f1, _, f3, f4, f5⟩ := free it (by simp)
    exact (W X.A (I.ok.hd calm)).done s _ E ⟨st.2, g⟩ fun h' tk k => ⟨rfl, I.turned (fun b o nb e => k b o (fun z => nb (only.mp z)) e) f0 f1 f3 f4 f5⟩
  case item =>
    intro X e1 e2 e3 calm i pins s σ H E I free st go
    obtain ⟨hn, g⟩ := S.go e1 e2 e3 I go
    obtain ⟨f0, f1, _, f3, f4, f5⟩ := free it (by simp)
    refine (W X.A (I.ok.hd calm)).item i s _ E hn ⟨st.2, g⟩ fun u h' tk hu st' k => ⟨u, rfl, ?_⟩
    obtain ⟨x, rel, yl⟩ := yields i H u hu
    obtain ⟨o, vs, q1, q2, q3⟩ := shape (i + 1) h' st'.1
    exact go_of (s := { s with heap := h', toks := tk }) q1 q2 q3 plain ⟨x, H, I.turned (fun b o nb e => k b o (fun z => nb (only.mp z)) e) f0 f1 f3 f4 f5, rel, yl, ⟨hn, st'.1⟩, fun b hb => (free b hb).1⟩
/-- pairs, each in a tuple of its own; g: what is known of the source at a step -/
theorem turn_walkT {γ : Type} {elts : List Expr} {k : Nat} {pos : Pos} {fp : List Addr} {wf : γ → List Addr} {V : γ → Nat → Array Value → Prop} {Gs : γ → Heap → Prop} {Mid : γ → Nat → Addr → Heap → Prop} (mem : it ∈ fp)
    (ob : ∀ i h, tn i h → ∀ b ∈ fp, ∃ o, h.get? b = some o ∧ ∀ v, o.data ≠ .cell v) (stays : ∀ i h h', tn i h → (∀ b ∈ fp, ∀ o, h.get? b = some o → h'.get? b = some o) → tn i h')
    (W : ∀ (g : γ) (A : Around), A.handled = none → WalksT P w A it (wf g) fp n (V g) (fun i h => tn i h ∧ Gs g h) (Mid g))
    (go : ∀ {X : Cx} {pins : List (Addr × Obj)} {σ : L2.St} {H : Hp} {s : Shared} {i : Nat}, X.prog = P → X.w = w → X.K = K → Inv X pins σ H s → J.go i H → i < n ∧ ∃ g, Gs g s.heap ∧
      ∀ T us, H T = none → V g i us → ∃ x y ux uy, us = #[ux, uy] ∧ RelV x ux ∧ RelV y uy ∧ J.yld i H (.ref T) (upd H T (.tup [x, y])))
    (stop : ∀ {X : Cx} {pins : List (Addr × Obj)} {σ : L2.St} {H : Hp} {s : Shared} {i : Nat}, X.prog = P → X.w = w → X.K = K → Inv X pins σ H s → J.stop i H → n ≤ i ∧ ∃ g, Gs g s.heap)
    (iter : ∀ (A : Around) i s (Q E : Value → Shared → Prop), tn i s.heap → Q (.ref it) s → wpAny (model P w) A (pyIter (.ref it)) Q E s) : Turn P w K (.Tuple elts k pos) J fp it fun i h => i ≤ n ∧ tn i h := by
  constructor
  case mem => exact mem
  case obj => exact fun i h st => ob i h st.2
  case keep => exact fun i h h' st k => ⟨st.1, stays i h h' st.2 k⟩
  case self => exact fun A i s Q E st q => iter A i s Q E st.2 q
  case done =>
    intro X e1 e2 e3 calm i pins s σ H E I free st hs
    obtain ⟨hn, g, hg⟩ := stop e1 e2 e3 I hs
    obtain rfl : i = n := Nat.le_antisymm st.1 hn
    refine (W g X.A (I.ok.hd calm)).done s _ E ⟨st.2, hg⟩ fun h' tk k => ⟨rfl, ?_⟩
    exact I.turnedL k free
  case item =>
    intro X e1 e2 e3 calm i pins s σ H E I free st hs
    obtain ⟨hn, g, hg, yields⟩ := go e1 e2 e3 I hs
    have Wg := W g X.A (I.ok.hd calm)
    refine Wg.item i s _ E hn ⟨st.2, hg⟩ fun T us h1 tk hu big tup mid k1 => ⟨.ref T, rfl, ?_⟩
    refine Wg.go elts k pos i T { s with heap := h1, toks := tk } _ E mid fun h2 st2 k2 => ?_
    have apart := Wg.apart i T h1 mid
    obtain ⟨x, y, ux, uy, rfl, rx, ry, yl⟩ := yields T us (I.hok.fresh big) hu
    obtain ⟨o, ho, hc, m, hd⟩ := tup
    refine ⟨.ref T, _, I.turnedNew (t' := tk) (ch := fp) (T := T) (ob := .tup [x, y]) (fun b o nb e => k2 b o nb (k1 b o nb e)) free big ?_, rfl, yl, ⟨hn, st2.1⟩, fun b hb => ?_⟩
    · exact ⟨by show 2 ≤ sizeLine; decide, [ux, uy], .cons rx (.cons ry .nil), o, k2 T o apart ho, hc, m, hd⟩
    · rw [upd_ne (fun z : b = T => apart (by rw [← z]; exact hb))]; exact (free b hb).1
end
end Mp

set_option Elab.async false
set_option linter.all false
set_option maxRecDepth 100000
set_option maxHeartbeats 2000000
/-! Mp, part J: enumerate over a tuple. -/
namespace Mp
open PySem PySem.Spec PyProof.Rows L2
/-- enumerate's object, made of something whose iterator is new -/
theorem enum_made {src : Value} {itObj : Obj} {G : Heap → Prop} (B : Begins src itObj G) : Meets (Builtin.«enumerate.__new__» ⟨[.type "enumerate", src], []⟩) fun _ R s => G s.heap ∧
    R (.ok (.ret (.ref (s.heap.push itObj).objs.size))) { s with heap := (s.heap.push itObj).push { cls := .type "enumerate", data := .fields #[.none, .bool false, .ref s.heap.objs.size, rawInt 0, .none, .none] } } := by
  refine .of_wp fun prog w A R s hs => ?_
  obtain ⟨heap, gens, drawn, toks, os⟩ := s
  have own := sub_enumerate
  have first : ∀ {A' : Around} {E : Value → Shared → Prop} {Q : Value → Shared → Prop}, Q (.ref heap.objs.size) ⟨heap.push itObj, gens, drawn, toks, os⟩ → wpAny (model prog w) A' (pyIter src) Q E ⟨heap, gens, drawn, toks, os⟩ := fun q => B.iter prog w _ _ _ _ hs.1 q
  wp_walk using first
  refine wpAny_stack_any fun frames => wpAny_pure ?_
  split
  · generalize (_ == Value.type "enumerate") = same
    cases same <;> (wp_walk using first; exact ⟨_, rfl, hs.2⟩)
  · wp_walk using first
    exact ⟨_, rfl, hs.2⟩
theorem enum_call {prog : Program} {w : World} {A : Around} {E : Value → Shared → Prop} {s : Shared} {src : Value} {itObj : Obj} {G : Heap → Prop} {Q : Value → Shared → Prop} (B : Begins src itObj G) (g : G s.heap)
    (h : ∀ h2, IsEnum h2 (s.heap.objs.size + 1) s.heap.objs.size 0 .none → h2.get? s.heap.objs.size = some itObj → (∀ b o, s.heap.get? b = some o → h2.get? b = some o) → Q (.ref (s.heap.objs.size + 1)) { s with heap := h2 }) :
    wpAny (model prog w) A (call (.type "enumerate") [src]) Q E s := by
  have two : (s.heap.push itObj).objs.size = s.heap.objs.size + 1 := Heap.size_push ..
  refine callType_new F.called_enumerate (by decide) (F.typeCall_enumerate_1 _) (F.newCall_enumerate_1 _) (fun obj => F.args_object_init_2 obj _) F.entry_enumerate_new (enum_made B) ⟨g, ?_⟩
  rw [two]
  generalize hE : ({ cls := .type "enumerate", data := .fields #[.none, .bool false, .ref s.heap.objs.size, rawInt 0, .none, .none] } : Obj) = eo
  have at2 : ((s.heap.push itObj).push eo).get? (s.heap.objs.size + 1) = some eo := by rw [← two]; exact Heap.get?_push_size _ (by rw [← hE]; rfl)
  refine ⟨⟨eo, at2, by rw [← hE]⟩, h _ (by subst hE; exact at2) (Heap.get?_push_of_some _ (Heap.get?_push_size _ B.free)) fun b o e => Heap.get?_push_of_some _ (Heap.get?_push_of_some _ e)⟩
/-- a tuple of n items at a, each in a new pair with its place -/
def IteT (K : PySem.W.Frag) (a : Addr) (n : Nat) : It where
  go i H := ∃ (xs : List V) (x : V), SqT K H a xs ∧ xs.length = n ∧ xs[i]? = some x
  yld i H v H' := ∃ T x, v = .ref T ∧ H T = none ∧ H' = upd H T (.tup [.int (i : Nat), x]) ∧ ∀ xs, SqT K H a xs → xs[i]? = some x
  stop i H := ∃ xs : List V, SqT K H a xs ∧ xs.length = n ∧ n ≤ i
theorem turn_enumT {P : Program} {w : World} {K : PySem.W.Frag} {elts : List Expr} {kk : Nat} {tpos : Pos} {n : Nat} {a e it : Addr} (ne : e ≠ it) (na : a ≠ it) (nb : e ≠ a) :
    Turn P w K (.Tuple elts kk tpos) (IteT K a n) [e, it] e fun i h => i ≤ n ∧ (∃ old, IsEnum h e it (0 + (i : Int)) old) ∧ h.IsTupleIter it a i := by
  refine turn_walkT (γ := { its : Array Value // its.size = n }) (Gs := fun g h => h.IsTuple a g.1) (wf := fun _ => [e, it, a]) (V := fun g i vals => ∃ t x, g.1[i]? = some x ∧ vals = #[Value.int (0 + (i : Int)) t, x])
    (Mid := fun g i T h => (∃ x, IsEnumOut h e it (0 + (i : Int) + 1) x T) ∧ (h.IsTupleIter it a (i + 1) ∧ h.IsTuple a g.1) ∧ T ≠ e ∧ T ≠ it) (by simp) ?ob ?stays (W := fun g A hh => ?W) ?go ?stop ?iter
  case W =>
    obtain ⟨its, rfl⟩ := g
    have D := WalksT.enumFrom 0 (Draws.tuple (prog := P) (w := w) (A := A.in1) (by simp [hh]) it a na its) e ne (by simp [ne, nb]) (by simp)
    exact ⟨D.sub, fun i h h' st k => ⟨⟨(D.frame i h h' ⟨st.1.1, st.1.2, st.2⟩ k).1, (D.frame i h h' ⟨st.1.1, st.1.2, st.2⟩ k).2.1⟩, (D.frame i h h' ⟨st.1.1, st.1.2, st.2⟩ k).2.2⟩, fun i s Q E hi st q => D.item i s Q E hi ⟨st.1.1, st.1.2, st.2⟩ q,
      fun el k pos i T s Q E m q => D.go el k pos i T s Q E m fun h' st k => q h' ⟨⟨st.1, st.2.1⟩, st.2.2⟩ k, D.apart, fun s Q E st q => D.done s Q E ⟨st.1.1, st.1.2, st.2⟩ q, fun i s Q E st q => D.self i s Q E ⟨st.1.1, st.1.2, st.2⟩ q⟩
  case ob =>
    rintro i h ⟨⟨old, he⟩, ⟨o, ho, _, hd⟩⟩ b hb
    rcases List.mem_cons.mp hb with rfl | hb
    · exact ⟨_, he, fun v z => nomatch z⟩
    · rw [List.mem_singleton.mp hb]
      exact ⟨o, ho, fun v z => by rw [hd] at z; cases z⟩
  case stays => exact fun i h h' ⟨⟨old, he⟩, st⟩ k => ⟨⟨old, k e (by simp) _ he⟩, st.at (k it (by simp))⟩
  case iter => exact fun A i s Q E ⟨⟨old, he⟩, _⟩ q => wpAny_pyIter_enum he q
  case go =>
    rintro X pins σ H s i rfl rfl rfl I ⟨xs, x, sq, rfl, hx⟩
    obtain ⟨its, rel, tup, _⟩ := I.tuple sq
    have len := rel.length
    refine ⟨(List.getElem?_eq_some_iff.mp hx).1, ⟨its.toArray, by simp [len]⟩, tup, ?_⟩
    rintro T us nT ⟨t, u, hu, rfl⟩
    obtain ⟨u2, e2, rx⟩ := rel.get hx
    obtain rfl : u = u2 := by
      have : its[i]? = some u := by simpa using hu
      rw [e2] at this; exact (Option.some.inj this).symm
    refine ⟨.int (i : Nat), x, _, _, rfl, ⟨t, by simp⟩, rx, T, x, rfl, nT, rfl, fun ys sy => ?_⟩
    obtain ⟨its2, rel2, tup2, _⟩ := I.tuple sy
    obtain ⟨o1, q1, _, m1, d1⟩ := tup
    obtain ⟨o2, q2, _, m2, d2⟩ := tup2
    rw [q1] at q2; cases q2
    rw [d1] at d2
    injection d2 with d2
    have same : its = its2 := by simpa using congrArg Array.toList d2
    subst same
    have lx : i < ys.length := by rw [rel2.length, ← len]; exact (List.getElem?_eq_some_iff.mp hx).1
    obtain ⟨u3, e3, r3⟩ := rel2.get (List.getElem?_eq_getElem lx)
    rw [e2] at e3; cases e3
    rw [List.getElem?_eq_getElem lx, L2.RelV.inj r3 rx]
  case stop =>
    rintro X pins σ H s i rfl rfl rfl I ⟨xs, sq, rfl, hi⟩
    obtain ⟨its, rel, tup, _⟩ := I.tuple sq
    exact ⟨hi, ⟨its.toArray, by simp [rel.length]⟩, tup⟩
end Mp

set_option Elab.async false
set_option linter.all false
set_option maxRecDepth 100000
set_option maxHeartbeats 2000000
/-! Mp, part J1: walks over a locked dict: its keys, values, items. -/
namespace Mp
open PySem PySem.Spec PyProof.Rows L2
/-- the dict at d is locked, its object o -/
def LockedAt (H : Hp) (d : Addr) (o : Obj) : Prop := ∃ φ, H d = some (.frz o (.ext φ))
def ItxK (d : Addr) (o : Obj) (es : Array DictEntry) : It :=
  ⟨fun i H => LockedAt H d o ∧ i < es.size, fun i H v H' => H' = H ∧ ∃ hi : i < es.size, RelV v es[i].key, fun i H => LockedAt H d o ∧ es.size ≤ i⟩
def ItxV (d : Addr) (o : Obj) (es : Array DictEntry) : It :=
  ⟨fun i H => LockedAt H d o ∧ i < es.size, fun i H v H' => H' = H ∧ ∃ hi : i < es.size, RelV v es[i].val, fun i H => LockedAt H d o ∧ es.size ≤ i⟩
def ItxI (d : Addr) (o : Obj) (es : Array DictEntry) : It :=
  ⟨fun i H => LockedAt H d o ∧ i < es.size, fun i H v H' => ∃ T k x, v = .ref T ∧ H T = none ∧ H' = upd H T (.tup [k, x]) ∧ ∃ hi : i < es.size, RelV k es[i].key ∧ RelV x es[i].val, fun i H => LockedAt H d o ∧ es.size ≤ i⟩
/-- each entry of the object is told -/
structure EsOk (o : Obj) (es : Array DictEntry) (ep : Nat) : Prop where
  ex : o.ExactDict
  dt : o.data = .dict es ep
  ks : ∀ i (hi : i < es.size), ∃ v, RelV v es[i].key
  vs : ∀ i (hi : i < es.size), ∃ v, RelV v es[i].val
section
variable {P : Program} {w : World} {K : PySem.W.Frag} {tg : Expr} {d : Addr} {o : Obj} {es : Array DictEntry} {ep : Nat}
theorem lock_raw {X : Cx} {pins : List (Addr × Obj)} {σ : L2.St} {H : Hp} {s : Shared} (I : Inv X pins σ H s) (h : LockedAt H d o) (e : EsOk o es ep) : s.heap.DictRaw d es ep := by
  obtain ⟨φ, hd⟩ := h
  obtain ⟨h1, _⟩ := I.hok d _ hd
  exact ⟨o, h1, e.ex, e.dt⟩
theorem says_locked {J : It} (e : EsOk o es ep) (h1 : ∀ i H, J.go i H → LockedAt H d o ∧ i < es.size) (h2 : ∀ i H, J.stop i H → LockedAt H d o ∧ es.size ≤ i) : Says P w K J es.size (fun h => h.DictRaw d es ep) where
  go _ _ _ I g := ⟨(h1 _ _ g).2, lock_raw I (h1 _ _ g).1 e⟩
  stop _ _ _ I g := ⟨(h2 _ _ g).2, lock_raw I (h2 _ _ g).1 e⟩
theorem turn_keysX (it : Addr) (ne : d ≠ it) (e : EsOk o es ep) : Turn P w K tg (ItxK d o es) [it] it fun i h => i ≤ es.size ∧ h.IsKeyIter it d i es.size ep :=
  turn_walk (nm := "dict_keyiterator") (by decide) (fun _ _ ⟨o, a, b, c⟩ => ⟨o, _, a, b, c⟩) (fun _ _ _ st k => st.at k) (fun _ hh => Walks.rawKeys hh it d ne es ep) (fun _ _ _ _ _ st q => wpAny_pyIter_keyiter st q)
    (says_locked e (fun _ _ g => g) fun _ _ g => g) fun i H u ⟨hi, hu⟩ => by
      obtain ⟨x, rx⟩ := e.ks i hi
      exact ⟨x, hu ▸ rx, rfl, hi, rx⟩
theorem turn_valsX (it : Addr) (ne : d ≠ it) (e : EsOk o es ep) : Turn P w K tg (ItxV d o es) [it] it fun i h => i ≤ es.size ∧ h.IsValIter it d i es.size ep :=
  turn_walk (nm := "dict_valueiterator") (by decide) (fun _ _ ⟨o, a, b, c⟩ => ⟨o, _, a, b, c⟩) (fun _ _ _ st k => st.at k) (fun _ hh => Walks.rawValues hh it d ne es ep) (fun _ _ _ _ _ st q => wpAny_pyIter_valiter st q)
    (says_locked e (fun _ _ g => g) fun _ _ g => g) fun i H u ⟨hi, hu⟩ => by
      obtain ⟨x, rx⟩ := e.vs i hi
      exact ⟨x, hu ▸ rx, rfl, hi, rx⟩
theorem turn_itemsX {elts : List Expr} {kk : Nat} {tpos : Pos} (it : Addr) (ne : d ≠ it) (e : EsOk o es ep) : Turn P w K (.Tuple elts kk tpos) (ItxI d o es) [it] it fun i h => i ≤ es.size ∧ ∃ ok ov, IsItemIter h it d i es.size ep ok ov :=
  turn_walkT (γ := Unit) (by simp) (fun i h st b hb => by
      obtain ⟨ok, ov, a⟩ := st
      have := List.mem_singleton.mp hb
      subst this
      exact ⟨_, a, fun v z => by cases z⟩) (fun _ _ _ ⟨ok, ov, a⟩ k => ⟨ok, ov, k it (by simp) _ a⟩) (fun _ _ hh => WalksT.rawItems hh it d ne es ep)
    (fun _ _ _ I g => ⟨g.2, (), lock_raw I g.1 e, fun T us nT ⟨hi, hu⟩ => by
      obtain ⟨x, rx⟩ := e.ks _ hi
      obtain ⟨y, ry⟩ := e.vs _ hi
      exact ⟨x, y, _, _, hu, rx, ry, T, x, y, rfl, nT, rfl, hi, rx, ry⟩⟩) (fun _ _ _ I g => ⟨g.2, (), lock_raw I g.1 e⟩) fun _ _ _ _ _ ⟨_, _, a⟩ q => PySem.W.kcp_self a q
end
theorem raw_old {h : Heap} {d : Addr} {es : Array DictEntry} {ep : Nat} (raw : h.DictRaw d es ep) : d ≠ h.objs.size := by
  obtain ⟨o, e, _⟩ := raw
  exact Nat.ne_of_lt (Heap.lt_size e)
/-- what is walked of a locked dict -/
def lkd (o : Obj) (es : Array DictEntry) (ep : Nat) (H : Hp) (d : Addr) : Prop := LockedAt H d o ∧ EsOk o es ep ∧ (d == sysModules) = false
def iKeysX (td : TE) : TI := fun σ H R => td σ H fun x H1 => ∃ d o es ep, x = .ref d ∧ lkd o es ep H1 d ∧ R (ItxK d o es) H1
def iValsX (td : TE) : TI := fun σ H R => td σ H fun x H1 => ∃ d o es ep, x = .ref d ∧ lkd o es ep H1 d ∧ R (ItxV d o es) H1
def iItemsX (td : TE) : TI := fun σ H R => td σ H fun x H1 => ∃ d o es ep, x = .ref d ∧ lkd o es ep H1 d ∧ R (ItxI d o es) H1
section
variable {X : Cx} {tg e : Expr} {td : TE} {apos cpos : Pos}
theorem pi_keysX (he : PE X e td) : PI X tg e (iKeysX td) := by
  refine ⟨fun pins s σ H R I h => ?_⟩
  refine thn (he.run pins s σ H _ I h) fun u s1 ⟨x, H1, I1, rx, d, o, es, ep, ex, ⟨hl, ok, hs⟩, q⟩ => ?_
  subst ex
  obtain rfl : u = Value.ref d := rx
  exact wpAny_pyIter_dict_raw hs (lock_raw I1 hl ok) (pi_one (tk := s1.toks) I1 _ (turn_keysX _ (raw_old (lock_raw I1 hl ok)) ok) ⟨Nat.zero_le _, _, Heap.get?_push_size _ rfl, rfl, rfl⟩ q)
theorem raw_noDict {s : Shared} {d : Addr} {es : Array DictEntry} {ep : Nat} (h : s.heap.DictRaw d es ep) : ∀ b, Value.ref d = .ref b → ∃ ob, s.heap.get? b = some ob ∧ ob.dict = none := fun b q => by
  cases q
  obtain ⟨o, h1, h2, _⟩ := h
  exact ⟨o, h1, h2.2.1⟩
theorem raw_push {h : Heap} {d : Addr} {es : Array DictEntry} {ep : Nat} (x : h.DictRaw d es ep) (o : Obj) : (h.push o).DictRaw d es ep := x.at fun ob q => Heap.get?_push_of_some _ q
theorem pi_valuesX (he : PE X e td) (hbase : attributeBase e "values" X.env (eval e X.env) = eval e X.env) (hline : (apos.endLine == cpos.line) = true) : PI X tg (.Call (.Attribute e "values" apos) [] [] cpos) (iValsX td) := by
  refine ⟨fun pins s σ H R I h => ?_⟩
  refine wpAny_Call_method (T := "dict") (id := "dict.values") hbase rfl hline F.plainAttrs_dict F.slot_dict_values F.type_dict_values (thn (he.run pins s σ H _ I h) fun u s1 ⟨x, H1, I1, rx, d, o, es, ep, ex, ⟨hl, ok, hs⟩, q⟩ => ?_)
  subst ex
  obtain rfl : u = Value.ref d := rx
  have raw := lock_raw I1 hl ok
  refine ⟨raw.typeIs, raw_noDict raw, ?_⟩
  have I2 : Inv X pins σ H1 { s1 with heap := s1.heap.push { cls := .type "dict_values", data := .fields #[.ref d] } } := I1.kept (t' := s1.toks) fun b ob z => Heap.get?_push_of_some _ z
  have fin : wpAny (model X.prog X.w) X.A (pyIter (.ref s1.heap.objs.size)) (PIE X pins σ tg R) X.xe { s1 with heap := s1.heap.push { cls := .type "dict_values", data := .fields #[.ref d] } } :=
    wpAny_pyIter_values_raw (d := d) ⟨_, Heap.get?_push_size _ rfl, rfl, rfl⟩ (raw_push raw _) (pi_one (tk := s1.toks) I2 _ (turn_valsX _ (raw_old (raw_push raw _)) ok) ⟨Nat.zero_le _, _, Heap.get?_push_size _ rfl, rfl, rfl⟩ q)
  show wpAny _ _ (callWith cpos (.builtin "dict.values") [.ref d] [] []) _ X.xe s1
  exact method_meetsIn F.slot_dict_values F.entry_dict_values rfl (PySem.evalArgs_none ⟨rfl, raw.typeIs, F.args_dict_values_1 _, _, meets_dict_values_raw d hs, ⟨es, ep, raw⟩, fin⟩)
theorem pi_itemsX {elts : List Expr} {kk : Nat} {tpos : Pos} (he : PE X e td) (hbase : attributeBase e "items" X.env (eval e X.env) = eval e X.env) (hline : (apos.endLine == cpos.line) = true) : PI X (.Tuple elts kk tpos) (.Call (.Attribute e "items" apos) [] [] cpos) (iItemsX td) := by
  refine ⟨fun pins s σ H R I h => ?_⟩
  refine wpAny_Call_method (T := "dict") (id := "dict.items") hbase rfl hline F.plainAttrs_dict F.slot_dict_items F.type_dict_items (thn (he.run pins s σ H _ I h) fun u s1 ⟨x, H1, I1, rx, d, o, es, ep, ex, ⟨hl, ok, hs⟩, q⟩ => ?_)
  subst ex
  obtain rfl : u = Value.ref d := rx
  have raw := lock_raw I1 hl ok
  refine ⟨raw.typeIs, raw_noDict raw, ?_⟩
  have I2 : Inv X pins σ H1 { s1 with heap := s1.heap.push { cls := .type "dict_items", data := .fields #[.ref d] } } := I1.kept (t' := s1.toks) fun b ob z => Heap.get?_push_of_some _ z
  have fin : wpAny (model X.prog X.w) X.A (pyIter (.ref s1.heap.objs.size)) (PIE X pins σ (.Tuple elts kk tpos) R) X.xe { s1 with heap := s1.heap.push { cls := .type "dict_items", data := .fields #[.ref d] } } :=
    wpAny_pyIter_items_raw (d := d) ⟨_, Heap.get?_push_size _ rfl, rfl, rfl⟩ (raw_push raw _) (pi_one (tk := s1.toks) I2 _ (turn_itemsX _ (raw_old (raw_push raw _)) ok) ⟨Nat.zero_le _, .none, .none, Heap.get?_push_size _ rfl⟩ q)
  show wpAny _ _ (callWith cpos (.builtin "dict.items") [.ref d] [] []) _ X.xe s1
  exact method_meetsIn F.slot_dict_items F.entry_dict_items rfl (PySem.evalArgs_none ⟨rfl, raw.typeIs, F.args_dict_items_1 _, _, meets_dict_items_raw d hs, ⟨es, ep, raw⟩, fin⟩)
end
end Mp

set_option Elab.async false
set_option linter.all false
set_option maxRecDepth 100000
set_option maxHeartbeats 2000000
/-! Mp, part K: readings of what is walked; comprehensions. -/
namespace Mp
open PySem PySem.Spec PyProof.Rows L2 RZ
/-- the walk J gives what the source gives -/
def RJ (K : Kw) (m : List Addr) (H : Hp) (src : Src) (J : It) : Prop := ∀ m2 H2 S2 i, (∃ t, m2 = m ++ t) → Keeps H H2 → Lk H H2 → RS K m2 H2 S2 → match nextAt S2 i src with
  | none => True
  | some none => J.stop i H2
  | some (some v) => J.go i H2 ∧ ∀ x H3, J.yld i H2 x H3 → Ext m2 m2 H2 H3 ∧ RS K m2 H3 S2 ∧ RV K m2 H3 v x
def rdI (K : Kw) (cf : CF) (s : MI) : TI := fun σ H R => ∃ env S m src S', RS K m H S ∧ RE K m H env σ ∧ evI cf s env S = .ok src S' ∧ nextAt S' 0 src ≠ none ∧ Aft K m H S' fun m2 H2 => ∀ J, RJ K m2 H2 src J → R J H2
section
variable {K : Kw} {m : List Addr} {H : Hp}
theorem pre_at {m2 : List Addr} (e : ∃ t, m2 = m ++ t) {r : Nat} {a : Addr} (h : m[r]? = some a) : m2[r]? = some a := by
  obtain ⟨t, rfl⟩ := e
  obtain ⟨h2, _⟩ := List.getElem?_eq_some_iff.mp h
  rw [List.getElem?_append_left h2]; exact h
theorem rj_tup {xs : List Val} {vs : List V} {a : Addr} (h : SqT K H a vs) (r : RVs K m H xs vs) : RJ K m H (.val (.tup xs)) (Itt K a) := fun m2 H2 S2 i pe kk lk rs => by
  have h2 := kk.sqT h
  have r2 := RVs.monoK pe kk xs vs r
  simp only [nextAt]
  cases e : xs[i]? with
  | none => exact ⟨vs, h2, by rw [← r2.length]; exact List.getElem?_eq_none_iff.mp e⟩
  | some v =>
    obtain ⟨x, x1, x2⟩ := r2.get e
    refine ⟨⟨vs, x, h2, x1⟩, fun y H3 hy => ?_⟩
    obtain ⟨rfl, hy⟩ := hy
    have := hy vs h2
    rw [x1] at this; cases this
    exact ⟨Ext.refl _ _, rs, x2⟩
theorem rj_fl {xs : List Val} {vs : List V} {a : Addr} (h : SqF K H a vs) (r : RVs K m H xs vs) : RJ K m H (.val (.fl xs)) (Itl K a) := fun m2 H2 S2 i pe kk lk rs => by
  have h2 := (kk.sqF h).sq
  have r2 := RVs.monoK pe kk xs vs r
  simp only [nextAt]
  cases e : xs[i]? with
  | none => exact ⟨vs, h2, by rw [← r2.length]; exact List.getElem?_eq_none_iff.mp e⟩
  | some v =>
    obtain ⟨x, x1, x2⟩ := r2.get e
    refine ⟨⟨vs, x, h2, x1⟩, fun y H3 hy => ?_⟩
    obtain ⟨rfl, hy⟩ := hy
    have := hy vs h2
    rw [x1] at this; cases this
    exact ⟨Ext.refl _ _, rs, x2⟩
theorem rj_ref {r : Nat} {a : Addr} (h : m[r]? = some a) : RJ K m H (.val (.ref r)) (Itl K a) := fun m2 H2 S2 i pe kk lk rs => by
  simp only [nextAt]
  cases el : S2.lst r with
  | none => trivial
  | some xs =>
    obtain ⟨vs, h3, r2⟩ := rs.list el (pre_at pe h)
    dsimp only
    cases e : xs[i]? with
    | none => exact ⟨vs, SqL.of h3, by rw [← r2.length]; exact List.getElem?_eq_none_iff.mp e⟩
    | some v =>
      obtain ⟨x, x1, x2⟩ := r2.get e
      refine ⟨⟨vs, x, SqL.of h3, x1⟩, fun y H3 hy => ?_⟩
      obtain ⟨rfl, hy⟩ := hy
      have := hy vs (SqL.of h3)
      rw [x1] at this; cases this
      exact ⟨Ext.refl _ _, rs, x2⟩
theorem rj_rng {lo hi : Int} : RJ K m H (.val (.rng lo hi)) (Itr lo (hi - lo).toNat) := fun m2 H2 S2 i pe kk lk rs => by
  simp only [nextAt]
  by_cases hg : rgOk lo hi = true
  · rw [if_pos hg]
    by_cases hi2 : i < (hi - lo).toNat
    · rw [if_pos hi2]
      refine ⟨hi2, fun y H3 hy => ?_⟩
      obtain ⟨rfl, rfl⟩ := hy
      exact ⟨Ext.refl _ _, rs, mk_int⟩
    · rw [if_neg hi2]
      exact Nat.le_of_not_lt hi2
  · rw [if_neg hg]
    trivial
theorem pair_new {m2 : List Addr} {H2 : Hp} {S2 : Sto} {T : Addr} {x y : V} {v w : Val} (rs : RS K m2 H2 S2) (n : H2 T = none) (hx : RV K m2 H2 v x) (hy : RV K m2 H2 w y) :
    Ext m2 m2 H2 (upd H2 T (.tup [x, y])) ∧ RS K m2 (upd H2 T (.tup [x, y])) S2 ∧ RV K m2 (upd H2 T (.tup [x, y])) (.tup [v, w]) (.ref T) := by
  have e := rs.ext (o := .tup [x, y]) n
  refine ⟨e, rs.tup n, ?_⟩
  simp only [RV]
  exact ⟨T, [x, y], rfl, SqT.of upd_same, RVs.cons (RV.mono e rs.muts v x hx) (RVs.one (RV.mono e rs.muts w y hy))⟩
theorem rj_zipT {xs ys : List Val} {vs ws : List V} {a b : Addr} (h : SqT K H a vs) (r : RVs K m H xs vs) (h' : SqT K H b ws) (r' : RVs K m H ys ws) : RJ K m H (.zip (.tup xs) (.tup ys)) (ItzT K a b) := fun m2 H2 S2 i pe kk lk rs => by
  have h2 := kk.sqT h
  have r2 := RVs.monoK pe kk xs vs r
  have h3 := kk.sqT h'
  have r3 := RVs.monoK pe kk ys ws r'
  simp only [nextAt]
  cases e : xs[i]? with
  | none => exact ⟨vs, ws, h2, h3, .inl (by rw [← r2.length]; exact List.getElem?_eq_none_iff.mp e)⟩
  | some v =>
    cases e' : ys[i]? with
    | none => exact ⟨vs, ws, h2, h3, .inr (by rw [← r3.length]; exact List.getElem?_eq_none_iff.mp e')⟩
    | some w =>
      obtain ⟨x, x1, x2⟩ := r2.get e
      obtain ⟨y, y1, y2⟩ := r3.get e'
      refine ⟨⟨vs, ws, x, y, h2, h3, x1, y1⟩, fun z H3 hz => ?_⟩
      obtain ⟨T, x', y', rfl, nT, rfl, q1, q2⟩ := hz
      have z1 := q1 vs h2
      have z2 := q2 ws h3
      rw [x1] at z1; cases z1
      rw [y1] at z2; cases z2
      exact pair_new rs nT x2 y2
theorem rj_zipL {r q : Nat} {a b : Addr} (h : m[r]? = some a) (h' : m[q]? = some b) : RJ K m H (.zip (.ref r) (.ref q)) (Itz K a b) := fun m2 H2 S2 i pe kk lk rs => by
  simp only [nextAt]
  cases el : S2.lst r with
  | none => trivial
  | some xs =>
    cases el' : S2.lst q with
    | none => trivial
    | some ys =>
      obtain ⟨vs, g3, r2⟩ := rs.list el (pre_at pe h)
      obtain ⟨ws, g4, r3⟩ := rs.list el' (pre_at pe h')
      have h2 : SqL K H2 a vs := SqL.of g3
      have h3 : SqL K H2 b ws := SqL.of g4
      dsimp only
      cases e : xs[i]? with
      | none => exact ⟨vs, ws, h2, h3, .inl (by rw [← r2.length]; exact List.getElem?_eq_none_iff.mp e)⟩
      | some v =>
        cases e' : ys[i]? with
        | none => exact ⟨vs, ws, h2, h3, .inr (by rw [← r3.length]; exact List.getElem?_eq_none_iff.mp e')⟩
        | some w =>
          obtain ⟨x, x1, x2⟩ := r2.get e
          obtain ⟨y, y1, y2⟩ := r3.get e'
          refine ⟨⟨vs, ws, x, y, h2, h3, x1, y1⟩, fun z H3 hz => ?_⟩
          obtain ⟨T, x', y', rfl, nT, rfl, q1, q2⟩ := hz
          have z1 := q1 vs h2
          have z2 := q2 ws h3
          rw [x1] at z1; cases z1
          rw [y1] at z2; cases z2
          exact pair_new rs nT x2 y2
theorem rj_enumT {xs : List Val} {vs : List V} {a : Addr} (h : SqT K H a vs) (r : RVs K m H xs vs) : RJ K m H (.enum (.tup xs)) (IteT K a vs.length) := fun m2 H2 S2 i pe kk lk rs => by
  have h2 := kk.sqT h
  have r2 := RVs.monoK pe kk xs vs r
  simp only [nextAt]
  cases e : xs[i]? with
  | none => exact ⟨vs, h2, rfl, by rw [← r2.length]; exact List.getElem?_eq_none_iff.mp e⟩
  | some v =>
    obtain ⟨x, x1, x2⟩ := r2.get e
    refine ⟨⟨vs, x, h2, rfl, x1⟩, fun z H3 hz => ?_⟩
    obtain ⟨T, x', rfl, nT, rfl, q1⟩ := hz
    have z1 := q1 vs h2
    rw [x1] at z1; cases z1
    exact pair_new rs nT mk_int x2
theorem rj_enumL {r : Nat} {a : Addr} (h : m[r]? = some a) : RJ K m H (.enum (.ref r)) (Ite K a) := fun m2 H2 S2 i pe kk lk rs => by
  simp only [nextAt]
  cases el : S2.lst r with
  | none => trivial
  | some xs =>
    obtain ⟨vs, g3, r2⟩ := rs.list el (pre_at pe h)
    have h2 : SqL K H2 a vs := SqL.of g3
    dsimp only
    cases e : xs[i]? with
    | none => exact ⟨vs, h2, by rw [← r2.length]; exact List.getElem?_eq_none_iff.mp e⟩
    | some v =>
      obtain ⟨x, x1, x2⟩ := r2.get e
      refine ⟨⟨vs, x, h2, x1⟩, fun z H3 hz => ?_⟩
      obtain ⟨T, x', rfl, nT, rfl, q1⟩ := hz
      have z1 := q1 vs h2
      rw [x1] at z1; cases z1
      exact pair_new rs nT mk_int x2
theorem relV_one {v v2 : V} {u : Value} (h : L2.RelV v u) (h2 : L2.RelV v2 u) : v = v2 := L2.RelV.inj h h2
theorem RD.at : ∀ {kvs : List (Val × Val)} {xs : List (NestedKey × Addr × Value)} {i : Nat} {q : Val × Val}, RD K m H kvs xs → kvs[i]? = some q → ∃ ka u vv, xs[i]? = some (keyN q.1, ka, u) ∧ RV K m H q.1 (.ref ka) ∧ RV K m H q.2 vv ∧ RelV vv u
  | [], xs, i, q, h, e => by simp at e
  | p :: r, xs, i, q, h, e => by
    obtain ⟨ka, u, vv, ys, rfl, h1, h2, h3, h4, h5⟩ := h
    cases i with
    | zero =>
      simp only [List.getElem?_cons_zero, Option.some.injEq] at e
      subst e
      exact ⟨ka, u, vv, rfl, h2, h3, h4⟩
    | succ i =>
      simp only [List.getElem?_cons_succ] at e ⊢
      exact RD.at h5 e
theorem es_at {w : World} {xs : List (NestedKey × Addr × Value)} {es : Array DictEntry} {i : Nat} {x : NestedKey × Addr × Value} (he : es.toList = xs.map (entN w)) (hx : xs[i]? = some x) : ∃ hi : i < es.size, es[i].key = .ref x.2.1 ∧ es[i].val = x.2.2 := by
  have e2 : es.toList[i]? = (xs.map (entN w))[i]? := by rw [he]
  rw [Array.getElem?_toList, List.getElem?_map, hx] at e2
  have hi : i < es.size := by
    rcases Nat.lt_or_ge i es.size with z | z
    · exact z
    · rw [Array.getElem?_eq_none z] at e2; cases e2
  rw [Array.getElem?_eq_getElem hi] at e2
  have e3 := Option.some.inj e2
  exact ⟨hi, by rw [e3]; rfl, by rw [e3]; rfl⟩
theorem es_len {w : World} {xs : List (NestedKey × Addr × Value)} {es : Array DictEntry} (he : es.toList = xs.map (entN w)) : es.size = xs.length := by
  have := congrArg List.length he
  simpa using this
/-- what a locked dict of either kind tells of the entries of its object: for each place the key and the value as they lie -/
def Tells (K : Kw) (m : List Addr) (H : Hp) (es : Array DictEntry) (kvs : List (Val × Val)) : Prop := es.size = kvs.length ∧ ∀ (i : Nat) (q : Val × Val), kvs[i]? = some q → ∃ (hi : i < es.size) (x y : V), RelV x es[i].key ∧ RelV y es[i].val ∧ RV K m H q.1 x ∧ RV K m H q.2 y
theorem RD.tells {xs : List (NestedKey × Addr × Value)} {kvs : List (Val × Val)} {es : Array DictEntry} (he : es.toList = xs.map (entN K.w)) (rd : RD K m H kvs xs) : Tells K m H es kvs := ⟨by rw [es_len he, rd.length], fun i q hq => by
  obtain ⟨ka, u, vv, x1, x2, x3, x4⟩ := rd.at hq
  obtain ⟨hi, y1, y2⟩ := es_at he x1
  exact ⟨hi, .ref ka, vv, by rw [y1]; rfl, by rw [y2]; exact x4, x2, x3⟩⟩
theorem RI.tells {P : Program} {w : World} : ∀ {kvs : List (Int × Val)} {xs : List (Int × Value)} {es : List DictEntry}, RI K m H kvs xs → Pairs (intKind P w) es xs → es.length = kvs.length ∧
    ∀ (i : Nat) (q : Int × Val), kvs[i]? = some q → ∃ (d : DictEntry) (y : V), es[i]? = some d ∧ RelV (.int q.1) d.key ∧ RelV y d.val ∧ RV K m H q.2 y
  | [], _, _, h, p => by
    simp only [RI] at h; subst h; cases p
    exact ⟨rfl, fun i q e => by simp at e⟩
  | a :: r, _, _, h, p => by
    obtain ⟨u, vv, ys, rfl, h3, h4, h5⟩ := h
    cases p with
    | cons p1 p2 p3 =>
      obtain ⟨l, at_⟩ := RI.tells h5 p3
      obtain ⟨t, et⟩ := Value.isInt_shape p1
      refine ⟨by simp [l], fun i q e => ?_⟩
      cases i with
      | zero =>
        simp only [List.getElem?_cons_zero, Option.some.injEq] at e
        subst e
        exact ⟨_, vv, rfl, ⟨t, et⟩, by rw [p2]; exact h4, h3⟩
      | succ i => simpa using at_ i q (by simpa using e)
def pairI (q : Int × Val) : Val × Val := (.int q.1, q.2)
theorem tells_int {P : Program} {w : World} {kvs : List (Int × Val)} {xs : List (Int × Value)} {es : Array DictEntry} (ri : RI K m H kvs xs) (p : Pairs (intKind P w) es.toList xs) : Tells K m H es (kvs.map pairI) := by
  obtain ⟨l, at_⟩ := ri.tells p
  refine ⟨by simpa using l, fun i q e => ?_⟩
  rw [List.getElem?_map] at e
  obtain ⟨q0, e0, rfl⟩ := Option.map_eq_some_iff.mp e
  obtain ⟨d, y, e1, r1, r2, r3⟩ := at_ i q0 e0
  rw [Array.getElem?_toList] at e1
  obtain ⟨hi, rfl⟩ := Array.getElem?_eq_some_iff.mp e1
  exact ⟨hi, .int q0.1, y, r1, r2, mk_int, r3⟩
/-- the locked dict at r, as pairs -/
def lockd (S : Sto) (r : Nat) : Option (List (Val × Val)) := match S.get r with
  | some (.ldc kvs) => some kvs
  | some (.ldi kvs) => some (kvs.map pairI)
  | _ => none
theorem at_lock {r : Nat} {a : Addr} {S : Sto} {kvs : List (Val × Val)} (rs : RS K m H S) (ha : m[r]? = some a) (h : lockd S r = some kvs) : ∃ o es ep φ, H a = some (.frz o (.ext φ)) ∧ o.ExactDict ∧ o.data = .dict es ep ∧ (a == sysModules) = false ∧ Tells K m H es kvs := by
  unfold lockd at h
  split at h
  · rename_i l hg
    cases h
    obtain ⟨b, hb, xs, o, es, ep, q1, q2, q3, q4, q5, q6⟩ := rs.at hg
    rw [ha] at hb; cases hb
    exact ⟨o, es, ep, _, q1, q2, q3, q5, q6.tells q4⟩
  · rename_i l hg
    cases h
    obtain ⟨b, hb, xs, o, es, ep, q1, q2, q3, q4, q5, q6⟩ := rs.at hg
    rw [ha] at hb; cases hb
    exact ⟨o, es, ep, _, q1, q2, q3, q5, tells_int q6 q4⟩
  · cases h
/-- the i-th of a locked dict, by what is asked of it -/
theorem next_lock {S : Sto} {r i : Nat} {src : Src} {g : Val × Val → Val} (hs : (src = .items r ∧ g = fun q => .tup [q.1, q.2]) ∨ (src = .values r ∧ g = fun q => q.2) ∨ (src = .keys r ∧ g = fun q => q.1)) : nextAt S i src = (lockd S r).map fun kvs => kvs[i]?.map g := by
  rcases hs with ⟨rfl, rfl⟩ | ⟨rfl, rfl⟩ | ⟨rfl, rfl⟩ <;> (simp only [nextAt, lockd]; cases S.get r with
    | none => rfl
    | some o => cases o <;> simp [List.getElem?_map, Function.comp_def, pairI])
theorem rj_lock {r : Nat} {a : Addr} {o : Obj} {φ : Heap → Prop} {es : Array DictEntry} {ep : Nat} {src : Src} {g : Val × Val → Val} {J : It} (ha : m[r]? = some a) (hH : H a = some (.frz o (.ext φ))) (hd : o.data = .dict es ep) (hs : ∀ S i, nextAt S i src = (lockd S r).map fun kvs => kvs[i]?.map g)
    (go : ∀ i H2, LockedAt H2 a o → i < es.size → J.go i H2) (stop : ∀ i H2, LockedAt H2 a o → es.size ≤ i → J.stop i H2)
    (yl : ∀ m2 H2 S2 i q x y z H3 (hi : i < es.size), RS K m2 H2 S2 → RelV x es[i].key → RelV y es[i].val → RV K m2 H2 q.1 x → RV K m2 H2 q.2 y → J.yld i H2 z H3 → Ext m2 m2 H2 H3 ∧ RS K m2 H3 S2 ∧ RV K m2 H3 (g q) z) : RJ K m H src J := fun m2 H2 S2 i pe kk lk rs => by
  rw [hs]
  cases hl : lockd S2 r with
  | none => trivial
  | some kvs =>
    have hL := lk a o φ hH
    obtain ⟨o2, es2, ep2, φ2, q1, _, q3, _, len, at_⟩ := at_lock rs (pre_at pe ha) hl
    rw [hL] at q1
    cases q1
    rw [hd] at q3
    cases q3
    dsimp only [Option.map_some]
    cases e : kvs[i]? with
    | none => exact stop i H2 ⟨_, hL⟩ (by rw [len]; exact List.getElem?_eq_none_iff.mp e)
    | some q =>
      obtain ⟨hi, x, y, r1, r2, r3, r4⟩ := at_ i q e
      exact ⟨go i H2 ⟨_, hL⟩ hi, fun z H3 hz => yl m2 H2 S2 i q x y z H3 hi rs r1 r2 r3 r4 hz⟩
theorem rj_items {r : Nat} {a : Addr} {o : Obj} {φ : Heap → Prop} {es : Array DictEntry} {ep : Nat} (ha : m[r]? = some a) (hH : H a = some (.frz o (.ext φ))) (hd : o.data = .dict es ep) : RJ K m H (.items r) (ItxI a o es) :=
  rj_lock ha hH hd (fun S i => next_lock (.inl ⟨rfl, rfl⟩)) (fun i H2 l h => ⟨l, h⟩) (fun i H2 l h => ⟨l, h⟩) fun m2 H2 S2 i q x y z H3 hi rs r1 r2 r3 r4 hz => by
    obtain ⟨T, k, w, rfl, nT, rfl, _, k1, k2⟩ := hz
    rw [relV_one k1 r1, relV_one k2 r2]
    exact pair_new rs nT r3 r4
theorem rj_values {r : Nat} {a : Addr} {o : Obj} {φ : Heap → Prop} {es : Array DictEntry} {ep : Nat} (ha : m[r]? = some a) (hH : H a = some (.frz o (.ext φ))) (hd : o.data = .dict es ep) : RJ K m H (.values r) (ItxV a o es) :=
  rj_lock ha hH hd (fun S i => next_lock (.inr (.inl ⟨rfl, rfl⟩))) (fun i H2 l h => ⟨l, h⟩) (fun i H2 l h => ⟨l, h⟩) fun m2 H2 S2 i q x y z H3 hi rs r1 r2 r3 r4 hz => by
    obtain ⟨rfl, _, k2⟩ := hz
    rw [relV_one k2 r2]
    exact ⟨Ext.refl _ _, rs, r4⟩
theorem rj_keys {r : Nat} {a : Addr} {o : Obj} {φ : Heap → Prop} {es : Array DictEntry} {ep : Nat} (ha : m[r]? = some a) (hH : H a = some (.frz o (.ext φ))) (hd : o.data = .dict es ep) : RJ K m H (.keys r) (ItxK a o es) :=
  rj_lock ha hH hd (fun S i => next_lock (.inr (.inr ⟨rfl, rfl⟩))) (fun i H2 l h => ⟨l, h⟩) (fun i H2 l h => ⟨l, h⟩) fun m2 H2 S2 i q x y z H3 hi rs r1 r2 r3 r4 hz => by
    obtain ⟨rfl, _, k1⟩ := hz
    rw [relV_one k1 r1]
    exact ⟨Ext.refl _ _, rs, r3⟩
end

section
variable {X : Cx} {cf : CF} {e e2 tg : Expr} {me mb : ME} {p pos : Pos}
/-- the iterator of range(lo, hi), new, is a walk of the layer -/
theorem range_walked {pins : List (Addr × Obj)} {σ : L2.St} {H : Hp} {s : Shared} {R : It → Hp → Prop} {lo hi : Int} {o : Obj} (I : Inv X pins σ H s) (q : R (Itr lo (hi - lo).toNat) H)
    (ho : o = { cls := .type "range_iterator", data := .fields #[rawInt lo, rawInt (Builtin.Range.rangeSize lo hi 1), rawInt 1] } := by rfl) : PIE X pins σ tg R (.ref s.heap.objs.size) { s with heap := s.heap.push o } := by
  have size : Builtin.Range.rangeSize lo hi 1 = (((hi - lo).toNat : Nat) : Int) := by
    rw [rangeSize_one]
    split <;> omega
  refine pi_one (tk := s.toks) I o (turn_range _ lo (hi - lo).toNat) ?_ q
  subst ho
  rw [size]
  have zero : lo + ((0 : Nat) : Int) * 1 = lo ∧ (((hi - lo).toNat : Nat) : Int) - ((0 : Nat) : Int) = ((hi - lo).toNat : Nat) := by omega
  unfold IsRangeIter
  rw [zero.1, zero.2]
  exact Heap.get?_push_size _ rfl
theorem si_val (he : PE X e (rdE (Cxkw X) cf me)) : PI X tg e (rdI (Cxkw X) cf (.val me)) := by
  refine ⟨fun pins s σ H R I h => ?_⟩
  obtain ⟨env, S, m, src, S', rs, re, ev, nn, f⟩ := h
  simp only [evI] at ev
  obtain ⟨v, S1, e1, e3⟩ := bind_ok ev
  cases e3
  cases v with
  | tup xs =>
    refine (pi_tup he).run pins s σ H R I ⟨env, S, m, _, _, rs, re, e1, fun m1 H1 ex1 rs1 xv hx => ?_⟩
    obtain ⟨a, vs, rfl, h1, h2⟩ := rv_tup hx
    exact ⟨a, rfl, ⟨vs, h1⟩, f m1 H1 ex1 rs1 _ (rj_tup h1 h2)⟩
  | fl xs =>
    refine (pi_list he).run pins s σ H R I ⟨env, S, m, _, _, rs, re, e1, fun m1 H1 ex1 rs1 xv hx => ?_⟩
    simp only [RV] at hx
    obtain ⟨a, vs, rfl, h1, h2⟩ := hx
    exact ⟨a, rfl, ⟨vs, h1.sq⟩, f m1 H1 ex1 rs1 _ (rj_fl h1 h2)⟩
  | ref r =>
    have hl : ∃ xs, S'.lst r = some xs := by
      cases el : S'.lst r with
      | none => exact absurd (by simp only [nextAt]; rw [el]) nn
      | some xs => exact ⟨xs, rfl⟩
    obtain ⟨xs, el⟩ := hl
    refine (pi_list he).run pins s σ H R I ⟨env, S, m, _, _, rs, re, e1, fun m1 H1 ex1 rs1 xv hx => ?_⟩
    obtain ⟨a, rfl, h1⟩ := rv_ref hx
    obtain ⟨vs, h3, _⟩ := rs1.list el h1
    exact ⟨a, rfl, ⟨vs, SqL.of h3⟩, f m1 H1 ex1 rs1 _ (rj_ref h1)⟩
  | rng lo hi =>
    refine thn (he.run pins s σ H (fun xv H1 => ∃ m1 a, Ext m m1 H H1 ∧ RS (Cxkw X) m1 H1 S' ∧ xv = .ref a ∧ H1 a = some (.rng lo hi)) I ⟨env, S, m, _, _, rs, re, e1, fun m1 H1 ex1 rs1 xv hx => ?_⟩) fun u s1 hq => ?_
    · obtain ⟨a, rfl, h1⟩ := rv_rng hx
      exact ⟨m1, a, ex1, rs1, rfl, h1⟩
    · obtain ⟨xv, H1, I1, r1, m1, a, ex1, rs1, rfl, h1⟩ := hq
      cases r1
      obtain ⟨t1, t2, t3, ho⟩ := I1.hok a _ h1
      have hg : rgOk lo hi = true := by
        cases z : rgOk lo hi with
        | true => rfl
        | false => exact absurd (by simp only [nextAt, z]; rfl) nn
      obtain ⟨b1, b2, b3, b4, b5⟩ := rg_of hg
      exact wpAny_pyIter_range ho (small_one b1 b2 b3 b4) (range_walked I1 (f m1 H1 ex1 rs1 _ rj_rng))
  | _ => exact absurd rfl nn
variable {elts : List Expr} {kk : Nat} {tpos : Pos}
theorem si_zip (hg : Gl X "zip") (hm : X.mg "zip" = none) (ha : PE X e (rdE (Cxkw X) cf me)) (hb : PE X e2 (rdE (Cxkw X) cf mb)) (hs : starEach [e, e2] X.env = (false, eval e X.env) :: starEach [e2] X.env) (hs2 : starEach [e2] X.env = (false, eval e2 X.env) :: starEach [] X.env) :
    PI X (.Tuple elts kk tpos) (.Call (.Name "zip" p) [e, e2] [] pos) (rdI (Cxkw X) cf (.zip me mb)) := by
  have hpl : (backTo pos (starEach [e2] X.env)).any (·.1) = false := by rw [hs2]; rfl
  have hA : PA X [e, e2] (tCons (rdE (Cxkw X) cf me) (tCons (rdE (Cxkw X) cf mb) tNil)) := pa_cons ha (pa_cons hb pa_nil hs2) hs
  refine ⟨fun pins s σ H R I h => (pi_zipA hg hm hA hs hpl).run pins s σ H R I ?_⟩
  obtain ⟨env, S, m, src, S', rs, re, ev, nn, f⟩ := h
  simp only [evI] at ev
  obtain ⟨v, S1, e1, ev⟩ := bind_ok ev
  obtain ⟨w, S2, e3, ev⟩ := bind_ok ev
  cases ev
  refine ⟨env, S, m, v, S1, rs, re, e1, fun m1 H1 ex1 rs1 xv hx => ⟨env, S1, m1, w, _, rs1, re.mono ex1 rs.muts, e3, fun m2 H2 ex2 rs2 yv hy => ?_⟩⟩
  have hx2 := RV.mono ex2 rs1.muts v xv hx
  cases v with
  | tup xs =>
    cases w with
    | tup ys =>
      obtain ⟨a, vs, rfl, h1, h2⟩ := rv_tup hx2
      obtain ⟨b, ws, rfl, h3, h4⟩ := rv_tup hy
      exact ⟨a, b, vs, ws, rfl, .inr ⟨h1, h3, f m2 H2 (ex1.trans ex2) rs2 _ (rj_zipT h1 h2 h3 h4)⟩⟩
    | _ => exact absurd rfl nn
  | ref r =>
    cases w with
    | ref q =>
      obtain ⟨a, rfl, h1⟩ := rv_ref hx2
      obtain ⟨b, rfl, h3⟩ := rv_ref hy
      cases el : Sto.lst S' r with
      | none => exact absurd (by simp only [nextAt]; rw [el]) nn
      | some xs =>
        cases el2 : Sto.lst S' q with
        | none => exact absurd (by simp only [nextAt]; rw [el, el2]) nn
        | some ys =>
          obtain ⟨vs, h5, _⟩ := rs2.list el h1
          obtain ⟨ws, h6, _⟩ := rs2.list el2 h3
          exact ⟨a, b, vs, ws, rfl, .inl ⟨SqL.of h5, SqL.of h6, f m2 H2 (ex1.trans ex2) rs2 _ (rj_zipL h1 h3)⟩⟩
    | _ => exact absurd rfl nn
  | _ => exact absurd rfl nn
theorem si_enum (hg : Gl X "enumerate") (hm : X.mg "enumerate" = none) (ha : PE X e (rdE (Cxkw X) cf me)) (hs : starEach [e] X.env = [(false, eval e X.env)]) :
    PI X (.Tuple elts kk tpos) (.Call (.Name "enumerate" p) [e] [] pos) (rdI (Cxkw X) cf (.enum me)) := by
  have hA : PA X [e] (tCons (rdE (Cxkw X) cf me) tNil) := pa_cons ha pa_nil hs
  refine ⟨fun pins s σ H R I h => ?_⟩
  obtain ⟨env, S, m, src, S', rs, re, ev, nn, f⟩ := h
  simp only [evI] at ev
  obtain ⟨v, S1, e1, ev⟩ := bind_ok ev
  cases ev
  cases v with
  | ref r =>
    refine (pi_enum hg hm hA hs).run pins s σ H R I ⟨env, S, m, _, _, rs, re, e1, fun m1 H1 ex1 rs1 xv hx => ?_⟩
    obtain ⟨a, rfl, h1⟩ := rv_ref hx
    cases el : Sto.lst S' r with
    | none => exact absurd (by simp only [nextAt]; rw [el]) nn
    | some xs =>
      obtain ⟨vs, h3, _⟩ := rs1.list el h1
      exact ⟨a, vs, rfl, SqL.of h3, f m1 H1 ex1 rs1 _ (rj_enumL h1)⟩
  | tup xs =>
    refine Call_ (ld_blt I hg hm boot_enumerate (PyProof.Rows.callWith_type1 (thn (hA.run pos pins s σ H (fun vs H1 => ∃ m1 a ws, Ext m m1 H H1 ∧ RS (Cxkw X) m1 H1 S' ∧ vs = [.ref a] ∧ SqT X.K H1 a ws ∧ RVs (Cxkw X) m1 H1 xs ws) I
      ⟨env, S, m, _, _, rs, re, e1, fun m1 H1 ex1 rs1 xv hx => ?_⟩) fun us s1 hq => ?_) hs rfl))
    · obtain ⟨a, ws, rfl, h1, h2⟩ := rv_tup hx
      exact ⟨m1, a, ws, ex1, rs1, rfl, h1, h2⟩
    · obtain ⟨vs, H1, I1, r1, m1, a, ws, ex1, rs1, rfl, h1, h2⟩ := hq
      obtain ⟨u, rfl, ru⟩ := vals1 r1
      cases ru
      obtain ⟨its, rv, pt, _⟩ := I1.tuple h1
      have old : a < s1.heap.objs.size := by
        obtain ⟨o, e, _⟩ := pt
        exact Heap.lt_size e
      have ra := Nat.ne_of_lt old
      have rb : s1.heap.objs.size + 1 ≠ a := Nat.ne_of_gt (Nat.lt_succ_of_lt old)
      refine enum_call (begins_tuple a its.toArray) pt fun h2' he hit hk => wpAny_pyIter_enum he ⟨_, [s1.heap.objs.size + 1, s1.heap.objs.size], _, IteT X.K a ws.length, H1, rfl, I1.kept (t' := s1.toks) hk, turn_enumT (Nat.succ_ne_self _) ra rb, ?_, fun b hb => ?_, f m1 H1 ex1 rs1 _ (rj_enumT h1 h2)⟩
      · exact ⟨Nat.zero_le _, ⟨.none, by simpa using he⟩, _, hit, rfl, rfl⟩
      · have hle : s1.heap.objs.size ≤ b := by
          rcases List.mem_cons.mp hb with z | z
          · rw [z]; exact Nat.le_succ _
          · rw [List.mem_singleton.mp z]; exact Nat.le_refl _
        exact I1.fpOk hle (I1.hok.fresh hle)
  | _ => exact absurd rfl nn
theorem lk_here {K : Kw} {m : List Addr} {H : Hp} {S : Sto} {r : Nat} {xv : V} {kvs : List (Val × Val)} (rs : RS K m H S) (hx : RV K m H (.ref r) xv) (hg : lockd S r = some kvs) : ∃ a o es ep φ, xv = .ref a ∧ m[r]? = some a ∧ H a = some (.frz o (.ext φ)) ∧ o.data = .dict es ep ∧ lkd o es ep H a := by
  obtain ⟨a, rfl, h1⟩ := rv_ref hx
  obtain ⟨o, es, ep, φ, q1, q2, q3, q5, len, at_⟩ := at_lock rs h1 hg
  have each : ∀ i (hi : i < es.size), ∃ x y, RelV x es[i].key ∧ RelV y es[i].val := fun i hi => by
    obtain ⟨_, x, y, r1, r2, _⟩ := at_ i _ (List.getElem?_eq_getElem (by rw [← len]; exact hi))
    exact ⟨x, y, r1, r2⟩
  exact ⟨a, o, es, ep, φ, rfl, h1, q1, q3, ⟨_, q1⟩, ⟨q2, q3, fun i hi => let ⟨x, _, r, _⟩ := each i hi; ⟨x, r⟩, fun i hi => let ⟨_, y, _, r⟩ := each i hi; ⟨y, r⟩⟩, q5⟩
theorem some_lock {S : Sto} {r : Nat} {src : Src} {g : Val × Val → Val} (hs : ∀ S i, nextAt S i src = (lockd S r).map fun kvs => kvs[i]?.map g) (nn : nextAt S 0 src ≠ none) : ∃ kvs, lockd S r = some kvs := by
  rw [hs] at nn
  cases h : lockd S r with
  | none => rw [h] at nn; exact absurd rfl nn
  | some kvs => exact ⟨kvs, rfl⟩
theorem si_items {ap cp : Pos} (he : PE X e (rdE (Cxkw X) cf me)) (hbase : attributeBase e "items" X.env (eval e X.env) = eval e X.env) (hline : (ap.endLine == cp.line) = true) : PI X (.Tuple elts kk tpos) (.Call (.Attribute e "items" ap) [] [] cp) (rdI (Cxkw X) cf (.items me)) := ⟨fun pins s σ H R I h => by
  obtain ⟨env, S, m, src, S', rs, re, ev, nn, f⟩ := h
  simp only [evI] at ev
  obtain ⟨v, S1, e1, ev⟩ := bind_ok ev
  split at ev
  · cases ev
    obtain ⟨kvs, hg⟩ := some_lock (fun S i => next_lock (.inl ⟨rfl, rfl⟩)) nn
    refine (pi_itemsX he hbase hline).run pins s σ H R I ⟨env, S, m, _, _, rs, re, e1, fun m1 H1 ex1 rs1 xv hx => ?_⟩
    obtain ⟨a, o, es, ep, φ, rfl, q1, q2, q3, q4⟩ := lk_here rs1 hx hg
    exact ⟨a, o, es, ep, rfl, q4, f m1 H1 ex1 rs1 _ (rj_items q1 q2 q3)⟩
  · cases ev⟩
theorem si_values {ap cp : Pos} (he : PE X e (rdE (Cxkw X) cf me)) (hbase : attributeBase e "values" X.env (eval e X.env) = eval e X.env) (hline : (ap.endLine == cp.line) = true) : PI X tg (.Call (.Attribute e "values" ap) [] [] cp) (rdI (Cxkw X) cf (.values me)) := ⟨fun pins s σ H R I h => by
  obtain ⟨env, S, m, src, S', rs, re, ev, nn, f⟩ := h
  simp only [evI] at ev
  obtain ⟨v, S1, e1, ev⟩ := bind_ok ev
  split at ev
  · cases ev
    obtain ⟨kvs, hg⟩ := some_lock (fun S i => next_lock (.inr (.inl ⟨rfl, rfl⟩))) nn
    refine (pi_valuesX he hbase hline).run pins s σ H R I ⟨env, S, m, _, _, rs, re, e1, fun m1 H1 ex1 rs1 xv hx => ?_⟩
    obtain ⟨a, o, es, ep, φ, rfl, q1, q2, q3, q4⟩ := lk_here rs1 hx hg
    exact ⟨a, o, es, ep, rfl, q4, f m1 H1 ex1 rs1 _ (rj_values q1 q2 q3)⟩
  · cases ev⟩
theorem si_keys (he : PE X e (rdE (Cxkw X) cf me)) : PI X tg e (rdI (Cxkw X) cf (.keys me)) := ⟨fun pins s σ H R I h => by
  obtain ⟨env, S, m, src, S', rs, re, ev, nn, f⟩ := h
  simp only [evI] at ev
  obtain ⟨v, S1, e1, ev⟩ := bind_ok ev
  split at ev
  · cases ev
    obtain ⟨kvs, hg⟩ := some_lock (fun S i => next_lock (.inr (.inr ⟨rfl, rfl⟩))) nn
    refine (pi_keysX he).run pins s σ H R I ⟨env, S, m, _, _, rs, re, e1, fun m1 H1 ex1 rs1 xv hx => ?_⟩
    obtain ⟨a, o, es, ep, φ, rfl, q1, q2, q3, q4⟩ := lk_here rs1 hx hg
    exact ⟨a, o, es, ep, rfl, q4, f m1 H1 ex1 rs1 _ (rj_keys q1 q2 q3)⟩
  · cases ev⟩

end
end Mp

set_option Elab.async false
set_option linter.all false
set_option maxRecDepth 100000
set_option maxHeartbeats 2000000
/-! Mp, part L: targets; comprehensions. -/
namespace Mp
open PySem PySem.Spec PyProof.Rows L2
/-! ### targets -/
theorem wipe_at : ∀ (σ : L2.St) (i : Nat) (x : Option V) (vs : List Nat), (L2.wipe (σ.set i x) vs).set i none = (L2.wipe σ vs).set i none
  | σ, i, x, [] => by simp only [L2.wipe]; rw [List.set_set]
  | σ, i, x, v :: vs => by
    simp only [L2.wipe]
    by_cases h : v = i
    · subst h; rw [wipe_at σ v x vs]
    · rw [List.set_comm _ _ h, List.set_comm _ _ h, wipe_at σ i x vs]
theorem wipe_set {i : Nat} {x : Option V} : ∀ {σ : L2.St} {vs : List Nat}, i ∈ vs → L2.wipe (σ.set i x) vs = L2.wipe σ vs
  | σ, [], h => by cases h
  | σ, v :: vs, h => by
    simp only [L2.wipe]
    by_cases hv : v = i
    · subst hv; rw [wipe_at]
    · have h2 : i ∈ vs := by
        rcases List.mem_cons.mp h with z | z
        · exact absurd z.symm hv
        · exact z
      rw [wipe_set h2]
theorem wipe_sub {σ : L2.St} {vs : List Nat} : ∀ {us : List Nat}, (∀ u ∈ us, u ∈ vs) → L2.wipe (L2.wipe σ us) vs = L2.wipe σ vs
  | [], _ => rfl
  | u :: us, h => by
    simp only [L2.wipe]
    rw [wipe_set (h u (List.mem_cons_self ..)), wipe_sub fun z hz => h z (List.mem_cons_of_mem _ hz)]
theorem wipe_twice (σ : L2.St) (vs : List Nat) : L2.wipe (L2.wipe σ vs) vs = L2.wipe σ vs := wipe_sub fun _ h => h
mutual
/-- names alone, of these slots -/
def namesIn (vs : List Nat) : MG → Bool
  | .nm i => decide (i ∈ vs)
  | .tup gs => namesIns vs gs
  | .sub _ _ => false
def namesIns (vs : List Nat) : MGs → Bool
  | .nil => true
  | .cons g r => namesIn vs g && namesIns vs r
end
/-- a comprehension's target -/
def rdN (K : Kw) (cf : CF) (g : MG) (vs : List Nat) : TG := fun x σ H Q => ∃ env S m v env2 S', RS K m H S ∧ RE K m H env σ ∧ RV K m H v x ∧ asG cf g v env S = .ok env2 S' ∧ ∀ σ2, RE K m H env2 σ2 → L2.wipe σ2 vs = L2.wipe σ vs → S' = S → Q σ2 H
def rdNs (K : Kw) (cf : CF) (g : MGs) (vs : List Nat) : TGs := fun xs σ H Q => ∃ env S m ws env2 S', RS K m H S ∧ RE K m H env σ ∧ RVs K m H ws xs ∧ asGs cf g ws env S = .ok env2 S' ∧ ∀ σ2, RE K m H env2 σ2 → L2.wipe σ2 vs = L2.wipe σ vs → S' = S → Q σ2 H
section
variable {X : Cx} {cf : CF} {pos : Pos}
theorem sN_nm {i : Nat} {x : Str} {vs : List Nat} (hN : X.N.Nodup) (hi : X.N[i]? = some x) (hx : Loc X.env.scope x) (hf : X.fn x = true ∨ X.env.scope.names.lookup x = some .local) (hv : i ∈ vs) : PG X (.Name x pos) (rdN (Cxkw X) cf (.nm i) vs) :=
  PG_imp (pg_name hN hi hx hf) fun x σ H Q ⟨env, S, m, v, env2, S', rs, re, rv, e, f⟩ => by
    simp only [asG] at e; cases e
    exact f _ (re.set i rv) (wipe_set hv) rfl
theorem asG_len {g : MG} : True := trivial
theorem asGs_cons {g : MG} {r : MGs} {ws : List Val} {env env2 : Env} {S S' : Sto} (h : asGs cf (.cons g r) ws env S = .ok env2 S') : ∃ v vs env1 S1, ws = v :: vs ∧ asG cf g v env S = .ok env1 S1 ∧ asGs cf r vs env1 S1 = .ok env2 S' := by
  cases ws with
  | nil => simp only [asGs] at h; cases h
  | cons v vs =>
    simp only [asGs] at h
    obtain ⟨env1, S1, e1, e2⟩ := bind_ok h
    exact ⟨v, vs, env1, S1, rfl, e1, e2⟩
def glen : MGs → Nat
  | .nil => 0
  | .cons _ r => glen r + 1
theorem asGs_len {ws : List Val} : ∀ {g : MGs} {ws : List Val} {env env2 : Env} {S S' : Sto}, asGs cf g ws env S = .ok env2 S' → ws.length = glen g
  | .nil, ws, env, env2, S, S', h => by
    cases ws with
    | nil => rfl
    | cons v vs => simp only [asGs] at h; cases h
  | .cons g r, ws, env, env2, S, S', h => by
    obtain ⟨v, vs, env1, S1, rfl, e1, e2⟩ := asGs_cons h
    have := asGs_len (ws := vs) e2
    simp [glen, this]
theorem sNs_nil {vs : List Nat} : PGs X [] (rdNs (Cxkw X) cf .nil vs) := PGs_imp pgs_nil fun xs σ H Q ⟨env, S, m, ws, env2, S', rs, re, rv, e, f⟩ => by
  cases ws with
  | nil =>
    simp only [asGs] at e; cases e
    exact ⟨rv.nil_of, f σ re rfl rfl⟩
  | cons v vs => simp only [asGs] at e; cases e
mutual
theorem asG_names {vs : List Nat} : ∀ {g : MG} {v : Val} {env env2 : Env} {S S' : Sto}, namesIn vs g = true → asG cf g v env S = .ok env2 S' → S' = S
  | .nm i, v, env, env2, S, S', _, h => by simp only [asG] at h; cases h; rfl
  | .tup gs, v, env, env2, S, S', hn, h => by
    simp only [namesIn] at hn
    cases v with
    | tup xs => simp only [asG] at h; exact asGs_names hn h
    | _ => simp only [asG] at h; cases h
  | .sub o i, v, env, env2, S, S', hn, h => by simp only [namesIn] at hn; cases hn
theorem asGs_names {vs : List Nat} : ∀ {g : MGs} {ws : List Val} {env env2 : Env} {S S' : Sto}, namesIns vs g = true → asGs cf g ws env S = .ok env2 S' → S' = S
  | .nil, ws, env, env2, S, S', _, h => by
    cases ws with
    | nil => simp only [asGs] at h; cases h; rfl
    | cons v vs => simp only [asGs] at h; cases h
  | .cons g r, ws, env, env2, S, S', hn, h => by
    simp only [namesIns, Bool.and_eq_true] at hn
    obtain ⟨v, us, env1, S1, rfl, e1, e2⟩ := asGs_cons h
    rw [asGs_names hn.2 e2, asG_names hn.1 e1]
end
theorem sNs_cons {vs : List Nat} {t : Expr} {ts : List Expr} {g : MG} {gs : MGs} (hn : namesIn vs g = true) (h1 : PG X t (rdN (Cxkw X) cf g vs)) (h2 : PGs X ts (rdNs (Cxkw X) cf gs vs))
    (hs : (assignEach (t :: ts) X.env).map (·.2) = assign t X.env :: (assignEach ts X.env).map (·.2)) : PGs X (t :: ts) (rdNs (Cxkw X) cf (.cons g gs) vs) :=
  PGs_imp (pgs_cons h1 h2 hs) fun xs σ H Q ⟨env, S, m, ws, env2, S', rs, re, rv, e, f⟩ => by
    obtain ⟨v, us, env1, S1, rfl, e1, e2⟩ := asGs_cons e
    simp only [RVs] at rv
    obtain ⟨y, ys, rfl, q1, q2⟩ := rv
    refine ⟨y, ys, rfl, env, S, m, v, env1, S1, rs, re, q1, e1, fun σ2 re2 hw hS => ?_⟩
    subst hS
    exact ⟨env1, S1, m, us, env2, S', rs, re2, q2, e2, fun σ3 re3 hw3 hS3 => f σ3 re3 (hw3.trans hw) hS3⟩
theorem sN_tup {vs : List Nat} {ts : List Expr} {k : Nat} {gs : MGs} (hc : X.calm = true) (h : PGs X ts (rdNs (Cxkw X) cf gs vs)) (hl : (assignEach ts X.env).length = glen gs) (hst : (assignEach ts X.env).findIdx? (·.1) = none) : PG X (.Tuple ts k pos) (rdN (Cxkw X) cf (.tup gs) vs) :=
  PG_imp (pg_tup hc h hl hst) fun x σ H Q ⟨env, S, m, v, env2, S', rs, re, rv, e, f⟩ => by
    cases v with
    | tup xs =>
      simp only [asG] at e
      obtain ⟨a, ws, rfl, q1, q2⟩ := rv_tup rv
      exact ⟨a, ws, rfl, q1, by rw [← q2.length]; exact asGs_len (ws := xs) e, env, S, m, xs, env2, S', rs, re, q2, e, f⟩
    | _ => simp only [asG] at e; cases e

/-! ### targets of assignments and loops -/
theorem sg_nm {i : Nat} {x : Str} (hN : X.N.Nodup) (hi : X.N[i]? = some x) (hx : Loc X.env.scope x) (hf : X.fn x = true ∨ X.env.scope.names.lookup x = some .local) : PG X (.Name x pos) (rdG (Cxkw X) cf (.nm i)) :=
  PG_imp (pg_name hN hi hx hf) fun x σ H Q ⟨env, S, m, v, env2, S', rs, re, rv, e, f⟩ => by
    simp only [asG] at e; cases e
    exact f.self rs _ (re.set i rv)
theorem sgs_nil : PGs X [] (rdGs (Cxkw X) cf .nil) := PGs_imp pgs_nil fun xs σ H Q ⟨env, S, m, ws, env2, S', rs, re, rv, e, f⟩ => by
  cases ws with
  | nil =>
    simp only [asGs] at e; cases e
    exact ⟨rv.nil_of, f.self rs σ re⟩
  | cons v vs => simp only [asGs] at e; cases e
theorem sgs_cons {t : Expr} {ts : List Expr} {g : MG} {gs : MGs} (h1 : PG X t (rdG (Cxkw X) cf g)) (h2 : PGs X ts (rdGs (Cxkw X) cf gs))
    (hs : (assignEach (t :: ts) X.env).map (·.2) = assign t X.env :: (assignEach ts X.env).map (·.2)) : PGs X (t :: ts) (rdGs (Cxkw X) cf (.cons g gs)) :=
  PGs_imp (pgs_cons h1 h2 hs) fun xs σ H Q ⟨env, S, m, ws, env2, S', rs, re, rv, e, f⟩ => by
    obtain ⟨v, us, env1, S1, rfl, e1, e2⟩ := asGs_cons e
    simp only [RVs] at rv
    obtain ⟨y, ys, rfl, q1, q2⟩ := rv
    exact ⟨y, ys, rfl, env, S, m, v, env1, S1, rs, re, q1, e1, fun m1 H1 ex1 rs1 σ2 re2 =>
      ⟨env1, S1, m1, us, env2, S', rs1, re2, RVs.mono ex1 rs.muts us ys q2, e2, f.on ex1⟩⟩
theorem sg_tup {ts : List Expr} {k : Nat} {gs : MGs} (hc : X.calm = true) (h : PGs X ts (rdGs (Cxkw X) cf gs)) (hl : (assignEach ts X.env).length = glen gs) (hst : (assignEach ts X.env).findIdx? (·.1) = none) : PG X (.Tuple ts k pos) (rdG (Cxkw X) cf (.tup gs)) :=
  PG_imp (pg_tup hc h hl hst) fun x σ H Q ⟨env, S, m, v, env2, S', rs, re, rv, e, f⟩ => by
    cases v with
    | tup xs =>
      simp only [asG] at e
      obtain ⟨a, ws, rfl, q1, q2⟩ := rv_tup rv
      exact ⟨a, ws, rfl, q1, by rw [← q2.length]; exact asGs_len (ws := xs) e, env, S, m, xs, env2, S', rs, re, q2, e, f⟩
    | _ => simp only [asG] at e; cases e
theorem sg_sub {k : Nat} {o i : Expr} {mo mi : ME} (hr : Room k X.A) (ho : PE X o (rdE (Cxkw X) cf mo)) (hi : PE X i (rdE (Cxkw X) cf mi)) (ha : ∀ v, assign (.Subscript o i pos) X.env v = (do
      let ov ← holding [v] (eval o X.env)
      let iv ← holding [v, ov] (eval i X.env)
      standAt pos
      holding [v, ov, iv] (setItem ov iv v)
      release [v, ov, iv] [])) : PG X (.Subscript o i pos) (rdG (Cxkw X) cf (.sub mo mi)) :=
  PG_imp (pg_sub ho hi (setM hr) ha) fun x σ H Q ⟨env, S, m, v, env2, S', rs, re, rv, e, f⟩ => by
    simp only [asG] at e
    obtain ⟨ov, S1, e1, e⟩ := bind_ok e
    obtain ⟨iv, S2, e2, e⟩ := bind_ok e
    obtain ⟨u, S3, e3, e⟩ := bind_ok e
    cases e
    exact ⟨env, S, m, ov, S1, rs, re, e1, fun m1 H1 ex1 rs1 xo ho => ⟨env, S1, m1, iv, S2, rs1, re.mono ex1 rs.muts, e2, fun m2 H2 ex2 rs2 xi hi =>
      ⟨m2, S2, ov, iv, v, _, rs2, RV.mono ex2 rs1.muts ov xo ho, hi, RV.mono (ex1.trans ex2) rs.muts v x rv, e3, fun m3 H3 ex3 rs3 =>
        f m3 H3 ((ex1.trans ex2).trans ex3) rs3 σ (re.mono ((ex1.trans ex2).trans ex3) rs.muts)⟩⟩⟩

/-! ### comprehensions of one clause -/
theorem sts_nil : PTs X [] (rdT (Cxkw X) cf (.bl true)) := ⟨fun pins s σ H Q I h => pts_nil.run pins s σ H Q I (by
  obtain ⟨env, S, m, v, S', w, rs, re, e, ew, f⟩ := h
  simp only [evE] at e; cases e
  simp only [tru] at ew; cases ew
  exact f.self rs)⟩
/-- the list that a comprehension makes, at D beside the store -/
theorem lc_imp {own : List Nat} {ms : MI} {mg : MG} {mc me : ME} {σ : L2.St} {H : Hp} {Q : VK} (hn : namesIn own mg = true) (h : rdE (Cxkw X) cf (.lc own ms mg mc me) σ H Q) :
    tLc (rdI (Cxkw X) cf ms) (rdN (Cxkw X) cf mg own) (rdT (Cxkw X) cf mc) (rdE (Cxkw X) cf me) own σ H Q := by
  obtain ⟨env, S, m, v, S', rs, re, e, f⟩ := h
  simp only [evE] at e
  obtain ⟨src, S1, e1, e⟩ := bind_ok e
  obtain ⟨acc, S7, e2, e⟩ := bind_ok e
  cases e
  generalize ht : (fun (v : Val) (S2 : Sto) => (asG cf mg v (wipe env own) S2).bind fun env2 S3 => (evE cf mc env2 S3).bind fun x S4 => (truR x S4).bind fun t S5 => match t with
        | true => (evE cf me env2 S5).bind fun y S6 => R.ok (some y) S6
        | false => R.ok none S5) = turn at e2
  have hlim : lim = 99999 + 1 := rfl
  have nn : nextAt S1 0 src ≠ none := by
    intro z
    rw [hlim] at e2
    simp only [lcLoop, z] at e2
    cases e2
  refine ⟨env, S, m, src, S1, rs, re, e1, nn, fun m1 H1 ex1 rs1 J hJ D nD => ?_⟩
  have nDm : D ∉ m1 := rs1.fresh nD
  refine ⟨fun i k H2 => ∃ mm Sc ac av, Ext m1 mm H1 H2 ∧ RS (Cxkw X) mm H2 Sc ∧ D ∉ mm ∧ H2 D = some (.lst av) ∧ RVs (Cxkw X) mm H2 ac av ∧ ac.length ≤ i ∧ i + k = lim ∧ lcLoop turn src k i ac Sc = .ok acc S7,
    ⟨lim, m1, S1, [], [], rs1.ext nD, rs1.tup nD, nDm, upd_same, RVs.nil, Nat.le_refl _, by omega, e2⟩, fun i k H2 hW => ?_⟩
  obtain ⟨mm, Sc, ac, av, ex2, rs2, nD2, hD, rav, hle, hik, el⟩ := hW
  cases k with
  | zero => simp only [lcLoop] at el; cases el
  | succ k =>
    simp only [lcLoop] at el
    have hj := hJ mm H2 Sc i ex2.pre (ex2.keeps rs1.muts) ex2.lk rs2
    cases hx : nextAt Sc i src with
    | none => rw [hx] at el; cases el
    | some o =>
      cases o with
      | none =>
        rw [hx] at el hj
        dsimp only at el hj
        cases el
        refine .inl ⟨hj, ?_⟩
        obtain ⟨q1, q2⟩ := rs2.adopt nD2 hD rav
        refine f (mm ++ [D]) H2 ?_ q1 _ q2
        have e3 := ex1.trans ex2
        obtain ⟨t, rfl⟩ := e3.pre
        refine ⟨⟨t ++ [D], by simp⟩, e3.kp, fun a ha n => ?_, e3.lk⟩
        rcases List.mem_append.mp ha with z | z
        · exact e3.nw a z n
        · rw [List.mem_singleton.mp z]
          cases q : H D with
          | none => rfl
          | some ob =>
            have := ex1.kp D ob q (by rw [← List.mem_singleton.mp z]; exact n)
            rw [nD] at this; cases this
      | some w =>
        rw [hx] at el hj
        dsimp only at el hj
        refine .inr ⟨hj.1, fun H9 => ∃ mm Sc ac av, Ext m1 mm H1 H9 ∧ RS (Cxkw X) mm H9 Sc ∧ D ∉ mm ∧ H9 D = some (.lst av) ∧ RVs (Cxkw X) mm H9 ac av ∧ ac.length ≤ i + 1 ∧ (i + 1) + k = lim ∧ lcLoop turn src k (i + 1) ac Sc = .ok acc S7,
          fun H9 h9 => ⟨k, Nat.lt_succ_self k, h9⟩, fun x H3 hy => ?_⟩
        obtain ⟨ex3, rs3, rx⟩ := hj.2 x H3 hy
        have hD3 : H3 D = some (.lst av) := ex3.kp D _ hD nD2
        have re3 := (re.mono ((ex1.trans ex2).trans ex3) rs.muts).wipe own
        obtain ⟨o, S6, et, el⟩ := bind_ok el
        rw [← ht] at et
        obtain ⟨env2, Sa, ea, et1⟩ := bind_ok et
        obtain ⟨xc, S4, ec, et2⟩ := bind_ok et1
        obtain ⟨t, S5, er, et3⟩ := bind_ok et2
        obtain ⟨er2, hS5⟩ := tru_ok2 er
        subst hS5
        refine ⟨wipe env own, Sc, mm, w, env2, Sa, rs3, re3, rx, ea, fun σ2 re2 hw hS => ⟨hw.trans (wipe_twice σ own), ?_⟩⟩
        subst hS
        refine ⟨env2, Sa, mm, xc, S5, t, rs3, re2, ec, er2, fun m4 H4 ex4 rs4 => ?_⟩
        have hD4 : H4 D = some (.lst av) := ex4.kp D _ hD3 nD2
        have nD4 : D ∉ m4 := ex4.out hD3 nD2
        have ex24 : Ext m1 m4 H1 H4 := (ex2.trans ex3).trans ex4
        cases t with
        | false =>
          dsimp only at et3
          cases et3
          dsimp only at el
          exact ⟨m4, _, ac, av, ex24, rs4, nD4, hD4, RVs.mono (ex3.trans ex4) rs2.muts ac av rav, by omega, by omega, el⟩
        | true =>
          dsimp only at et3
          obtain ⟨y, Sy, ey, et4⟩ := bind_ok et3
          cases et4
          dsimp only at el
          refine ⟨env2, S5, m4, y, _, rs4, re2.mono ex4 rs3.muts, ey, fun m5 H5 ex5 rs5 yv hyv => ?_⟩
          have hD5 : H5 D = some (.lst av) := ex5.kp D _ hD4 nD4
          have nD5 : D ∉ m5 := ex5.out hD4 nD4
          have rav5 := RVs.mono ((ex3.trans ex4).trans ex5) rs2.muts ac av rav
          refine ⟨av, hD5, ?_, ?_⟩
          · have := rav.length
            have : i < lim := by omega
            have : lim = 100000 := rfl
            rw [sizeLine_eq]
            omega
          · have kk : Keeps H5 (upd H5 D (.lst (av ++ [yv]))) := fun a o ha n => by
              rw [upd_ne]
              · exact ha
              · rintro rfl
                rw [hD5] at ha; cases ha
                exact n trivial
            have ex15 := ex24.trans ex5
            refine ⟨m5, _, ac ++ [y], av ++ [yv], ⟨ex15.pre, fun a o ha n => ?_, ex15.nw, fun a ob φ z => by rw [upd_ne (ne_of_none z nD)]; exact ex15.lk a ob φ z⟩, rs5.stayK kk fun a ha => ?_, nD5, upd_same, ?_, by simp; omega, by omega, el⟩
            · rw [upd_ne (ne_of_none ha nD)]
              exact ex15.kp a o ha n
            · rw [upd_ne]
              rintro rfl
              exact nD5 ha
            · exact RVs.monoK ⟨[], by simp⟩ kk _ _ (rav5.append (RVs.one hyv))
/-! ### comprehensions of two clauses -/
theorem lc2_imp {own own2 : List Nat} {ms ms2 : MI} {mg mg2 : MG} {mc mc2 me : ME} {σ : L2.St} {H : Hp} {Q : VK} (h : rdE (Cxkw X) cf (.lc2 own own2 ms mg mc ms2 mg2 mc2 me) σ H Q) :
    tLc2 (rdI (Cxkw X) cf ms) (rdN (Cxkw X) cf mg own) (rdT (Cxkw X) cf mc) (rdI (Cxkw X) cf ms2) (rdN (Cxkw X) cf mg2 own2) (rdT (Cxkw X) cf mc2) (rdE (Cxkw X) cf me) own own2 σ H Q := by
  obtain ⟨env, S, m, v, S', rs, re, e, f⟩ := h
  simp only [evE] at e
  obtain ⟨src, S1, e1, e⟩ := bind_ok e
  obtain ⟨acc, S7, e2, e⟩ := bind_ok e
  cases e
  generalize ht : (fun (v : Val) (acc : List Val) (S2 : Sto) => (asG cf mg v (wipe env own) S2).bind fun env2 S3 => (evE cf mc env2 S3).bind fun x S4 => (truR x S4).bind fun t S5 => match t with
        | false => R.ok acc S5
        | true => (evI cf ms2 env2 S5).bind fun src2 S6 =>
          lcLoop2 (fun v2 acc2 S7 => (asG cf mg2 v2 (wipe env2 own2) S7).bind fun env3 S8 => (evE cf mc2 env3 S8).bind fun x2 S9 => (truR x2 S9).bind fun t2 S10 => match t2 with
            | true => (evE cf me env3 S10).bind fun y S11 => if acc2.length < cap then R.ok (acc2 ++ [y]) S11 else R.err
            | false => R.ok acc2 S10) src2 lim 0 acc S6) = turn at e2
  have hlim : lim = 99999 + 1 := rfl
  have nn : nextAt S1 0 src ≠ none := by
    intro z
    rw [hlim] at e2
    simp only [lcLoop2, z] at e2
    cases e2
  refine ⟨env, S, m, src, S1, rs, re, e1, nn, fun m1 H1 ex1 rs1 J hJ D nD => ?_⟩
  have nDm : D ∉ m1 := rs1.fresh nD
  refine ⟨fun i k H2 => ∃ mm Sc ac av, Ext m1 mm H1 H2 ∧ RS (Cxkw X) mm H2 Sc ∧ D ∉ mm ∧ H2 D = some (.lst av) ∧ RVs (Cxkw X) mm H2 ac av ∧ lcLoop2 turn src k i ac Sc = .ok acc S7,
    ⟨lim, m1, S1, [], [], rs1.ext nD, rs1.tup nD, nDm, upd_same, RVs.nil, e2⟩, fun i k H2 hW => ?_⟩
  obtain ⟨mm, Sc, ac, av, ex2, rs2, nD2, hD, rav, el⟩ := hW
  cases k with
  | zero => simp only [lcLoop2] at el; cases el
  | succ k =>
    simp only [lcLoop2] at el
    have hj := hJ mm H2 Sc i ex2.pre (ex2.keeps rs1.muts) ex2.lk rs2
    cases hx : nextAt Sc i src with
    | none => rw [hx] at el; cases el
    | some o =>
      cases o with
      | none =>
        rw [hx] at el hj
        dsimp only at el hj
        cases el
        refine .inl ⟨hj, ?_⟩
        obtain ⟨q1, q2⟩ := rs2.adopt nD2 hD rav
        refine f (mm ++ [D]) H2 ?_ q1 _ q2
        have e3 := ex1.trans ex2
        obtain ⟨t, rfl⟩ := e3.pre
        refine ⟨⟨t ++ [D], by simp⟩, e3.kp, fun a ha n => ?_, e3.lk⟩
        rcases List.mem_append.mp ha with z | z
        · exact e3.nw a z n
        · rw [List.mem_singleton.mp z]
          cases q : H D with
          | none => rfl
          | some ob =>
            have := ex1.kp D ob q (by rw [← List.mem_singleton.mp z]; exact n)
            rw [nD] at this; cases this
      | some w =>
        rw [hx] at el hj
        dsimp only at el hj
        refine .inr ⟨hj.1, fun H9 => ∃ mm Sc ac av, Ext m1 mm H1 H9 ∧ RS (Cxkw X) mm H9 Sc ∧ D ∉ mm ∧ H9 D = some (.lst av) ∧ RVs (Cxkw X) mm H9 ac av ∧ lcLoop2 turn src k (i + 1) ac Sc = .ok acc S7,
          fun H9 h9 => ⟨k, Nat.lt_succ_self k, h9⟩, fun x H3 hy => ?_⟩
        obtain ⟨ex3, rs3, rx⟩ := hj.2 x H3 hy
        have hD3 : H3 D = some (.lst av) := ex3.kp D _ hD nD2
        have re3 := (re.mono ((ex1.trans ex2).trans ex3) rs.muts).wipe own
        obtain ⟨ac6, S6, et, el0⟩ := bind_ok el
        rw [← ht] at et
        obtain ⟨env2, Sa, ea, et1⟩ := bind_ok et
        obtain ⟨xc, S4, ec, et2⟩ := bind_ok et1
        obtain ⟨t, S5, er, et3⟩ := bind_ok et2
        obtain ⟨er2, hS5⟩ := tru_ok2 er
        subst hS5
        refine ⟨wipe env own, Sc, mm, w, env2, Sa, rs3, re3, rx, ea, fun σ2 re2 hw hS => ⟨hw.trans (wipe_twice σ own), ?_⟩⟩
        subst hS
        refine ⟨env2, Sa, mm, xc, S5, t, rs3, re2, ec, er2, fun m4 H4 ex4 rs4 => ?_⟩
        have hD4 : H4 D = some (.lst av) := ex4.kp D _ hD3 nD2
        have nD4 : D ∉ m4 := ex4.out hD3 nD2
        have ex24 : Ext m1 m4 H1 H4 := (ex2.trans ex3).trans ex4
        cases t with
        | false =>
          dsimp only at et3
          cases et3
          exact ⟨m4, _, ac, av, ex24, rs4, nD4, hD4, RVs.mono (ex3.trans ex4) rs2.muts ac av rav, el0⟩
        | true =>
          dsimp only at et3
          obtain ⟨src2, Sb, eb, et4⟩ := bind_ok et3
          generalize ht2 : (fun (v2 : Val) (acc2 : List Val) (S7 : Sto) => (asG cf mg2 v2 (wipe env2 own2) S7).bind fun env3 S8 => (evE cf mc2 env3 S8).bind fun x2 S9 => (truR x2 S9).bind fun t2 S10 => match t2 with
            | true => (evE cf me env3 S10).bind fun y S11 => if acc2.length < cap then R.ok (acc2 ++ [y]) S11 else R.err
            | false => R.ok acc2 S10) = turn2 at et4
          have nn2 : nextAt Sb 0 src2 ≠ none := by
            intro z
            rw [hlim] at et4
            simp only [lcLoop2, z] at et4
            cases et4
          refine ⟨env2, S5, m4, src2, Sb, rs4, re2.mono ex4 rs3.muts, eb, nn2, fun m5 H5 ex5 rs5 J1 hJ1 => ?_⟩
          have hD5 : H5 D = some (.lst av) := ex5.kp D _ hD4 nD4
          have nD5 : D ∉ m5 := ex5.out hD4 nD4
          have kp5 : Keeps H5 H5 := fun _ _ z _ => z
          refine ⟨fun j k1 H6 => ∃ mm Sc ac av, (∃ t, mm = m5 ++ t) ∧ (Keeps H5 H6 ∧ Lk H5 H6) ∧ Ext m1 mm H1 H6 ∧ RS (Cxkw X) mm H6 Sc ∧ D ∉ mm ∧ H6 D = some (.lst av) ∧ RVs (Cxkw X) mm H6 ac av ∧ lcLoop2 turn2 src2 k1 j ac Sc = .ok ac6 S6,
            ⟨lim, m5, Sb, ac, av, ⟨[], by simp⟩, ⟨kp5, fun _ _ _ z => z⟩, ex24.trans ex5, rs5, nD5, hD5, RVs.mono ((ex3.trans ex4).trans ex5) rs2.muts ac av rav, et4⟩, fun j k1 H6 hW1 => ?_⟩
          obtain ⟨mn, Sn, an, bn, pe6, ⟨ke6, lk6⟩, ex6, rs6, nD6, hD6, ran, el6⟩ := hW1
          cases k1 with
          | zero => simp only [lcLoop2] at el6; cases el6
          | succ k1 =>
            simp only [lcLoop2] at el6
            have hj1 := hJ1 mn H6 Sn j pe6 ke6 lk6 rs6
            cases hx1 : nextAt Sn j src2 with
            | none => rw [hx1] at el6; cases el6
            | some o1 =>
              cases o1 with
              | none =>
                rw [hx1] at el6 hj1
                dsimp only at el6 hj1
                cases el6
                exact .inl ⟨hj1, mn, _, _, bn, ex6, rs6, nD6, hD6, ran, el0⟩
              | some w1 =>
                rw [hx1] at el6 hj1
                dsimp only at el6 hj1
                refine .inr ⟨hj1.1, fun H9 => ∃ mm Sc ac av, (∃ t, mm = m5 ++ t) ∧ (Keeps H5 H9 ∧ Lk H5 H9) ∧ Ext m1 mm H1 H9 ∧ RS (Cxkw X) mm H9 Sc ∧ D ∉ mm ∧ H9 D = some (.lst av) ∧ RVs (Cxkw X) mm H9 ac av ∧ lcLoop2 turn2 src2 k1 (j + 1) ac Sc = .ok ac6 S6,
                  fun H9 h9 => ⟨k1, Nat.lt_succ_self k1, h9⟩, fun x1 H7 hy1 => ?_⟩
                obtain ⟨ex7, rs7, rx1⟩ := hj1.2 x1 H7 hy1
                have hD7 : H7 D = some (.lst bn) := ex7.kp D _ hD6 nD6
                obtain ⟨ac8, S8, eu, el8⟩ := bind_ok el6
                rw [← ht2] at eu
                obtain ⟨env3, Sd, ed, eu1⟩ := bind_ok eu
                obtain ⟨xe, Se, ee, eu2⟩ := bind_ok eu1
                obtain ⟨t2, Sf, ef, eu3⟩ := bind_ok eu2
                obtain ⟨ef2, hSf⟩ := tru_ok2 ef
                subst hSf
                have re7 : RE (Cxkw X) mn H7 env2 σ2 := by
                  refine ⟨re2.len, fun q v hq => ?_⟩
                  obtain ⟨z, z1, z2⟩ := re2.at_ q v hq
                  have c4 := RV.mono (ex4.trans ex5) rs3.muts v z z2
                  exact ⟨z, z1, RV.mono ex7 rs6.muts v z (RV.monoK pe6 ke6 v z c4)⟩
                refine ⟨wipe env2 own2, Sn, mn, w1, env3, Sd, rs7, re7.wipe own2, rx1, ed, fun σ3 re8 hw8 hS8 => ⟨hw8.trans (wipe_twice σ2 own2), ?_⟩⟩
                subst hS8
                refine ⟨env3, Sd, mn, xe, Sf, t2, rs7, re8, ee, ef2, fun m8 H8 ex8 rs8 => ?_⟩
                have hD8 : H8 D = some (.lst bn) := ex8.kp D _ hD7 nD6
                have nD8 : D ∉ m8 := ex8.out hD7 nD6
                have ex18 : Ext m1 m8 H1 H8 := (ex6.trans ex7).trans ex8
                have pe8 : ∃ t, m8 = m5 ++ t := by
                  obtain ⟨ta, qa⟩ := pe6
                  obtain ⟨tb, qb⟩ := ex8.pre
                  exact ⟨ta ++ tb, by rw [qb, qa]; simp⟩
                have ke8 : Keeps H5 H8 := fun a o ha n => (ex8.keeps rs7.muts) a o ((ex7.keeps rs6.muts) a o (ke6 a o ha n) n) n
                have lk8 : Lk H5 H8 := fun a ob φ z => ex8.lk a ob φ (ex7.lk a ob φ (lk6 a ob φ z))
                cases t2 with
                | false =>
                  dsimp only at eu3
                  cases eu3
                  exact ⟨m8, _, an, bn, pe8, ⟨ke8, lk8⟩, ex18, rs8, nD8, hD8, RVs.mono (ex7.trans ex8) rs6.muts an bn ran, el8⟩
                | true =>
                  dsimp only at eu3
                  obtain ⟨y, Sy, ey, eu4⟩ := bind_ok eu3
                  split at eu4
                  · rename_i hcap
                    cases eu4
                    refine ⟨env3, Sf, m8, y, _, rs8, re8.mono ex8 rs7.muts, ey, fun m9 H9 ex9 rs9 yv hyv => ?_⟩
                    have hD9 : H9 D = some (.lst bn) := ex9.kp D _ hD8 nD8
                    have nD9 : D ∉ m9 := ex9.out hD8 nD8
                    have ran9 := RVs.mono ((ex7.trans ex8).trans ex9) rs6.muts an bn ran
                    refine ⟨bn, hD9, ?_, ?_⟩
                    · rw [← ran.length]
                      exact Nat.lt_of_lt_of_le hcap (by rw [sizeLine_eq]; decide)
                    · have kk : Keeps H9 (upd H9 D (.lst (bn ++ [yv]))) := fun a o ha n => by
                        rw [upd_ne]
                        · exact ha
                        · rintro rfl
                          rw [hD9] at ha; cases ha
                          exact n trivial
                      have ex19 := ex18.trans ex9
                      refine ⟨m9, _, an ++ [y], bn ++ [yv], ?_, ⟨fun a o ha n => kk a o ((ex9.keeps rs8.muts) a o (ke8 a o ha n) n) n, fun a ob φ z => by
                        have z9 := ex9.lk a ob φ (lk8 a ob φ z)
                        rw [upd_ne]
                        · exact z9
                        · rintro rfl
                          rw [hD9] at z9; cases z9⟩, ⟨ex19.pre, fun a o ha n => ?_, ex19.nw, fun a ob φ z => by rw [upd_ne (ne_of_none z nD)]; exact ex19.lk a ob φ z⟩, rs9.stayK kk fun a ha => ?_, nD9, upd_same, ?_, el8⟩
                      · obtain ⟨ta, qa⟩ := pe8
                        obtain ⟨tb, qb⟩ := ex9.pre
                        exact ⟨ta ++ tb, by rw [qb, qa]; simp⟩
                      · rw [upd_ne (ne_of_none ha nD)]
                        exact ex19.kp a o ha n
                      · rw [upd_ne]
                        rintro rfl
                        exact nD9 ha
                      · exact RVs.monoK ⟨[], by simp⟩ kk _ _ (ran9.append (RVs.one hyv))
                  · cases eu4
end
end Mp

set_option Elab.async false
set_option linter.all false
set_option maxRecDepth 100000
set_option maxHeartbeats 2000000
/-! Mp, part M: statements. -/
namespace Mp
open PySem PySem.Spec PyProof.Rows L2
/-- the heap has grown from m, what stands at m0 keeps its number -/
structure Ext3 (m0 m m2 : List Addr) (H H2 : Hp) : Prop where
  pre : ∃ t, m2 = m0 ++ t
  kp : ∀ a o, H a = some o → a ∉ m → H2 a = some o
  nw : ∀ a ∈ m2, a ∉ m → H a = none
  lk : Lk H H2
theorem Ext.to3 {m0 m m2 : List Addr} {H H2 : Hp} (e : Ext m m2 H H2) (h : ∃ t, m = m0 ++ t) : Ext3 m0 m m2 H H2 := by
  obtain ⟨t, rfl⟩ := h
  obtain ⟨u, rfl⟩ := e.pre
  exact ⟨⟨t ++ u, by simp⟩, e.kp, e.nw, e.lk⟩
theorem Ext3.to {m m2 : List Addr} {H H2 : Hp} (e : Ext3 m m m2 H H2) : Ext m m2 H H2 := ⟨e.pre, e.kp, e.nw, e.lk⟩
theorem Ext3.refl {m0 m : List Addr} {H : Hp} (h : ∃ t, m = m0 ++ t) : Ext3 m0 m m H H := (Ext.refl m H).to3 h
theorem Ext3.trans {m0 m m1 m2 : List Addr} {H H1 H2 : Hp} (e : Ext3 m0 m m1 H H1) (f : Ext3 m0 m1 m2 H1 H2) : Ext3 m0 m m2 H H2 := by
  refine ⟨f.pre, fun a o h n => ?_, fun a h n => ?_, fun a o φ h => f.lk a o φ (e.lk a o φ h)⟩
  · refine f.kp a o (e.kp a o h n) fun q => ?_
    have := e.nw a q n
    rw [h] at this; cases this
  · cases q : H a with
    | none => rfl
    | some o =>
      by_cases z : a ∈ m1
      · have := e.nw a z n
        rw [q] at this; cases this
      · have h1 := e.kp a o q n
        have := f.nw a h z
        rw [h1] at this; cases this
theorem Ext3.less {m0 m1 m m2 : List Addr} {H H2 : Hp} (e : Ext3 m1 m m2 H H2) (h : ∃ t, m1 = m0 ++ t) : Ext3 m0 m m2 H H2 := by
  obtain ⟨t, rfl⟩ := h
  obtain ⟨u, rfl⟩ := e.pre
  exact ⟨⟨t ++ u, by simp⟩, e.kp, e.nw, e.lk⟩
theorem Ext3.sub {m0 m1 m m2 : List Addr} {H H2 : Hp} (e : Ext3 m0 m1 m2 H H2) (h : ∀ a ∈ m1, a ∈ m) : Ext3 m0 m m2 H H2 :=
  ⟨e.pre, fun a o z n => e.kp a o z fun q => n (h a q), fun a z n => e.nw a z fun q => n (h a q), e.lk⟩
theorem Ext3.keeps {m0 m m2 : List Addr} {H H2 : Hp} (e : Ext3 m0 m m2 H H2) (u : Muts m H) : Keeps H H2 := fun a o h n => e.kp a o h (not_mut u h n)
def Aft3 (K : Kw) (m0 m : List Addr) (H : Hp) (S : Sto) (Φ : List Addr → Hp → Prop) : Prop := ∀ m2 H2, Ext3 m0 m m2 H H2 → RS K m2 H2 S → Φ m2 H2
def Fin3 (K : Kw) (m0 m : List Addr) (H : Hp) (v : Val) (S : Sto) (Q : VK) : Prop := Aft3 K m0 m H S fun m2 H2 => ∀ z, RV K m2 H2 v z → Q z H2
def EndsAt (K : Kw) (m0 m : List Addr) (H : Hp) (D : Ends) (fl : Fl) (env : Env) (S : Sto) : Prop := match fl with
  | .next => Aft3 K m0 m H S fun m2 H2 => ∀ σ2, RE K m2 H2 env σ2 → D.nx σ2 H2
  | .ret v => Fin3 K m0 m H v S D.rt
theorem EndsAt.on3 {K : Kw} {m0 m m2 : List Addr} {H H2 : Hp} {D : Ends} {fl : Fl} {env : Env} {S : Sto} (h : EndsAt K m0 m H D fl env S) (e : Ext3 m0 m m2 H H2) : EndsAt K m0 m2 H2 D fl env S := by
  cases fl with
  | next => exact fun m3 H3 e3 => h m3 H3 (e.trans e3)
  | ret v => exact fun m3 H3 e3 => h m3 H3 (e.trans e3)
theorem EndsAt.on {K : Kw} {m0 m m2 : List Addr} {H H2 : Hp} {D : Ends} {fl : Fl} {env : Env} {S : Sto} (h : EndsAt K m0 m H D fl env S) (p : ∃ t, m = m0 ++ t) (e : Ext m m2 H H2) : EndsAt K m0 m2 H2 D fl env S := h.on3 (e.to3 p)
theorem Ext.more {m0 m m2 : List Addr} {H H2 : Hp} (e : Ext m m2 H H2) (p : ∃ t, m = m0 ++ t) : ∃ t, m2 = m0 ++ t := (e.to3 p).pre
def rdS (K : Kw) (cf : CF) (s : MS) : TS := fun D σ H => ∃ env S m m0 fl env2 S', RS K m H S ∧ RE K m H env σ ∧ (∃ t, m = m0 ++ t) ∧ evS cf m0.length s env S = .ok (fl, env2) S' ∧ EndsAt K m0 m H D fl env2 S'
def rdB (K : Kw) (cf : CF) (b : MB) : TS := fun D σ H => ∃ env S m m0 fl env2 S', RS K m H S ∧ RE K m H env σ ∧ (∃ t, m = m0 ++ t) ∧ evB cf m0.length b env S = .ok (fl, env2) S' ∧ EndsAt K m0 m H D fl env2 S'
section
variable {X : Cx} {cf : CF} {pos : Pos} {e : Expr} {me : ME}
theorem PS_imp {st : Stmt} {t u : TS} (h : PS X st t) (i : ∀ D σ H, u D σ H → t D σ H) : PS X st u := ⟨fun pins s σ H D I q => h.run pins s σ H D I (i D σ H q)⟩
theorem PSs_imp {st : List Stmt} {t u : TS} (h : PSs X st t) (i : ∀ D σ H, u D σ H → t D σ H) : PSs X st u := ⟨fun pins s σ H D I q => h.run pins s σ H D I (i D σ H q)⟩
theorem sb_nil : PSs X [] (rdB (Cxkw X) cf .nil) := PSs_imp pss_nil fun D σ H ⟨env, S, m, m0, fl, env2, S', rs, re, p0, e, f⟩ => by
  simp only [evB] at e; cases e
  exact f m H (Ext3.refl p0) rs σ re
theorem sb_cons {st : Stmt} {rest : List Stmt} {ms : MS} {mb : MB} (h1 : PS X st (rdS (Cxkw X) cf ms)) (h2 : PSs X rest (rdB (Cxkw X) cf mb)) : PSs X (st :: rest) (rdB (Cxkw X) cf (.cons ms mb)) :=
  PSs_imp (pss_cons h1 h2) fun D σ H ⟨env, S, m, m0, fl, env2, S', rs, re, p0, e, f⟩ => by
    simp only [evB] at e
    obtain ⟨p, S1, e1, e2⟩ := bind_ok e
    obtain ⟨fl1, env1⟩ := p
    refine ⟨env, S, m, m0, fl1, env1, S1, rs, re, p0, e1, ?_⟩
    cases fl1 with
    | next => exact fun m1 H1 ex1 rs1 σ1 re1 => ⟨env1, S1, m1, m0, fl, env2, S', rs1, re1, ex1.pre, e2, f.on3 ex1⟩
    | ret v =>
      dsimp only at e2
      cases e2
      exact f
theorem asg_imp {g : MG} {D : Ends} {σ : L2.St} {H : Hp} (h : rdS (Cxkw X) cf (.asg g me) D σ H) : tAsg (rdE (Cxkw X) cf me) (rdG (Cxkw X) cf g) D σ H := by
  obtain ⟨env, S, m, m0, fl, env2, S', rs, re, p0, e, f⟩ := h
  simp only [evS] at e
  obtain ⟨v, S1, e1, e2⟩ := bind_ok e
  obtain ⟨env1, S2, e3, e4⟩ := bind_ok e2
  cases e4
  exact ⟨env, S, m, v, S1, rs, re, e1, fun m1 H1 ex1 rs1 xv hx => ⟨env, S1, m1, v, _, _, rs1, re.mono ex1 rs.muts, hx, e3, fun m2 H2 ex2 rs2 σ2 re2 => f m2 H2 ((ex1.trans ex2).to3 p0) rs2 σ2 re2⟩⟩
theorem ss_asg {tg : Expr} {g : MG} (he : PE X e (rdE (Cxkw X) cf me)) (hg : PG X tg (rdG (Cxkw X) cf g)) (hs : swapsWithSole [tg] e pos.line X.env = pure false) (hw : swappedStores [tg] e X.env = pure none)
    (h1 : (assignEach [tg] X.env).map (·.2) = [assign tg X.env]) : PS X (.Assign [tg] e pos) (rdS (Cxkw X) cf (.asg g me)) :=
  PS_imp (ps_asg he hg hs hw h1) fun D σ H h => asg_imp h
/-- name = .. by a rule of its own -/
theorem asg_nm {i : Nat} {D : Ends} {σ : L2.St} {H : Hp} (h : rdS (Cxkw X) cf (.asg (.nm i) me) D σ H) : tAsg (rdE (Cxkw X) cf me) (gName i) D σ H := by
  obtain ⟨env, S, m, m0, fl, env2, S', rs, re, p0, e, f⟩ := h
  simp only [evS, asG] at e
  obtain ⟨v, S1, e1, e2⟩ := bind_ok e
  cases e2
  exact ⟨env, S, m, v, _, rs, re, e1, fun m1 H1 ex1 rs1 xv hx => f m1 H1 (ex1.to3 p0) rs1 _ ((re.mono ex1 rs.muts).set i hx)⟩
theorem tAsg_imp {t u : TE} {g : TG} (hi : ∀ σ H Q, t σ H Q → u σ H Q) {D : Ends} {σ : L2.St} {H : Hp} (h : tAsg t g D σ H) : tAsg u g D σ H := hi _ _ _ h
theorem ss_par2 {i j : Nat} {x y : Str} {a b : Expr} {mas : MA} {px py pt : Pos} {kt k2 pt2} (hc : X.calm = true) (hN : X.N.Nodup) (hi : X.N[i]? = some x) (hj : X.N[j]? = some y) (hij : i ≠ j)
    (hx : X.env.scope.names.lookup x = some .local) (hy : X.env.scope.names.lookup y = some .local) (ha : PA X [a, b] (rdA (Cxkw X) cf mas))
    (hw : swappedStores [.Tuple [.Name x px, .Name y py] kt pt] (.Tuple [a, b] k2 pt2) X.env = pure (some [x, y])) :
    PS X (.Assign [.Tuple [.Name x px, .Name y py] kt pt] (.Tuple [a, b] k2 pt2) pos) (rdS (Cxkw X) cf (.par [i, j] mas)) :=
  PS_imp (ps_par hc hN hi hj hij hx hy ha hw rfl) fun D σ H ⟨env, S, m, m0, fl, env2, S', rs, re, p0, e, f⟩ => by
    simp only [evS] at e
    obtain ⟨vs, S1, e1, e2⟩ := bind_ok e
    split at e2
    · rename_i env1 hs
      cases e2
      refine ⟨env, S, m, vs, _, rs, re, e1, fun m1 H1 ex1 rs1 zs hz => ?_⟩
      cases vs with
      | nil => simp only [setAll] at hs; cases hs
      | cons v vs =>
        cases vs with
        | nil => simp only [setAll] at hs; cases hs
        | cons w vs =>
          cases vs with
          | cons u us => simp only [setAll] at hs; cases hs
          | nil =>
            simp only [setAll] at hs
            cases hs
            obtain ⟨zv, zw, rfl, h1, h2⟩ := hz.two_of
            exact ⟨zv, zw, rfl, f m1 H1 (ex1.to3 p0) rs1 _ (((re.mono ex1 rs.muts).set i h1).set j h2)⟩
    · cases e2
theorem ss_par3 {i j l : Nat} {x y z : Str} {a b c : Expr} {mas : MA} {px py pz pt : Pos} {kt k2 pt2} (hc : X.calm = true) (hN : X.N.Nodup) (hi : X.N[i]? = some x) (hj : X.N[j]? = some y) (hl : X.N[l]? = some z) (hij : i ≠ j) (hil : i ≠ l) (hjl : j ≠ l)
    (hx : X.env.scope.names.lookup x = some .local) (hy : X.env.scope.names.lookup y = some .local) (hz : X.env.scope.names.lookup z = some .local) (ha : PA X [a, b, c] (rdA (Cxkw X) cf mas))
    (hw : swappedStores [.Tuple [.Name x px, .Name y py, .Name z pz] kt pt] (.Tuple [a, b, c] k2 pt2) X.env = pure (some [x, y, z])) :
    PS X (.Assign [.Tuple [.Name x px, .Name y py, .Name z pz] kt pt] (.Tuple [a, b, c] k2 pt2) pos) (rdS (Cxkw X) cf (.par [i, j, l] mas)) :=
  PS_imp (ps_par3 hc hN hi hj hl hij hil hjl hx hy hz ha hw rfl) fun D σ H ⟨env, S, m, m0, fl, env2, S', rs, re, p0, e, f⟩ => by
    simp only [evS] at e
    obtain ⟨vs, S1, e1, e2⟩ := bind_ok e
    split at e2
    · rename_i env1 hs
      cases e2
      refine ⟨env, S, m, vs, _, rs, re, e1, fun m1 H1 ex1 rs1 zs hz => ?_⟩
      cases vs with
      | nil => simp only [setAll] at hs; cases hs
      | cons v vs =>
        cases vs with
        | nil => simp only [setAll] at hs; cases hs
        | cons w vs =>
          cases vs with
          | nil => simp only [setAll] at hs; cases hs
          | cons u vs =>
            cases vs with
            | cons u2 us => simp only [setAll] at hs; cases hs
            | nil =>
              simp only [setAll] at hs
              cases hs
              simp only [RVs] at hz
              obtain ⟨z1, r1, rfl, h1, z2, r2, rfl, h2, z3, r3, rfl, h3, rfl⟩ := hz
              exact ⟨z1, z2, z3, rfl, f m1 H1 (ex1.to3 p0) rs1 _ ((((re.mono ex1 rs.muts).set i h1).set j h2).set l h3)⟩
    · cases e2
theorem ss_exp (he : PE X e (rdE (Cxkw X) cf me)) (hs : swapsWith e none pos.line X.env = pure false) : PS X (.Expr e pos) (rdS (Cxkw X) cf (.exp me)) :=
  PS_imp (ps_expr he hs) fun D σ H ⟨env, S, m, m0, fl, env2, S', rs, re, p0, e, f⟩ => by
    simp only [evS] at e
    obtain ⟨v, S1, e1, e2⟩ := bind_ok e
    cases e2
    exact ⟨env, S, m, v, _, rs, re, e1, fun m1 H1 ex1 rs1 xv hx => f m1 H1 (ex1.to3 p0) rs1 σ (re.mono ex1 rs.muts)⟩
theorem ss_ret (he : PE X e (rdE (Cxkw X) cf me)) : PS X (.Return (some e) pos) (rdS (Cxkw X) cf (.ret me)) :=
  PS_imp (ps_ret he) fun D σ H ⟨env, S, m, m0, fl, env2, S', rs, re, p0, e, f⟩ => by
    simp only [evS] at e
    obtain ⟨v, S1, e1, e2⟩ := bind_ok e
    cases e2
    exact ⟨env, S, m, v, _, rs, re, e1, fun m1 H1 ex1 rs1 z hz => f m1 H1 (ex1.to3 p0) rs1 z hz⟩
theorem ss_retN : PS X (.Return none pos) (rdS (Cxkw X) cf (.ret .non)) :=
  PS_imp ps_retN fun D σ H ⟨env, S, m, m0, fl, env2, S', rs, re, p0, e, f⟩ => by
    simp only [evS, evE, R.bind] at e
    cases e
    exact f m H (Ext3.refl p0) rs _ mk_non
theorem ss_pass : PS X (.Pass pos) (rdS (Cxkw X) cf .pass) :=
  PS_imp ps_pass fun D σ H ⟨env, S, m, m0, fl, env2, S', rs, re, p0, e, f⟩ => by
    simp only [evS] at e
    cases e
    exact f m H (Ext3.refl p0) rs σ re
theorem ss_ifs {c : Expr} {a b : List Stmt} {mc : ME} {ma mb : MB} (hc : PT X c (rdT (Cxkw X) cf mc)) (ha : PSs X a (rdB (Cxkw X) cf ma)) (hb : PSs X b (rdB (Cxkw X) cf mb)) : PS X (.If c a b pos) (rdS (Cxkw X) cf (.ifs mc ma mb)) :=
  PS_imp (ps_if hc ha hb) fun D σ H ⟨env, S, m, m0, fl, env2, S', rs, re, p0, e, f⟩ => by
    simp only [evS] at e
    obtain ⟨x, S1, e1, e2⟩ := bind_ok e
    obtain ⟨t, S2, e3, e4⟩ := bind_ok e2
    obtain ⟨e5, rfl⟩ := tru_ok2 e3
    refine ⟨env, S, m, x, _, t, rs, re, e1, e5, fun m1 H1 ex1 rs1 => ?_⟩
    cases t with
    | true => exact ⟨env, _, m1, m0, fl, env2, S', rs1, re.mono ex1 rs.muts, ex1.more p0, e4, f.on p0 ex1⟩
    | false => exact ⟨env, _, m1, m0, fl, env2, S', rs1, re.mono ex1 rs.muts, ex1.more p0, e4, f.on p0 ex1⟩
theorem ss_whl {c : Expr} {b : List Stmt} {mc : ME} {mb : MB} (hp : PassesOwn (model X.prog X.w) X.A X.env X.xe) (hc : PT X c (rdT (Cxkw X) cf mc)) (hb : PSs X b (rdB (Cxkw X) cf mb)) : PS X (.While c b [] pos) (rdS (Cxkw X) cf (.whl mc mb)) :=
  PS_imp (ps_while hp hc hb) fun D σ H ⟨env, S, m, m0, fl, env2, S', rs, re, p0, e, f⟩ => by
    simp only [evS] at e
    refine ⟨fun k σ1 H1 => ∃ m1 env1 S1, Ext3 m0 m m1 H H1 ∧ RS (Cxkw X) m1 H1 S1 ∧ RE (Cxkw X) m1 H1 env1 σ1 ∧ whlLoop (fun env1 S1 => (evE cf mc env1 S1).bind fun x S2 => truR x S2) (fun env1 S1 => evB cf m0.length mb env1 S1) k env1 S1 = .ok (fl, env2) S', ⟨lim, m, env, S, Ext3.refl p0, rs, re, e⟩, fun k σ1 H1 hW => ?_⟩
    obtain ⟨m1, env1, S1, ex1, rs1, re1, el⟩ := hW
    cases k with
    | zero => simp only [whlLoop] at el; cases el
    | succ k =>
      simp only [whlLoop] at el
      obtain ⟨t, S2, e2, e3⟩ := bind_ok el
      obtain ⟨x, S3, e4, e5⟩ := bind_ok e2
      obtain ⟨e6, rfl⟩ := tru_ok2 e5
      refine ⟨env1, S1, m1, x, _, t, rs1, re1, e4, e6, fun m2 H2 ex2 rs2 => ?_⟩
      cases t with
      | false =>
        dsimp only at e3
        cases e3
        exact f m2 H2 (ex1.trans (ex2.to3 ex1.pre)) rs2 σ1 (re1.mono ex2 rs1.muts)
      | true =>
        dsimp only at e3
        obtain ⟨p, S4, e7, e8⟩ := bind_ok e3
        obtain ⟨fl1, env3⟩ := p
        refine ⟨fun σ2 H3 => ∃ m1 env1 S1, Ext3 m0 m m1 H H3 ∧ RS (Cxkw X) m1 H3 S1 ∧ RE (Cxkw X) m1 H3 env1 σ2 ∧ whlLoop (fun env1 S1 => (evE cf mc env1 S1).bind fun x S2 => truR x S2) (fun env1 S1 => evB cf m0.length mb env1 S1) k env1 S1 = .ok (fl, env2) S',
          fun σ2 H3 h3 => ⟨k, Nat.lt_succ_self k, h3⟩, env1, _, m2, m0, fl1, env3, S4, rs2, re1.mono ex2 rs1.muts, ex2.more ex1.pre, e7, ?_⟩
        cases fl1 with
        | next => exact fun m3 H3 ex3 rs3 σ3 re3 => ⟨m3, env3, S4, (ex1.trans (ex2.to3 ex1.pre)).trans ex3, rs3, re3, e8⟩
        | ret v =>
          dsimp only at e8
          cases e8
          exact fun m3 H3 ex3 rs3 z hz => f m3 H3 ((ex1.trans (ex2.to3 ex1.pre)).trans ex3) rs3 z hz
theorem ss_for {tg iter : Expr} {b : List Stmt} {ms : MI} {mg : MG} {mb : MB} (hp : PassesOwn (model X.prog X.w) X.A X.env X.xe) (hc : X.calm = true) (hi : PI X tg iter (rdI (Cxkw X) cf ms)) (hg : PG X tg (rdG (Cxkw X) cf mg)) (hb : PSs X b (rdB (Cxkw X) cf mb))
    (hs : ∀ x, foldedSetIterable iter X.env x = pure x) : PS X (.For tg iter b [] pos) (rdS (Cxkw X) cf (.for_ ms mg mb)) :=
  PS_imp (ps_for hp hc hi hg hb hs) fun D σ H ⟨env, S, m, m0, fl, env2, S', rs, re, p0, e, f⟩ => by
    simp only [evS] at e
    obtain ⟨src, S0, e0, e⟩ := bind_ok e
    generalize ht : (fun (v : Val) (env1 : Env) (S2 : Sto) => (asG cf mg v env1 S2).bind fun env2 S3 => evB cf S0.n mb env2 S3) = turn at e
    have hlim : lim = 99999 + 1 := rfl
    have nn : nextAt S0 0 src ≠ none := by
      intro z
      rw [hlim] at e
      simp only [forLoop, z] at e
      cases e
    refine ⟨env, S, m, src, S0, rs, re, e0, nn, fun mL H0 ex0 rs0 J hJ => ?_⟩
    have pL : ∃ t, mL = m0 ++ t := ex0.more p0
    refine ⟨fun i k σ1 H1 => ∃ m1 env1 S1, Ext mL m1 H0 H1 ∧ RS (Cxkw X) m1 H1 S1 ∧ RE (Cxkw X) m1 H1 env1 σ1 ∧ forLoop turn src k i env1 S1 = .ok (fl, env2) S', ⟨lim, mL, env, S0, Ext.refl _ _, rs0, re.mono ex0 rs.muts, e⟩, fun i k σ1 H1 hW => ?_⟩
    obtain ⟨m1, env1, S1, ex1, rs1, re1, el⟩ := hW
    cases k with
    | zero => simp only [forLoop] at el; cases el
    | succ k =>
      simp only [forLoop] at el
      have hj := hJ m1 H1 S1 i ex1.pre (ex1.keeps rs0.muts) ex1.lk rs1
      cases hx : nextAt S1 i src with
      | none => rw [hx] at el; cases el
      | some o =>
        cases o with
        | none =>
          rw [hx] at el hj
          dsimp only at el hj
          cases el
          exact .inl ⟨hj, f m1 H1 ((ex0.trans ex1).to3 p0) rs1 σ1 re1⟩
        | some w =>
          rw [hx] at el hj
          dsimp only at el hj
          refine .inr ⟨hj.1, fun σ2 H3 => ∃ m1 env1 S1, Ext mL m1 H0 H3 ∧ RS (Cxkw X) m1 H3 S1 ∧ RE (Cxkw X) m1 H3 env1 σ2 ∧ forLoop turn src k (i + 1) env1 S1 = .ok (fl, env2) S', fun σ2 H3 h3 => ⟨k, Nat.lt_succ_self k, h3⟩, fun x H2 hy => ?_⟩
          obtain ⟨ex2, rs2, rx⟩ := hj.2 x H2 hy
          obtain ⟨p, S4, et, el2⟩ := bind_ok el
          rw [← ht] at et
          obtain ⟨env3, S3, ea, eb⟩ := bind_ok et
          obtain ⟨fl1, env4⟩ := p
          refine ⟨env1, S1, m1, w, env3, S3, rs2, re1.mono ex2 rs1.muts, rx, ea, fun m3 H3 ex3 rs3 σ3 re3 => ⟨env3, S3, m3, mL, fl1, env4, S4, rs3, re3, ((ex1.trans ex2).trans ex3).pre, by rw [rs0.len]; exact eb, ?_⟩⟩
          cases fl1 with
          | next => exact fun m4 H4 ex4 rs4 σ4 re4 => ⟨m4, env4, S4, ((((ex1.trans ex2).trans ex3).to3 ⟨[], by simp⟩).trans ex4).to, rs4, re4, el2⟩
          | ret v =>
            dsimp only at el2
            cases el2
            exact fun m4 H4 ex4 rs4 z hz => f m4 H4 (((((ex0.trans ex1).trans ex2).trans ex3).to3 p0).trans (ex4.less pL)) rs4 z hz
theorem ss_lk {i : Nat} {st : Stmt} {ms : MS} (h : PS X st (rdS (Cxkw X) cf ms)) : PS X st (rdS (Cxkw X) cf (.lk i ms)) := ⟨fun pins s σ H D I hw => by
  obtain ⟨env, S, m, m0, fl, env2, S', rs, re, p0, ev, f⟩ := hw
  simp only [evS] at ev
  split at ev
  · rename_i p hp
    obtain ⟨v1, S1, e1, e2⟩ := bind_ok ev
    obtain ⟨a, φ, od, ha, hH, I1, rs0⟩ := lock_in I rs hp
    refine thn (h.run pins s σ _ ⟨fun σ' H' => H' a = some (.frz od (.ext φ)) ∧ D.nx σ' (upd H' a (.ext φ)), fun v H' => H' a = some (.frz od (.ext φ)) ∧ D.rt v (upd H' a (.ext φ)), fun _ _ => False, fun _ _ => False⟩ I1
      ⟨env, _, m, m, v1.1, v1.2, S1, rs0, re.monoK ⟨[], by simp⟩ (keeps_at hH trivial), ⟨[], by simp⟩, by rw [rs.len]; exact e1, ?_⟩) fun g s1 q => ?_
    · obtain ⟨fl1, env1⟩ := v1
      cases fl1 with
      | next =>
        intro m1 H1 ex1 rs1 σ2 re2
        obtain ⟨z, l1, l2, l3, l4⟩ := lock_out ha hH ex1.to rs1 e2
        cases z
        exact ⟨l1, f _ _ (l3.to3 p0) l2 _ (re2.monoK ⟨[], by simp⟩ l4)⟩
      | ret v =>
        intro m1 H1 ex1 rs1 z hz
        obtain ⟨y, l1, l2, l3, l4⟩ := lock_out ha hH ex1.to rs1 e2
        cases y
        exact ⟨l1, f _ _ (l3.to3 p0) l2 _ (RV.monoK ⟨[], by simp⟩ l4 _ _ hz)⟩
    · cases g with
      | next => obtain ⟨σ', H', I2, q1, q2⟩ := q; exact ⟨σ', _, I2.unlock q1 (I.nofrz hH True.intro), q2⟩
      | brk => obtain ⟨_, _, _, q⟩ := q; exact q.elim
      | cont => obtain ⟨_, _, _, q⟩ := q; exact q.elim
      | ret v => obtain ⟨x, σ', H', I2, r, q1, q2⟩ := q; exact ⟨x, σ', _, I2.unlock q1 (I.nofrz hH True.intro), r, q2⟩
  · cases ev⟩

theorem RE.gc {K : Kw} {m m2 : List Addr} {H : Hp} {env : Env} {σ : L2.St} {k : Nat} {rs : List Nat} (h1 : ∀ r, r < k → m2[r]? = m[r]?) (h2 : ∀ r ∈ rs, m2[k + rs.idxOf r]? = m[r]?) (h : RE K m H env σ) : RE K m2 H (env.map (renO k rs)) σ :=
  ⟨by rw [List.length_map]; exact h.len, fun i v q => by
    rw [List.getElem?_map] at q
    cases e : env[i]? with
    | none => rw [e] at q; cases q
    | some o =>
      rw [e] at q
      simp only [Option.map_some, Option.some.injEq] at q
      cases o with
      | none => cases q
      | some w =>
        unfold renO at q
        dsimp only at q
        split at q
        · rename_i hc
          cases q
          obtain ⟨x, e1, e2⟩ := h.at_ i w e
          exact ⟨x, e1, RV.ren h1 h2 w x (fun r hr => by simpa using List.all_eq_true.mp hc r hr) e2⟩
        · cases q⟩
theorem gcs_imp {sl : List Nat} {mb : MB} {D : Ends} {σ : L2.St} {H : Hp} (h : rdB (Cxkw X) cf (.gcs sl mb) D σ H) : rdB (Cxkw X) cf mb D σ H := by
  obtain ⟨env, S, m, m0, fl, env2, S', rs, re, p0, e, f⟩ := h
  simp only [evB] at e
  unfold gcE at e
  split at e
  · rename_i rr hr
    split at e
    · rename_i hc
      simp only [Bool.and_eq_true, decide_eq_true_eq] at hc
      split at e
      · rename_i S1 hS
        obtain ⟨t, q1, q2, q3, q4⟩ := rs.keep hS (fun r z => Nat.le_of_ble_eq_true (List.all_eq_true.mp hc.1 r z)) hc.2
        have hm : m.take m0.length = m0 := by
          obtain ⟨u, rfl⟩ := p0
          simp
        rw [hm] at q1 q3 q4
        have hsub : ∀ a ∈ m0 ++ t, a ∈ m := fun a ha => by
          rcases List.mem_append.mp ha with z | z
          · obtain ⟨u, rfl⟩ := p0
            exact List.mem_append_left _ z
          · exact q2 a z
        refine ⟨_, S1, m0 ++ t, m0, fl, env2, S', q1, re.gc q3 q4, ⟨t, rfl⟩, e, ?_⟩
        cases fl with
        | next => exact fun m2 H2 ex => f m2 H2 (ex.sub hsub)
        | ret v => exact fun m2 H2 ex => f m2 H2 (ex.sub hsub)
      · exact ⟨env, S, m, m0, fl, env2, S', rs, re, p0, e, f⟩
    · exact ⟨env, S, m, m0, fl, env2, S', rs, re, p0, e, f⟩
  · exact ⟨env, S, m, m0, fl, env2, S', rs, re, p0, e, f⟩
theorem sb_gcs {sl : List Nat} {mb : MB} {ss : List Stmt} (h : PSs X ss (rdB (Cxkw X) cf mb)) : PSs X ss (rdB (Cxkw X) cf (.gcs sl mb)) := PSs_imp h fun D σ H q => gcs_imp q
end
end Mp

set_option Elab.async false
set_option linter.all false
set_option maxRecDepth 100000
set_option maxHeartbeats 2000000
/-! Mp, part N: does a text of the little language say what a text of Python says? -/
namespace Mp
open PySem PySem.Spec PyProof.Rows L2
structure Ctx where
  N : List Str
  sc : Scope
  fn : Str → Bool
  free : List Str
  gis : List (Str × Int)
  gss : List (Str × Str)
  T : Nat → Option MDef
def Ctx.blk (c : Ctx) (s : Scope) : Ctx := { c with sc := relS s c.sc, fn := fun x => s.names.lookup x == some .cell }
def nmOk (x : Str) : Bool := !(x == ("__debug__" : Str)) && !(x == ("__classdict__" : Str)) && !(x == ("__name__" : Str))
def visB (sc : Scope) (x : Str) : Bool := match sc.names.lookup x with
  | some .local => true
  | some .cell => true
  | some .free => true
  | _ => false
def locB (sc : Scope) (x : Str) : Bool := match sc.names.lookup x with
  | some .local => true
  | some .cell => true
  | _ => false
def isLocal (sc : Scope) (x : Str) : Bool := match sc.names.lookup x with
  | some .local => true
  | _ => false
def glB (sc : Scope) (x : Str) : Bool := match sc.names.lookup x with
  | some .globalImplicit => true
  | _ => false
def bltOk (c : Ctx) (x : Str) : Bool := glB c.sc x && c.free.contains x && nmOk x
def notStar : Expr → Bool
  | .Starred _ _ => false
  | _ => true
def notSet : Expr → Bool
  | .Set _ _ _ => false
  | _ => true
def notSlice : Expr → Bool
  | .Slice _ _ _ _ => false
  | _ => true
def notComp : Expr → Bool
  | .ListComp _ _ _ _ => false
  | .SetComp _ _ _ _ => false
  | .DictComp _ _ _ _ _ => false
  | _ => true
def notCall : Expr → Bool
  | .Call _ _ _ _ => false
  | _ => true
def plainTest : Expr → Bool
  | .UnaryOp .Not _ _ => false
  | .BoolOp _ _ _ => false
  | .IfExp _ _ _ _ => false
  | .Compare _ _ _ _ => false
  | _ => true
def bopE : BOp → Operator → Bool
  | .add, .Add => true
  | .sub, .Sub => true
  | .mul, .Mult => true
  | .fdiv, .FloorDiv => true
  | .mod, .Mod => true
  | .pow, .Pow => true
  | _, _ => false
def copE : COp → CmpOp → Bool
  | .eq, .Eq => true
  | .ne, .NotEq => true
  | .lt, .Lt => true
  | .le, .LtE => true
  | .gt, .Gt => true
  | .ge, .GtE => true
  | .is, .Is => true
  | .nis, .IsNot => true
  | .mem, .In => true
  | .nmem, .NotIn => true
  | _, _ => false
/-- a built-in's name, and whether it is a type -/
def bltName : Blt → String
  | .len => "len"
  | .all => "all"
  | .any => "any"
  | .tuple => "tuple"
  | .list => "list"
  | .range => "range"
  | .sorted => "sorted"
  | .max => "max"
  | .min => "min"
  | .sum => "sum"
  | .abs => "abs"
  | .divmod => "divmod"
  | .repr => "repr"
  | .int => "int"
  | .str => "str"
  | .dict => "dict"
def bltDone : Blt → Bool
  | .len => true
  | .all => true
  | .any => true
  | .tuple => true
  | .list => true
  | .range => true
  | .max => true
  | .min => true
  | .abs => true
  | .divmod => true
  | .int => true
  | .sorted => true
  | .dict => true
  | .repr => true
  | .sum => true
  | _ => false
def mthName : Mth → String
  | .append => "append"
  | .pop => "pop"
  | .index => "index"
  | .extend => "extend"
  | .count => "count"
  | .get => "get"
  | .join => "join"
  | .split => "split"
def mthDone : Mth → Bool
  | .append => true
  | .pop => true
  | .extend => true
  | .index => true
  | _ => false
def ownOf (N : List Str) (own : List Nat) : List (Str × Nat) := own.map fun i => (N.getD i "", i)
def isTT : ME → Bool
  | .bl b => b
  | _ => false
mutual
def okE (c : Ctx) : ME → Expr → Bool
  | .non, e => (match e with
    | .Constant .none _ _ => true
    | _ => false)
  | .bl b, e => (match e with
    | .Constant (.bool d) _ _ => b == d
    | _ => false)
  | .int i, e => (match e with
    | .Constant (.int j) _ _ => i == j
    | _ => false)
  | .str x, e => (match e with
    | .Constant (.str y) _ _ => x == y
    | _ => false)
  | .var i, e => (match e with
    | .Name x _ => (c.N[i]? == some x) && visB c.sc x && nmOk x
    | _ => false)
  | .gint x i, e => (match e with
    | .Name y _ => (x == y) && glB c.sc x && nmOk x && c.gis.contains (x, i)
    | _ => false)
  | .gstr x z, e => (match e with
    | .Name y _ => (x == y) && glB c.sc x && nmOk x && c.gss.contains (x, z)
    | _ => false)
  | .bin op a b, e => (match e with
    | .BinOp l o r _ => bopE op o && okE c a l && okE c b r
    | _ => false)
  | .neg a, e => (match e with
    | .UnaryOp .USub l _ => okE c a l
    | _ => false)
  | .cmp op a b, e => (match e with
    | .Compare l [o] [r] _ => copE op o && okE c a l && okE c b r && !behindInMarks o r
    | _ => false)
  | .chain op op2 a b d, e => (match e with
    | .Compare l [o, o2] [r, q] _ => copE op o && copE op2 o2 && okE c a l && okE c b r && okE c d q && !lastMarks [o, o2] [r, q]
    | _ => false)
  | .and a b, e => (match e with
    | .BoolOp .And (l :: [r]) _ => okE c a l && okE c b r
    | .BoolOp .And (l :: r :: s :: t) p => okE c a l && okE c b (.BoolOp .And (r :: s :: t) p)
    | _ => false)
  | .or a b, e => (match e with
    | .BoolOp .Or (l :: [r]) _ => okE c a l && okE c b r
    | .BoolOp .Or (l :: r :: s :: t) p => okE c a l && okE c b (.BoolOp .Or (r :: s :: t) p)
    | _ => false)
  | .not a, e => (match e with
    | .UnaryOp .Not l _ => okE c a l
    | _ => false)
  | .ite t a b, e => (match e with
    | .IfExp x l r _ => okE c t x && okE c a l && okE c b r
    | _ => false)
  | .tup as, e => (match e with
    | .Tuple es _ _ => okA c as es
    | _ => false)
  | .lst as, e => (match e with
    | .List es _ => okA c as es
    | _ => false)
  | .dct0, e => (match e with
    | .Dict [] [] _ => true
    | _ => false)
  | .dct0i, e => (match e with
    | .Dict [] [] _ => true
    | _ => false)
  | .dct1 a b, e => (match e with
    | .Dict [some l] [r] _ => okE c a l && okE c b r
    | _ => false)
  | .ix a b, e => (match e with
    | .Subscript l r _ => notSlice r && okE c a l && okE c b r
    | _ => false)
  | .sl a lo hi, e => (match e with
    | .Subscript l (.Slice x y none _) _ => okE c a l && (match x with
        | none => isNon lo
        | some x => !isNon lo && okE c lo x) && (match y with
        | none => isNon hi
        | some y => !isNon hi && okE c hi y)
    | _ => false)
  | .rev a, e => (match e with
    | .Subscript l (.Slice none none (some (.UnaryOp .USub (.Constant (.int i) _ _) _)) _) _ => (i == 1) && okE c a l
    | _ => false)
  | .isi a t, e => (match e with
    | .Call (.Name f _) [l, .Name y _] [] _ => (f == ("isinstance" : Str)) && bltOk c "isinstance" && (y == (tyName t : Str)) && bltOk c y && notStar l && okE c a l
    | _ => false)
  | .call f as, e => (match e with
    | .Call (.Name x _) es [] _ => (match c.T f with
      | some d => (d.name == x) && glB c.sc x && nmOk x && okA c as es
      | none => false)
    | _ => false)
  | .blt f as, e => (match e with
    | .Call (.Name x _) (l :: es) [] _ => bltDone f && (x == (bltName f : Str)) && bltOk c x && okA c as (l :: es)
    | _ => false)
  | .lens a, e => (match e with
    | .Call (.Name x _) [.Call (.Name y _) [l] [] _] [] _ => (x == ("len" : Str)) && bltOk c "len" && (y == ("set" : Str)) && bltOk c "set" && notStar l && okE c a l
    | _ => false)
  | .sorts a, e => (match e with
    | .Call (.Name x _) [.Call (.Name y _) [l] [] _] [] _ => (x == ("sorted" : Str)) && bltOk c "sorted" && (y == ("set" : Str)) && bltOk c "set" && notStar l && okE c a l
    | _ => false)
  | .mth m o as, e => (match e with
    | .Call (.Attribute l x ap) es [] cp => mthDone m && (x == (mthName m : Str)) && notCall l && (ap.endLine == cp.line) && decide (es.length < 20) && okE c o l && okA c as es
    | _ => false)
  | .lk _ a, e => notComp e && plainTest e && okE c a e
  | .gc a, e => notComp e && okE c a e
  | .lc own s g t x, e => (match e with
    | .ListComp elt [⟨tg, iter, ifs, as⟩] scope _ => (as == 0) && blkC c.N c.sc scope (ownOf c.N own) && okI c s tg iter && namesIn own g && okG (c.blk scope) g tg && (match ifs with
        | [] => isTT t
        | [q] => okE (c.blk scope) t q
        | _ => false) && okE (c.blk scope) x elt
    | _ => false)
  | .lc2 own own2 s g t s2 g2 t2 x, e => (match e with
    | .ListComp elt [⟨tg, iter, ifs, as⟩, ⟨tg2, iter2, ifs2, as2⟩] scope _ => (as == 0) && (as2 == 0) && blkC c.N c.sc scope (ownOf c.N own) && own2.all (own.contains ·) && okI c s tg iter && namesIn own g && okG (c.blk scope) g tg && (match ifs with
        | [] => isTT t
        | [q] => okE (c.blk scope) t q
        | _ => false) && okI (c.blk scope) s2 tg2 iter2 && namesIn own2 g2 && okG (c.blk scope) g2 tg2 && (match ifs2 with
        | [] => isTT t2
        | [q] => okE (c.blk scope) t2 q
        | _ => false) && okE (c.blk scope) x elt
    | _ => false)
def okA (c : Ctx) : MA → List Expr → Bool
  | .nil, es => es.isEmpty
  | .cons a r, es => (match es with
    | e :: rest => notStar e && okE c a e && okA c r rest
    | [] => false)
def okI (c : Ctx) : MI → Expr → Expr → Bool
  | .val e, _, iter => notSet iter && okE c e iter
  | .zip a b, tg, iter => (match tg, iter with
    | .Tuple _ _ _, .Call (.Name x _) [l, r] [] _ => (x == ("zip" : Str)) && bltOk c "zip" && notStar l && notStar r && okE c a l && okE c b r
    | _, _ => false)
  | .enum a, tg, iter => (match tg, iter with
    | .Tuple _ _ _, .Call (.Name x _) [l] [] _ => (x == ("enumerate" : Str)) && bltOk c "enumerate" && notStar l && okE c a l
    | _, _ => false)
  | .items a, tg, iter => (match tg, iter with
    | .Tuple _ _ _, .Call (.Attribute l x ap) [] [] cp => (x == ("items" : Str)) && notCall l && (ap.endLine == cp.line) && okE c a l
    | _, _ => false)
  | .values a, _, iter => (match iter with
    | .Call (.Attribute l x ap) [] [] cp => (x == ("values" : Str)) && notCall l && (ap.endLine == cp.line) && okE c a l
    | _ => false)
  | .keys e, _, iter => notSet iter && okE c e iter
def okG (c : Ctx) : MG → Expr → Bool
  | .nm i, e => (match e with
    | .Name x _ => (c.N[i]? == some x) && locB c.sc x && (c.fn x || isLocal c.sc x)
    | _ => false)
  | .tup gs, e => (match e with
    | .Tuple ts _ _ => okGs c gs ts
    | _ => false)
  | .sub o i, e => (match e with
    | .Subscript l r _ => notSlice r && okE c o l && okE c i r
    | _ => false)
def okGs (c : Ctx) : MGs → List Expr → Bool
  | .nil, es => es.isEmpty
  | .cons g r, es => (match es with
    | e :: rest => notStar e && okG c g e && okGs c r rest
    | [] => false)
end
end Mp

set_option Elab.async false
set_option linter.all false
set_option maxRecDepth 100000
set_option maxHeartbeats 4000000
/-! Mp, part O: what is checked is sound: expressions. -/
namespace Mp
open PySem PySem.Spec PyProof.Rows L2
structure Cok (c : Ctx) (n : Nat) (X : Cx) : Prop where
  hN : X.N = c.N
  nd : c.N.Nodup
  sc : X.env.scope = c.sc
  kind : c.sc.kind = .function
  fn : X.fn = c.fn
  calm : X.calm = true
  room : Room n X.A
  grd : X.A.guards = some []
  tab : ∀ f d, c.T f = some d → ∃ fa fd, X.mg d.name = some (.ref fa) ∧ PySem.W.keepIn X.K (.ref fa) = true ∧ Binds X.K fd (d.N.take d.np) [] ∧ FnG X.prog X.w X.K X.mg X.base n fa fd (d.N.take d.np) (spF (Cxkw X) (callF c.T n) f)
  free : ∀ x ∈ c.free, X.mg x = none
  gis : ∀ p ∈ c.gis, ∃ t, X.mg p.1 = some (.int p.2 t)
  gss : ∀ p ∈ c.gss, ∃ t, X.mg p.1 = some (.str p.2 t)
theorem rel_eq {scope : Scope} {env : PySem.Env} : relabel scope env = relS scope env.scope := rfl
theorem Cok.blk {c : Ctx} {n : Nat} {X : Cx} (h : Cok c n X) {scope : Scope} (hk : scope.kind = .function) (s : Shared) (H : Hp) (C : Addr) (cl : List (Str × Addr)) (fp : List Addr) : Cok (c.blk scope) n (X.blk s H scope (compEnvC scope cl C X.env) fp) where
  hN := h.hN
  nd := h.nd
  sc := by
    show relS scope X.env.scope = relS scope c.sc
    rw [h.sc]
  kind := hk
  fn := rfl
  calm := h.calm
  room := h.room
  grd := h.grd
  tab := h.tab
  free := h.free
  gis := h.gis
  gss := h.gss
section
variable {c : Ctx} {n : Nat} {X : Cx}
theorem nm1 {x : Str} (h : nmOk x = true) : (x == ("__debug__" : Str)) = false := by
  unfold nmOk at h
  simp only [Bool.and_eq_true, Bool.not_eq_true'] at h
  exact h.1.1
theorem nm2 {x : Str} (h : nmOk x = true) : (x == ("__classdict__" : Str)) = false := by
  unfold nmOk at h
  simp only [Bool.and_eq_true, Bool.not_eq_true'] at h
  exact h.1.2
theorem nm3 {x : Str} (h : nmOk x = true) : x ≠ "__name__" := by
  unfold nmOk at h
  simp only [Bool.and_eq_true, Bool.not_eq_true'] at h
  intro z
  rw [z] at h
  exact absurd h.2 (by simp)
theorem vis_of {sc : Scope} {x : Str} (h : visB sc x = true) : Vis sc x := by
  unfold visB at h
  split at h
  · exact .inl (by assumption)
  · exact .inr (.inl (by assumption))
  · exact .inr (.inr (by assumption))
  · cases h
theorem loc_of {sc : Scope} {x : Str} (h : locB sc x = true) : Loc sc x := by
  unfold locB at h
  split at h
  · exact .inl (by assumption)
  · exact .inr (by assumption)
  · cases h
theorem gl_of {x : Str} (h : Cok c n X) (hg : glB c.sc x = true) : Gl X x := by
  unfold glB at hg
  split at hg
  · show X.env.scope.names.lookup x = _
    rw [h.sc]
    assumption
  · cases hg
theorem blt_of {x : Str} (h : Cok c n X) (hb : bltOk c x = true) : Gl X x ∧ X.mg x = none ∧ nmOk x = true := by
  unfold bltOk at hb
  simp only [Bool.and_eq_true] at hb
  exact ⟨gl_of h hb.1.1, h.free x (by simpa using hb.1.2), hb.2⟩
theorem star_one {e : Expr} {es : List Expr} {env : PySem.Env} (h : notStar e = true) : starEach (e :: es) env = (false, eval e env) :: starEach es env := by
  cases e <;> first | rfl | cases h
def starsOk : List Expr → Bool
  | [] => true
  | e :: r => notStar e && starsOk r
theorem star_any {env : PySem.Env} {pos : Pos} : ∀ {es : List Expr}, starsOk es = true → (backTo pos (starEach es env)).any (·.1) = false
  | [], _ => rfl
  | e :: es, h => by
    simp only [starsOk, Bool.and_eq_true] at h
    rw [star_one h.1]
    show (false || (backTo pos (starEach es env)).any (·.1)) = false
    rw [star_any h.2]; rfl
theorem star_all {env : PySem.Env} {pos : Pos} : ∀ {es : List Expr}, starsOk es = true → (backTo pos (starEach es env)).all (fun x => !x.1) = true
  | [], _ => rfl
  | e :: es, h => by
    simp only [starsOk, Bool.and_eq_true] at h
    rw [star_one h.1]
    show (!false && (backTo pos (starEach es env)).all (fun x => !x.1)) = true
    rw [star_all h.2]; rfl
theorem okA_stars : ∀ {as : MA} {es : List Expr}, okA c as es = true → starsOk es = true
  | .nil, es, h => by
    simp only [okA] at h
    cases es with
    | nil => rfl
    | cons e r => cases h
  | .cons a r, es, h => by
    cases es with
    | nil => simp only [okA] at h; cases h
    | cons e rest =>
      simp only [okA, Bool.and_eq_true] at h
      simp only [starsOk, Bool.and_eq_true]
      exact ⟨h.1.1, okA_stars h.2⟩
theorem test_plain {e : Expr} {env : PySem.Env} (h : plainTest e = true) (whole : Sem Value) : isTrue e env whole = (do let v ← whole; standAt e.pos; holding [v] (truthy v)) := by
  cases e with
  | UnaryOp op x p => cases op <;> first | rfl | cases h
  | BoolOp _ _ _ => cases h
  | IfExp _ _ _ _ => cases h
  | Compare _ _ _ _ => cases h
  | _ => rfl
theorem fold_set {e : Expr} {env : PySem.Env} (h : notSet e = true) (x : Value) : foldedSetIterable e env x = pure x := by
  cases e <;> first | rfl | cases h
theorem ix_plain {e : Expr} (h : notSlice e = true) : PlainIx e := fun o i => by
  cases e <;> first | rfl | cases h
theorem base_plain {o : Expr} {nm : Str} {env : PySem.Env} (h : notCall o = true) (whole : Sem Value) : attributeBase o nm env whole = whole := by
  cases o <;> first | rfl | cases h
theorem bop_rule {op : BOp} {o : Operator} (h : bopE op o = true) : OpR X (binaryOp o) (r2 (Cxkw X) (bop op)) := by
  cases op with
  | add => cases o with
    | Add => exact op_addM
    | _ => cases h
  | sub => cases o with
    | Sub => exact op_subM
    | _ => cases h
  | mul => cases o with
    | Mult => exact op_mulM
    | _ => cases h
  | fdiv => cases o with
    | FloorDiv => exact op_fdivM
    | _ => cases h
  | mod => cases o with
    | Mod => exact op_modM
    | _ => cases h
  | pow => cases o with
    | Pow => exact op_powM
    | _ => cases h
theorem cop_rule {op : COp} {o : CmpOp} (hr : Room n X.A) (h : copE op o = true) : OpR X (compareOp o) (r2 (Cxkw X) (cop op)) := by
  cases op with
  | eq => cases o with
    | Eq => exact op_eqM hr
    | _ => cases h
  | ne => cases o with
    | NotEq => exact op_neM hr
    | _ => cases h
  | lt => cases o with
    | Lt => exact op_ltM hr
    | _ => cases h
  | le => cases o with
    | LtE => exact op_leM
    | _ => cases h
  | gt => cases o with
    | Gt => exact op_gtM
    | _ => cases h
  | ge => cases o with
    | GtE => exact op_geM
    | _ => cases h
  | is => cases o with
    | Is => exact op_isM
    | _ => cases h
  | nis => cases o with
    | IsNot => exact op_nisM
    | _ => cases h
  | mem => cases o with
    | In => exact op_memM hr
    | _ => cases h
  | nmem => cases o with
    | NotIn => exact op_nmemM hr
    | _ => cases h
def isBO : Expr → Bool
  | .BoolOp _ _ _ => true
  | _ => false
theorem blt_rule {f : Blt} {e : Expr} {es : List Expr} {mas : MA} {cf : CF} {p pos : Pos} (h : Cok c n X) (hd : bltDone f = true) (hb : bltOk c (bltName f) = true) (ha : PA X (e :: es) (rdA (Cxkw X) cf mas)) (hs : starsOk (e :: es) = true) :
    PE X (.Call (.Name (bltName f) p) (e :: es) [] pos) (rdE (Cxkw X) cf (.blt f mas)) := by
  obtain ⟨g1, g2, g3⟩ := blt_of h hb
  have hs2 := hs
  simp only [starsOk, Bool.and_eq_true] at hs2
  have q1 := star_one (env := X.env) (es := es) hs2.1
  have q2 := star_any (env := X.env) (pos := pos) hs2.2
  cases f with
  | len => exact sn_bltB c_len g1 g2 (by decide +kernel) ha (nm3 g3) (nm1 g3) q1 q2
  | all => exact sn_bltB (c_all h.calm) g1 g2 (by decide +kernel) ha (nm3 g3) (nm1 g3) q1 q2
  | any => exact sn_bltB (c_any h.calm) g1 g2 (by decide +kernel) ha (nm3 g3) (nm1 g3) q1 q2
  | tuple => exact sn_bltT (c_tuple h.calm) g1 g2 (by decide +kernel) ha (nm3 g3) (nm1 g3) q1 q2
  | list => exact sn_bltT (c_list h.calm) g1 g2 (by decide +kernel) ha (nm3 g3) (nm1 g3) q1 q2
  | range => exact sn_bltT c_range g1 g2 (by decide +kernel) ha (nm3 g3) (nm1 g3) q1 q2
  | max => exact sn_bltB (c_max h.room h.calm) g1 g2 (by decide +kernel) ha (nm3 g3) (nm1 g3) q1 q2
  | min => exact sn_bltB (c_min h.room h.calm) g1 g2 (by decide +kernel) ha (nm3 g3) (nm1 g3) q1 q2
  | abs => exact sn_bltB c_abs g1 g2 (by decide +kernel) ha (nm3 g3) (nm1 g3) q1 q2
  | divmod => exact sn_bltB c_divmod g1 g2 (by decide +kernel) ha (nm3 g3) (nm1 g3) q1 q2
  | int => exact sn_bltT c_int g1 g2 (by decide +kernel) ha (nm3 g3) (nm1 g3) q1 q2
  | sorted => exact sn_bltB (c_sorted h.room h.calm) g1 g2 (by decide +kernel) ha (nm3 g3) (nm1 g3) q1 q2
  | dict => exact sn_bltT (c_dict h.room h.calm) g1 g2 (by decide +kernel) ha (nm3 g3) (nm1 g3) q1 q2
  | repr => exact sn_bltB (c_repr h.room h.grd) g1 g2 (by decide +kernel) ha (nm3 g3) (nm1 g3) q1 q2
  | sum => exact sn_bltB (c_sum h.calm) g1 g2 (by decide +kernel) ha (nm3 g3) (nm1 g3) q1 q2
  | _ => cases hd
theorem mth_rule {m : Mth} {o : Expr} {es : List Expr} {mo : ME} {mas : MA} {cf : CF} {ap cp : Pos} (h : Cok c n X) (hd : mthDone m = true) (hn : notCall o = true) (hl : (ap.endLine == cp.line) = true) (hfew : es.length < 20) (ho : PE X o (rdE (Cxkw X) cf mo)) (ha : PA X es (rdA (Cxkw X) cf mas)) (hok : okA c mas es = true) :
    PE X (.Call (.Attribute o (mthName m) ap) es [] cp) (rdE (Cxkw X) cf (.mth m mo mas)) := by
  have hb : ∀ nm : Str, attributeBase o nm X.env (eval o X.env) = eval o X.env := fun nm => base_plain hn _
  cases es with
  | nil =>
    have hm : mas = .nil := by
      cases mas with
      | nil => rfl
      | cons a r => simp only [okA] at hok; cases hok
    subst hm
    cases m with
    | append => exact sn_mth0 (T := "list") (fun rs hx hr => ty_list (mt := .append) (.inl rfl) rs hx hr) PySem.F.plainAttrs_list PySem.F.slot_list_append PySem.F.type_list_append m_append ho (hb _) hl
    | pop => exact sn_mth0 (T := "list") (fun rs hx hr => ty_list (mt := .pop) (.inr (.inl rfl)) rs hx hr) PySem.F.plainAttrs_list PySem.F.slot_list_pop PySem.F.type_list_pop m_pop ho (hb _) hl
    | extend => exact sn_mth0 (T := "list") (fun rs hx hr => ty_list (mt := .extend) (.inr (.inr (.inl rfl))) rs hx hr) PySem.F.plainAttrs_list PySem.F.slot_list_extend PySem.F.type_list_extend m_extend ho (hb _) hl
    | index => exact sn_mth0 (T := "list") (fun rs hx hr => ty_list (mt := .index) (.inr (.inr (.inr (.inl rfl)))) rs hx hr) PySem.F.plainAttrs_list PySem.F.slot_list_index PySem.F.type_list_index (m_index h.room) ho (hb _) hl
    | _ => cases hd
  | cons e es =>
    have hs := okA_stars hok
    have hs2 := hs
    simp only [starsOk, Bool.and_eq_true] at hs2
    have q1 := star_one (env := X.env) (es := es) hs2.1
    have q2 := star_any (env := X.env) (pos := cp) hs2.2
    have q3 : ((backTo cp (starEach (e :: es) X.env)).all (fun x => !x.1) && (backToKw cp (keywordEach [] X.env)).all (fun x => x.1.isSome)
      && decide ((e :: es).length + ([] : List Keyword).length + (if ([] : List Keyword).isEmpty then 0 else 1) < 30)) = true := by
      rw [star_all hs]
      show (true && true && decide ((e :: es).length + 0 + 0 < 30)) = true
      rw [decide_eq_true (by omega)]; rfl
    cases m with
    | append => exact sn_mth (T := "list") (fun rs hx hr => ty_list (mt := .append) (.inl rfl) rs hx hr) PySem.F.plainAttrs_list PySem.F.slot_list_append PySem.F.type_list_append m_append ho ha (hb _) q3 hl q1 q2
    | pop => exact sn_mth (T := "list") (fun rs hx hr => ty_list (mt := .pop) (.inr (.inl rfl)) rs hx hr) PySem.F.plainAttrs_list PySem.F.slot_list_pop PySem.F.type_list_pop m_pop ho ha (hb _) q3 hl q1 q2
    | extend => exact sn_mth (T := "list") (fun rs hx hr => ty_list (mt := .extend) (.inr (.inr (.inl rfl))) rs hx hr) PySem.F.plainAttrs_list PySem.F.slot_list_extend PySem.F.type_list_extend m_extend ho ha (hb _) q3 hl q1 q2
    | index => exact sn_mth (T := "list") (fun rs hx hr => ty_list (mt := .index) (.inr (.inr (.inr (.inl rfl)))) rs hx hr) PySem.F.plainAttrs_list PySem.F.slot_list_index PySem.F.type_list_index (m_index h.room) ho ha (hb _) q3 hl q1 q2
    | _ => cases hd
end
end Mp

set_option Elab.async false
set_option linter.all false
set_option maxRecDepth 100000
set_option maxHeartbeats 4000000
/-! Mp, part P: the check is sound. -/
namespace Mp
open PySem PySem.Spec PyProof.Rows L2
theorem gs_len {c : Ctx} {env : PySem.Env} : ∀ {gs : MGs} {ts : List Expr}, okGs c gs ts = true → (assignEach ts env).length = glen gs ∧ (assignEach ts env).findIdx? (·.1) = none
  | .nil, ts, h => by
    simp only [okGs] at h
    cases ts with
    | nil => exact ⟨rfl, rfl⟩
    | cons t r => cases h
  | .cons g r, ts, h => by
    cases ts with
    | nil => simp only [okGs] at h; cases h
    | cons t rest =>
      simp only [okGs, Bool.and_eq_true] at h
      obtain ⟨h1, h2⟩ := gs_len (env := env) h.2
      have e : assignEach (t :: rest) env = (false, assign t env) :: assignEach rest env := by
        have := h.1.1
        cases t <;> first | rfl | cases this
      rw [e]
      refine ⟨by simp [glen, h1], ?_⟩
      rw [List.findIdx?_cons]
      simp [h2]
theorem as_one {t : Expr} {rest : List Expr} {env : PySem.Env} (h : notStar t = true) : (assignEach (t :: rest) env).map (·.2) = assign t env :: (assignEach rest env).map (·.2) := by
  cases t <;> first | rfl | cases h
theorem as_sub {o i : Expr} {pos : Pos} {env : PySem.Env} (h : notSlice i = true) (v : Value) : assign (.Subscript o i pos) env v = (do
      let ov ← holding [v] (eval o env)
      let iv ← holding [v, ov] (eval i env)
      standAt pos
      holding [v, ov, iv] (setItem ov iv v)
      release [v, ov, iv] []) := by
  cases i <;> first | rfl | cases h
theorem own_map {N : List Str} {own : List Nat} : (ownOf N own).map (·.2) = own := by
  unfold ownOf
  rw [List.map_map]
  induction own with
  | nil => rfl
  | cons a r ih => simp only [List.map_cons, Function.comp, ih] <;> rfl
/-- what is shown of an expression -/
def SE (X : Cx) (cf : CF) (e : Expr) (m : ME) : Prop := PE X e (rdE (Cxkw X) cf m) ∧ PT X e (rdT (Cxkw X) cf m) ∧ (isBO e = true → PW X e (rdT (Cxkw X) cf m))
theorem SE.of {X : Cx} {cf : CF} {e : Expr} {m : ME} (h : PE X e (rdE (Cxkw X) cf m)) (hp : plainTest e = true) : SE X cf e m := ⟨h, st_any h (test_plain hp), fun z => by
  cases e with
  | BoolOp _ _ _ => cases hp
  | _ => cases z⟩
theorem SE.of2 {X : Cx} {cf : CF} {e : Expr} {m : ME} (h : PE X e (rdE (Cxkw X) cf m)) (ht : PT X e (rdT (Cxkw X) cf m)) (hp : isBO e = false) : SE X cf e m := ⟨h, ht, fun z => by rw [hp] at z; cases z⟩
mutual
theorem sE : ∀ (m : ME) {c : Ctx} {n : Nat} {X : Cx} {e : Expr}, Cok c n X → okE c m e = true → SE X (callF c.T n) e m
  | .non, c, n, X, e, h, k => by
    simp only [okE] at k
    split at k
    · exact SE.of sn_non rfl
    · cases k
  | .bl b, c, n, X, e, h, k => by
    simp only [okE] at k
    split at k
    · rw [← eq_of_beq k]; exact SE.of sn_bl rfl
    · cases k
  | .int i, c, n, X, e, h, k => by
    simp only [okE] at k
    split at k
    · rw [← eq_of_beq k]; exact SE.of sn_int rfl
    · cases k
  | .str x, c, n, X, e, h, k => by
    simp only [okE] at k
    split at k
    · rw [← eq_of_beq k]; exact SE.of sn_str rfl
    · cases k
  | .var i, c, n, X, e, h, k => by
    simp only [okE] at k
    split at k
    · simp only [Bool.and_eq_true] at k
      exact SE.of (sn_var (by rw [h.hN]; exact eq_of_beq k.1.1) (by rw [h.sc]; exact vis_of k.1.2) (nm1 k.2) (nm2 k.2)) rfl
    · cases k
  | .gint x i, c, n, X, e, h, k => by
    simp only [okE] at k
    split at k
    · simp only [Bool.and_eq_true] at k
      obtain ⟨⟨⟨k1, k2⟩, k3⟩, k4⟩ := k
      rw [← eq_of_beq k1]
      obtain ⟨t, ht⟩ := h.gis (x, i) (by simpa using k4)
      exact SE.of (sn_gint (gl_of h k2) ht (nm1 k3)) rfl
    · cases k
  | .gstr x z, c, n, X, e, h, k => by
    simp only [okE] at k
    split at k
    · simp only [Bool.and_eq_true] at k
      obtain ⟨⟨⟨k1, k2⟩, k3⟩, k4⟩ := k
      rw [← eq_of_beq k1]
      obtain ⟨t, ht⟩ := h.gss (x, z) (by simpa using k4)
      exact SE.of (sn_gstr (gl_of h k2) ht (nm1 k3)) rfl
    · cases k
  | .bin op a b, c, n, X, e, h, k => by
    simp only [okE] at k
    split at k
    · simp only [Bool.and_eq_true] at k
      exact SE.of (sn_bin (bop_rule k.1.1) (sE a h k.1.2).1 (sE b h k.2).1) rfl
    · cases k
  | .neg a, c, n, X, e, h, k => by
    simp only [okE] at k
    split at k
    · exact SE.of (sn_neg (sE a h k).1) rfl
    · cases k
  | .cmp op a b, c, n, X, e, h, k => by
    simp only [okE] at k
    split at k
    · simp only [Bool.and_eq_true, Bool.not_eq_true'] at k
      obtain ⟨⟨⟨k1, k2⟩, k3⟩, k4⟩ := k
      exact SE.of2 (sn_cmp (cop_rule h.room k1) (sE a h k2).1 (sE b h k3).1 k4) (st_cmp (cop_rule h.room k1) (sE a h k2).1 (sE b h k3).1 k4) rfl
    · cases k
  | .chain op op2 a b d, c, n, X, e, h, k => by
    simp only [okE] at k
    split at k
    · simp only [Bool.and_eq_true, Bool.not_eq_true'] at k
      obtain ⟨⟨⟨⟨⟨k1, k2⟩, k3⟩, k4⟩, k5⟩, k6⟩ := k
      exact SE.of2 (sn_chain (cop_rule h.room k1) (cop_rule h.room k2) (sE a h k3).1 (sE b h k4).1 (sE d h k5).1 k6) (st_chain (cop_rule h.room k1) (cop_rule h.room k2) (sE a h k3).1 (sE b h k4).1 (sE d h k5).1 k6) rfl
    · cases k
  | .and a b, c, n, X, e, h, k => by
    simp only [okE] at k
    split at k
    · rename_i l r pos
      simp only [Bool.and_eq_true] at k
      have ha := sE a h k.1
      have hb := sE b h k.2
      have w := st_and (pos := pos) ha.2.1 (pw_and1 hb.2.1)
      exact ⟨sn_and ha.1 ⟨fun pins s σ H Q I q => BoolOp_one (hb.1.run pins s σ H Q I q)⟩, w.pt, fun _ => w⟩
    · simp only [Bool.and_eq_true] at k
      have ha := sE a h k.1
      have hb := sE b h k.2
      have w := st_and ha.2.1 (hb.2.2 rfl)
      exact ⟨sn_and ha.1 hb.1, w.pt, fun _ => w⟩
    · cases k
  | .or a b, c, n, X, e, h, k => by
    simp only [okE] at k
    split at k
    · rename_i l r pos
      simp only [Bool.and_eq_true] at k
      have ha := sE a h k.1
      have hb := sE b h k.2
      have w := st_or (pos := pos) ha.2.1 (pw_or1 hb.2.1)
      exact ⟨sn_or ha.1 ⟨fun pins s σ H Q I q => BoolOp_one (hb.1.run pins s σ H Q I q)⟩, w.pt, fun _ => w⟩
    · simp only [Bool.and_eq_true] at k
      have ha := sE a h k.1
      have hb := sE b h k.2
      have w := st_or ha.2.1 (hb.2.2 rfl)
      exact ⟨sn_or ha.1 hb.1, w.pt, fun _ => w⟩
    · cases k
  | .not a, c, n, X, e, h, k => by
    simp only [okE] at k
    split at k
    · exact SE.of2 (sn_not (sE a h k).1) (st_not (sE a h k).2.1) rfl
    · cases k
  | .ite t a b, c, n, X, e, h, k => by
    simp only [okE] at k
    split at k
    · simp only [Bool.and_eq_true] at k
      have ht := sE t h k.1.1
      have ha := sE a h k.1.2
      have hb := sE b h k.2
      exact SE.of2 (sn_ite ht.2.1 ha.1 hb.1) (st_ite ht.2.1 ha.2.1 hb.2.1) rfl
    · cases k
  | .tup as, c, n, X, e, h, k => by
    simp only [okE] at k
    split at k
    · exact SE.of (sn_tup (sA as h k)) rfl
    · cases k
  | .lst as, c, n, X, e, h, k => by
    simp only [okE] at k
    split at k
    · exact SE.of (sn_lst (sA as h k)) rfl
    · cases k
  | .dct0, c, n, X, e, h, k => by
    simp only [okE] at k
    split at k
    · exact SE.of sn_dct0 rfl
    · cases k
  | .dct0i, c, n, X, e, h, k => by
    simp only [okE] at k
    split at k
    · exact SE.of sn_dct0i rfl
    · cases k
  | .dct1 a b, c, n, X, e, h, k => by
    simp only [okE] at k
    split at k
    · simp only [Bool.and_eq_true] at k
      exact SE.of (sn_dct1 h.room (sE a h k.1).1 (sE b h k.2).1) rfl
    · cases k
  | .ix a b, c, n, X, e, h, k => by
    simp only [okE] at k
    split at k
    · simp only [Bool.and_eq_true] at k
      exact SE.of (sn_ix h.room (sE a h k.1.2).1 (sE b h k.2).1 (ix_plain k.1.1)) rfl
    · cases k
  | .sl a lo hi, c, n, X, e, h, k => by
    simp only [okE] at k
    split at k
    · rename_i l x y p2 pos
      simp only [Bool.and_eq_true] at k
      obtain ⟨⟨k1, k2⟩, k3⟩ := k
      have hlo : PO X x (rdO (Cxkw X) (callF c.T n) lo) := by
        cases x with
        | none =>
          cases lo with
          | non => exact so_none
          | _ => cases k2
        | some x =>
          simp only [Bool.and_eq_true, Bool.not_eq_true'] at k2
          exact so_some (sE lo h k2.2).1 k2.1
      have hhi : PO X y (rdO (Cxkw X) (callF c.T n) hi) := by
        cases y with
        | none =>
          cases hi with
          | non => exact so_none
          | _ => cases k3
        | some x =>
          simp only [Bool.and_eq_true, Bool.not_eq_true'] at k3
          exact so_some (sE hi h k3.2).1 k3.1
      exact SE.of (sn_sl (sE a h k1).1 hlo hhi) rfl
    · cases k
  | .rev a, c, n, X, e, h, k => by
    simp only [okE] at k
    split at k
    · simp only [Bool.and_eq_true] at k
      rw [eq_of_beq k.1]
      exact SE.of (sn_rev (sE a h k.2).1) rfl
    · cases k
  | .isi a t, c, n, X, e, h, k => by
    simp only [okE] at k
    split at k
    · rename_i f p l y p2 pos
      simp only [Bool.and_eq_true] at k
      obtain ⟨⟨⟨⟨⟨k1, k2⟩, k3⟩, k4⟩, k5⟩, k6⟩ := k
      obtain ⟨g1, g2, g3⟩ := blt_of h k2
      obtain ⟨q1, q2, q3⟩ := blt_of h k4
      rw [eq_of_beq k1]
      have hv : bootBuiltins y = some (.type (tyName t)) := by
        rw [eq_of_beq k3]
        cases t <;> decide +kernel
      exact SE.of (sn_isi g1 g2 q1 q2 hv (nm3 q3) (nm1 q3) (sE a h k6).1 (star_one k5)) rfl
    · cases k
  | .call f as, c, n, X, e, h, k => by
    simp only [okE] at k
    split at k
    · rename_i x p es pos
      split at k
      · rename_i d hd
        simp only [Bool.and_eq_true] at k
        obtain ⟨⟨⟨k1, k2⟩, k3⟩, k4⟩ := k
        obtain ⟨fa, fd, t1, t2, t3, t4⟩ := h.tab f d hd
        rw [eq_of_beq k1] at t1
        cases es with
        | nil =>
          cases as with
          | nil => exact SE.of (sn_call0 t4 h.room h.grd (gl_of h k2) t1 t2 t3 (nm1 k3)) rfl
          | cons a r => simp only [okA] at k4; cases k4
        | cons e1 es =>
          have hs := okA_stars k4
          simp only [starsOk, Bool.and_eq_true] at hs
          exact SE.of (sn_call t4 h.room h.grd (gl_of h k2) t1 t2 t3 (sA as h k4) (nm1 k3) (star_one hs.1) (star_any hs.2)) rfl
      · cases k
    · cases k
  | .blt f as, c, n, X, e, h, k => by
    simp only [okE] at k
    split at k
    · simp only [Bool.and_eq_true] at k
      obtain ⟨⟨⟨k1, k2⟩, k3⟩, k4⟩ := k
      rw [eq_of_beq k2] at k3 ⊢
      exact SE.of (blt_rule h k1 k3 (sA as h k4) (okA_stars k4)) rfl
    · cases k
  | .lens a, c, n, X, e, h, k => by
    simp only [okE] at k
    split at k
    · simp only [Bool.and_eq_true] at k
      obtain ⟨⟨⟨⟨⟨k1, k2⟩, k3⟩, k4⟩, k5⟩, k6⟩ := k
      obtain ⟨g1, g2, g3⟩ := blt_of h k2
      obtain ⟨g4, g5, g6⟩ := blt_of h k4
      rw [eq_of_beq k1, eq_of_beq k3]
      exact SE.of (sn_lens h.calm g1 g2 g4 g5 (sE a h k6).1 (star_one k5)) rfl
    · cases k
  | .sorts a, c, n, X, e, h, k => by
    simp only [okE] at k
    split at k
    · simp only [Bool.and_eq_true] at k
      obtain ⟨⟨⟨⟨⟨k1, k2⟩, k3⟩, k4⟩, k5⟩, k6⟩ := k
      obtain ⟨g1, g2, g3⟩ := blt_of h k2
      obtain ⟨g4, g5, g6⟩ := blt_of h k4
      rw [eq_of_beq k1, eq_of_beq k3]
      exact SE.of (sn_sorts h.calm g1 g2 g4 g5 (sE a h k6).1 (star_one k5)) rfl
    · cases k
  | .mth m o as, c, n, X, e, h, k => by
    simp only [okE] at k
    split at k
    · simp only [Bool.and_eq_true] at k
      obtain ⟨⟨⟨⟨⟨⟨k1, k2⟩, k3⟩, k4⟩, k5⟩, k6⟩, k7⟩ := k
      rw [eq_of_beq k2]
      exact SE.of (mth_rule h k1 k3 k4 (of_decide_eq_true k5) (sE o h k6).1 (sA as h k7) k7) rfl
    · cases k
  | .lk i a, c, n, X, e, h, k => by
    simp only [okE, Bool.and_eq_true] at k
    exact SE.of (sn_lk (sE a h k.2).1) k.1.2
  | .gc a, c, n, X, e, h, k => by
    simp only [okE, Bool.and_eq_true] at k
    have q := sE a h k.2
    exact ⟨sn_gc q.1, st_gc q.2.1, fun z => sw_gc (q.2.2 z)⟩
  | .lc own s g t x, c, n, X, e, h, k => by
    simp only [okE] at k
    split at k
    · rename_i elt tg iter ifs as scope pos
      simp only [Bool.and_eq_true] at k
      obtain ⟨⟨⟨⟨⟨⟨k1, k2⟩, k3⟩, k4⟩, k5⟩, k6⟩, k7⟩ := k
      have ka : as = 0 := eq_of_beq k1
      subst ka
      have ok : BlkOk X.N X.env.scope scope (ownOf c.N own) := by rw [h.hN, h.sc]; exact blkOk_by k2
      have hi := sI s h k3
      have hB := fun s' H' C cl fp => h.blk ok.kind s' H' C cl fp
      have ht : ∀ (s' : Shared) (H' : Hp) (C : Addr) (cl : List (Str × Addr)) (fp : List Addr), PTs (X.blk s' H' scope (compEnvC scope cl C X.env) fp) ifs (rdT (Cxkw X) (callF c.T n) t) := fun s' H' C cl fp => by
        cases ifs with
        | nil =>
          cases t with
          | bl b =>
            have kb : b = true := k6
            subst kb
            exact sts_nil
          | _ => cases k6
        | cons q r =>
          cases r with
          | nil => exact pts_one (sE t (hB s' H' C cl fp) k6).2.1
          | cons q2 r2 => cases k6
      have hg : ∀ (s' : Shared) (H' : Hp) (C : Addr) (cl : List (Str × Addr)) (fp : List Addr), PG (X.blk s' H' scope (compEnvC scope cl C X.env) fp) tg (rdN (Cxkw X) (callF c.T n) g own) := fun s' H' C cl fp => (sG g (hB s' H' C cl fp) k5).2 own k4
      have he : ∀ (s' : Shared) (H' : Hp) (C : Addr) (cl : List (Str × Addr)) (fp : List Addr), PE (X.blk s' H' scope (compEnvC scope cl C X.env) fp) elt (rdE (Cxkw X) (callF c.T n) x) := fun s' H' C cl fp => (sE x (hB s' H' C cl fp) k7).1
      refine SE.of (PE_imp (pe_lc h.calm (by rw [h.hN]; exact h.nd) hi.1 ok hg ht he (hi.2 _)) fun σ H Q q => ?_) rfl
      rw [own_map]
      exact lc_imp k4 q
    · cases k
  | .lc2 own own2 s g t s2 g2 t2 x, c, n, X, e, h, k => by
    simp only [okE] at k
    split at k
    · rename_i elt tg iter ifs as tg2 iter2 ifs2 as2 scope pos
      simp only [Bool.and_eq_true] at k
      obtain ⟨⟨⟨⟨⟨⟨⟨⟨⟨⟨⟨⟨k1, k1b⟩, k2⟩, k2b⟩, k3⟩, k4⟩, k5⟩, k6⟩, j3⟩, j4⟩, j5⟩, j6⟩, k7⟩ := k
      have ka : as = 0 := eq_of_beq k1
      subst ka
      have kb2 : as2 = 0 := eq_of_beq k1b
      subst kb2
      have ok : BlkOk X.N X.env.scope scope (ownOf c.N own) := by rw [h.hN, h.sc]; exact blkOk_by k2
      have hi := sI s h k3
      have hB := fun s' H' C cl fp => h.blk ok.kind s' H' C cl fp
      have ht : ∀ (s' : Shared) (H' : Hp) (C : Addr) (cl : List (Str × Addr)) (fp : List Addr), PTs (X.blk s' H' scope (compEnvC scope cl C X.env) fp) ifs (rdT (Cxkw X) (callF c.T n) t) := fun s' H' C cl fp => by
        cases ifs with
        | nil =>
          cases t with
          | bl b =>
            have kb : b = true := k6
            subst kb
            exact sts_nil
          | _ => cases k6
        | cons q r =>
          cases r with
          | nil => exact pts_one (sE t (hB s' H' C cl fp) k6).2.1
          | cons q2 r2 => cases k6
      have ht2 : ∀ (s' : Shared) (H' : Hp) (C : Addr) (cl : List (Str × Addr)) (fp : List Addr), PTs (X.blk s' H' scope (compEnvC scope cl C X.env) fp) ifs2 (rdT (Cxkw X) (callF c.T n) t2) := fun s' H' C cl fp => by
        cases ifs2 with
        | nil =>
          cases t2 with
          | bl b =>
            have kb : b = true := j6
            subst kb
            exact sts_nil
          | _ => cases j6
        | cons q r =>
          cases r with
          | nil => exact pts_one (sE t2 (hB s' H' C cl fp) j6).2.1
          | cons q2 r2 => cases j6
      have hv : ∀ i ∈ own2, i ∈ (ownOf c.N own).map (·.2) := fun i hi2 => by
        rw [own_map]
        have := List.all_eq_true.mp k2b i hi2
        simpa using this
      have hi2 : ∀ (s' : Shared) (H' : Hp) (C : Addr) (cl : List (Str × Addr)) (fp : List Addr), PI (X.blk s' H' scope (compEnvC scope cl C X.env) fp) tg2 iter2 (rdI (Cxkw X) (callF c.T n) s2) := fun s' H' C cl fp => (sI s2 (hB s' H' C cl fp) j3).1
      have hf2 := (sI s2 (hB X.s_0 X.H_0 0 [] []) j3).2
      have hg : ∀ (s' : Shared) (H' : Hp) (C : Addr) (cl : List (Str × Addr)) (fp : List Addr), PG (X.blk s' H' scope (compEnvC scope cl C X.env) fp) tg (rdN (Cxkw X) (callF c.T n) g own) := fun s' H' C cl fp => (sG g (hB s' H' C cl fp) k5).2 own k4
      have hg2 : ∀ (s' : Shared) (H' : Hp) (C : Addr) (cl : List (Str × Addr)) (fp : List Addr), PG (X.blk s' H' scope (compEnvC scope cl C X.env) fp) tg2 (rdN (Cxkw X) (callF c.T n) g2 own2) := fun s' H' C cl fp => (sG g2 (hB s' H' C cl fp) j5).2 own2 j4
      have he : ∀ (s' : Shared) (H' : Hp) (C : Addr) (cl : List (Str × Addr)) (fp : List Addr), PE (X.blk s' H' scope (compEnvC scope cl C X.env) fp) elt (rdE (Cxkw X) (callF c.T n) x) := fun s' H' C cl fp => (sE x (hB s' H' C cl fp) k7).1
      refine SE.of (PE_imp (pe_lc2 h.calm (by rw [h.hN]; exact h.nd) hi.1 ok hv hg ht hi2 hg2 ht2 he (hi.2 _) hf2) fun σ H Q q => ?_) rfl
      rw [own_map]
      exact lc2_imp q
    · cases k
theorem sA : ∀ (as : MA) {c : Ctx} {n : Nat} {X : Cx} {es : List Expr}, Cok c n X → okA c as es = true → PA X es (rdA (Cxkw X) (callF c.T n) as)
  | .nil, c, n, X, es, h, k => by
    simp only [okA] at k
    cases es with
    | nil => exact sa_nil
    | cons e r => cases k
  | .cons a r, c, n, X, es, h, k => by
    cases es with
    | nil => simp only [okA] at k; cases k
    | cons e rest =>
      simp only [okA, Bool.and_eq_true] at k
      exact sa_cons (sE a h k.1.2).1 (sA r h k.2) (star_one k.1.1)
theorem sI : ∀ (s : MI) {c : Ctx} {n : Nat} {X : Cx} {tg iter : Expr}, Cok c n X → okI c s tg iter = true → PI X tg iter (rdI (Cxkw X) (callF c.T n) s) ∧ ∀ env x, foldedSetIterable iter env x = pure x
  | .val e, c, n, X, tg, iter, h, k => by
    simp only [okI, Bool.and_eq_true] at k
    exact ⟨si_val (sE e h k.2).1, fun env x => fold_set k.1 x⟩
  | .zip a b, c, n, X, tg, iter, h, k => by
    simp only [okI] at k
    split at k
    · simp only [Bool.and_eq_true] at k
      obtain ⟨⟨⟨⟨⟨k1, k2⟩, k3⟩, k4⟩, k5⟩, k6⟩ := k
      obtain ⟨g1, g2, g3⟩ := blt_of h k2
      rw [eq_of_beq k1]
      exact ⟨si_zip g1 g2 (sE a h k5).1 (sE b h k6).1 (star_one k3) (star_one k4), fun env x => rfl⟩
    · cases k
  | .enum a, c, n, X, tg, iter, h, k => by
    simp only [okI] at k
    split at k
    · simp only [Bool.and_eq_true] at k
      obtain ⟨⟨⟨k1, k2⟩, k3⟩, k4⟩ := k
      obtain ⟨g1, g2, g3⟩ := blt_of h k2
      rw [eq_of_beq k1]
      exact ⟨si_enum g1 g2 (sE a h k4).1 (star_one k3), fun env x => rfl⟩
    · cases k
  | .items a, c, n, X, tg, iter, h, k => by
    simp only [okI] at k
    split at k
    · simp only [Bool.and_eq_true] at k
      obtain ⟨⟨⟨k1, k2⟩, k3⟩, k4⟩ := k
      rw [eq_of_beq k1]
      exact ⟨si_items (sE a h k4).1 (base_plain k2 _) k3, fun env x => rfl⟩
    · cases k
  | .values a, c, n, X, tg, iter, h, k => by
    simp only [okI] at k
    split at k
    · simp only [Bool.and_eq_true] at k
      obtain ⟨⟨⟨k1, k2⟩, k3⟩, k4⟩ := k
      rw [eq_of_beq k1]
      exact ⟨si_values (sE a h k4).1 (base_plain k2 _) k3, fun env x => rfl⟩
    · cases k
  | .keys e, c, n, X, tg, iter, h, k => by
    simp only [okI, Bool.and_eq_true] at k
    exact ⟨si_keys (sE e h k.2).1, fun env x => fold_set k.1 x⟩
theorem sG : ∀ (g : MG) {c : Ctx} {n : Nat} {X : Cx} {tg : Expr}, Cok c n X → okG c g tg = true → PG X tg (rdG (Cxkw X) (callF c.T n) g) ∧ ∀ vs, namesIn vs g = true → PG X tg (rdN (Cxkw X) (callF c.T n) g vs)
  | .nm i, c, n, X, tg, h, k => by
    simp only [okG] at k
    split at k
    · rename_i x p
      simp only [Bool.and_eq_true, Bool.or_eq_true] at k
      obtain ⟨⟨k1, k2⟩, k3⟩ := k
      have hi : X.N[i]? = some x := by rw [h.hN]; exact eq_of_beq k1
      have hl : Loc X.env.scope x := by rw [h.sc]; exact loc_of k2
      have hf : X.fn x = true ∨ X.env.scope.names.lookup x = some .local := by
        rcases k3 with z | z
        · exact .inl (by rw [h.fn]; exact z)
        · refine .inr ?_
          rw [h.sc]
          unfold isLocal at z
          split at z
          · assumption
          · cases z
      have nd : X.N.Nodup := by rw [h.hN]; exact h.nd
      refine ⟨sg_nm nd hi hl hf, fun vs hv => sN_nm nd hi hl hf ?_⟩
      simpa [namesIn] using hv
    · cases k
  | .tup gs, c, n, X, tg, h, k => by
    simp only [okG] at k
    split at k
    · obtain ⟨l1, l2⟩ := gs_len (env := X.env) k
      have hs := sGs gs h k
      exact ⟨sg_tup h.calm hs.1 l1 l2, fun vs hv => sN_tup h.calm (hs.2 vs (by simpa [namesIn] using hv)) l1 l2⟩
    · cases k
  | .sub o i, c, n, X, tg, h, k => by
    simp only [okG] at k
    split at k
    · simp only [Bool.and_eq_true] at k
      exact ⟨sg_sub h.room (sE o h k.1.2).1 (sE i h k.2).1 (as_sub k.1.1), fun vs hv => by simp only [namesIn] at hv; cases hv⟩
    · cases k
theorem sGs : ∀ (gs : MGs) {c : Ctx} {n : Nat} {X : Cx} {ts : List Expr}, Cok c n X → okGs c gs ts = true → PGs X ts (rdGs (Cxkw X) (callF c.T n) gs) ∧ ∀ vs, namesIns vs gs = true → PGs X ts (rdNs (Cxkw X) (callF c.T n) gs vs)
  | .nil, c, n, X, ts, h, k => by
    simp only [okGs] at k
    cases ts with
    | nil => exact ⟨sgs_nil, fun vs _ => sNs_nil⟩
    | cons e r => cases k
  | .cons g r, c, n, X, ts, h, k => by
    cases ts with
    | nil => simp only [okGs] at k; cases k
    | cons t rest =>
      simp only [okGs, Bool.and_eq_true] at k
      have h1 := sG g h k.1.2
      have h2 := sGs r h k.2
      refine ⟨sgs_cons h1.1 h2.1 (as_one k.1.1), fun vs hv => ?_⟩
      simp only [namesIns, Bool.and_eq_true] at hv
      exact sNs_cons hv.1 (h1.2 vs hv.1) (h2.2 vs hv.2) (as_one k.1.1)
end
end Mp

set_option Elab.async false
set_option linter.all false
set_option maxRecDepth 100000
set_option maxHeartbeats 4000000
/-! Mp, part Q: statements and defs: the check is sound. -/
namespace Mp
open PySem PySem.Spec PyProof.Rows L2
/-! ### how a call binds -/
theorem zip_look : ∀ (ps : List Str) (us : List Value), ps.Nodup → us.length = ps.length → ∀ pre : List (Str × Value), (∀ q ∈ pre, q.1 ∉ ps) → ps.filterMap (fun n => ((pre ++ ps.zip us).lookup n).map fun v => (n, v)) = ps.zip us
  | [], us, _, _, pre, _ => by simp
  | p :: ps, [], _, hl, _, _ => by simp at hl
  | p :: ps, u :: us, hn, hl, pre, hp => by
    have h1 : ∀ l : List (Str × Value), (∀ q ∈ l, q.1 ∉ p :: ps) → ∀ r, (l ++ r).lookup p = r.lookup p := by
      intro l
      induction l with
      | nil => intro _ r; rfl
      | cons a l ih =>
        intro hq r
        have ha : (p == a.1) = false := by
          have := hq a (List.mem_cons_self ..)
          simp only [List.mem_cons, not_or] at this
          exact beq_eq_false_iff_ne.mpr (Ne.symm this.1)
        obtain ⟨a1, a2⟩ := a
        rw [List.cons_append, List.lookup_cons]
        simp only at ha
        rw [ha]
        exact ih (fun q hq' => hq q (List.mem_cons_of_mem _ hq')) r
    have hn2 := List.nodup_cons.mp hn
    rw [List.filterMap_cons, h1 pre hp]
    simp only [List.zip_cons_cons, List.lookup_cons, beq_self_eq_true, Option.map_some]
    congr 1
    have := zip_look ps us hn2.2 (by simpa using hl) (pre ++ [(p, u)]) (fun q hq => by
      rcases List.mem_append.mp hq with z | z
      · intro hh
        exact hp q z (List.mem_cons_of_mem _ hh)
      · rw [List.mem_singleton.mp z]
        exact hn2.1)
    simpa using this
theorem none_missing (ps : List Str) (us : List Value) (hl : us.length = ps.length) : ps.filter (fun n => ((ps.zip us).lookup n).isNone) = [] := by
  rw [List.filter_eq_nil_iff]
  have : ∀ (ps : List Str) (us : List Value), us.length = ps.length → ∀ n ∈ ps, ((ps.zip us).lookup n).isNone = false := by
    intro ps
    induction ps with
    | nil => intro us _ n h; cases h
    | cons p ps ih =>
      intro us hl n h
      cases us with
      | nil => simp at hl
      | cons u us =>
        simp only [List.zip_cons_cons, List.lookup_cons]
        cases e : (n == p) with
        | true => rfl
        | false =>
          rcases List.mem_cons.mp h with z | z
          · rw [z] at e; simp at e
          · exact ih us (by simpa using hl) n z
  intro n hn
  rw [this ps us hl n hn]; simp
theorem bind_gen {x q : Str} {args : List Arg} {body : List Stmt} {scope : Scope} {kV doc pm : Value} {an : Option Addr} {cdv ct : Value} {us : List Value} (hn : (args.map (·.arg)).Nodup) (hl : us.length = args.length) :
  bindArgs (PySem.W.fnOf x q ⟨[], args, none, [], [], none, []⟩ body scope .none kV doc pm an cdv ct) ⟨us, []⟩ = pure ((args.map (·.arg)).zip us) := by
  have hl2 : us.length = (args.map (·.arg)).length := by simpa using hl
  have hm := none_missing (args.map (·.arg)) us hl2
  have hz := zip_look (args.map (·.arg)) us hn hl2 [] (fun _ h => by cases h)
  rw [List.nil_append] at hz
  have hs : seqItems? Value.none = pure none := rfl
  unfold bindArgs
  simp only [PySem.W.fnOf, List.map_nil, List.nil_append, List.append_nil]
  generalize args.map (·.arg) = ps at *
  simp only [List.forIn_nil, pure_bind, hs, Option.getD_none, List.length_nil, Nat.zero_sub, List.drop_nil, Nat.sub_zero, List.take_length, List.zip_nil_right, hm, List.isEmpty_nil, Bool.not_true, Bool.false_eq_true, if_false, hl2, Nat.lt_irrefl, decide_false, Bool.false_and, gt_iff_lt, hz, List.drop_length, List.zip_nil_left]

/-! ### assignments to tuples -/
def isStarred : Expr → Bool
  | .Starred _ _ => true
  | _ => false
def nmOf (sc : Scope) (line : Nat) : Expr → Option Str
  | .Name id pos => if sc.names.lookup id == some .local && pos.line == line then some id else none
  | _ => none
def swT (sc : Scope) (ts vs : List Expr) : Option (Option (List Str)) :=
  if (!(ts.length == 2 || ts.length == 3) || vs.length != ts.length) = true then some none
  else if vs.any isStarred = true then some none
  else if ((ts.filterMap (nmOf sc ((ts.head?.map (·.pos.line)).getD 0))).length != ts.length || (ts.filterMap (nmOf sc ((ts.head?.map (·.pos.line)).getD 0))).eraseDups.length != (ts.filterMap (nmOf sc ((ts.head?.map (·.pos.line)).getD 0))).length) = true then some none
  else if vs.all (foldedForSure 8) = true then some none
  else if vs.all (constantsAlone 8) = true then none else some (some (ts.filterMap (nmOf sc ((ts.head?.map (·.pos.line)).getD 0))))
theorem bk_fun {env : PySem.Env} (h : env.scope.kind = .function) : env.blockKind = .function := by
  unfold Env.blockKind; rw [h]; rfl
def swNames (sc : Scope) (ts : List Expr) : List Str := ts.filterMap (nmOf sc ((ts.head?.map (·.pos.line)).getD 0))
def swS (sc : Scope) (ts vs : List Expr) : Sem (Option (List Str)) :=
  if (!(ts.length == 2 || ts.length == 3) || vs.length != ts.length) = true then pure none
  else if vs.any isStarred = true then pure none
  else if ((swNames sc ts).length != ts.length || (swNames sc ts).eraseDups.length != (swNames sc ts).length) = true then pure none
  else if vs.all (foldedForSure 8) = true then pure none
  else if vs.all (constantsAlone 8) = true then (do unsupported "assign.tuple-of-constant-expressions:order-of-the-stores"; pure (some (swNames sc ts))) else pure (some (swNames sc ts))
theorem sw_eq {env : PySem.Env} {ts vs : List Expr} {k k2 : Nat} {p p2 : Pos} {r : Option (List Str)} (hk : env.scope.kind = .function) (h : swT env.scope ts vs = some r) :
    swappedStores [.Tuple ts k p] (.Tuple vs k2 p2) env = pure r := by
  have hb := bk_fun hk
  have e : swappedStores [.Tuple ts k p] (.Tuple vs k2 p2) env = swS env.scope ts vs := by
    unfold swappedStores swS
    simp only [hb, bne_self_eq_false, Bool.or_false]
    rfl
  rw [e]
  unfold swT at h
  unfold swS
  change (if _ then _ else if _ then _ else if ((swNames env.scope ts).length != ts.length || (swNames env.scope ts).eraseDups.length != (swNames env.scope ts).length) = true then _ else if _ then _ else if _ then _ else some (some (swNames env.scope ts))) = _ at h
  split at h
  · rename_i c1
    cases h
    rw [if_pos c1]
  · rename_i c1
    rw [if_neg c1]
    split at h
    · rename_i c2
      cases h
      rw [if_pos c2]
    · rename_i c2
      rw [if_neg c2]
      split at h
      · rename_i c3
        cases h
        rw [if_pos c3]
      · rename_i c3
        rw [if_neg c3]
        split at h
        · rename_i c4
          cases h
          rw [if_pos c4]
        · rename_i c4
          rw [if_neg c4]
          split at h
          · cases h
          · rename_i c5
            cases h
            rw [if_neg c5]
end Mp

set_option Elab.async false
set_option linter.all false
set_option maxRecDepth 100000
set_option maxHeartbeats 4000000
/-! Mp, part R: statements: the check and that it is sound. -/
namespace Mp
open PySem PySem.Spec PyProof.Rows L2
def swB (sc scope : Scope) (py pos : Pos) (y : Str) : Bool := isLocal sc y && (py.line == pos.line) && !(scope.names.any fun (n, k) => n == y && (k == .local || k == .cell))
def isSN : Option (Option (List Str)) → Bool
  | some none => true
  | _ => false
def isSS (o : Option (Option (List Str))) (xs : List Str) : Bool := match o with
  | some (some ys) => ys == xs
  | _ => false
def sideOk (sc : Scope) : Expr → Expr → Bool
  | _, .ListComp _ _ _ _ => true
  | _, .SetComp _ _ _ _ => false
  | _, .DictComp _ _ _ _ _ => false
  | .Tuple ts _ _, .Tuple vs _ _ => isSN (swT sc ts vs)
  | .List _ _, _ => false
  | _, _ => true
mutual
def okS (c : Ctx) : MS → Stmt → Bool
  | .asg g m, st => (match st with
    | .Assign [tg] e _ => okE c m e && okG c g tg && sideOk c.sc tg e
    | _ => false)
  | .par is as, st => (match st with
    | .Assign [.Tuple [.Name x px, .Name y py] kt pt] (.Tuple [a, b] k2 pt2) _ => (match is with
      | [i, j] => (c.N[i]? == some x) && (c.N[j]? == some y) && !(i == j) && isLocal c.sc x && isLocal c.sc y && okA c as [a, b] && isSS (swT c.sc [.Name x px, .Name y py] [a, b]) [x, y]
      | _ => false)
    | .Assign [.Tuple [.Name x px, .Name y py, .Name z pz] kt pt] (.Tuple [a, b, d] k2 pt2) _ => (match is with
      | [i, j, l] => (c.N[i]? == some x) && (c.N[j]? == some y) && (c.N[l]? == some z) && !(i == j) && !(i == l) && !(j == l) && isLocal c.sc x && isLocal c.sc y && isLocal c.sc z && okA c as [a, b, d] && isSS (swT c.sc [.Name x px, .Name y py, .Name z pz] [a, b, d]) [x, y, z]
      | _ => false)
    | _ => false)
  | .exp m, st => (match st with
    | .Expr e _ => notComp e && okE c m e
    | _ => false)
  | .ret m, st => (match st with
    | .Return (some e) _ => okE c m e
    | .Return none _ => isNon m
    | _ => false)
  | .ifs m a b, st => (match st with
    | .If t x y _ => okE c m t && okB c a x && okB c b y
    | _ => false)
  | .whl m b, st => (match st with
    | .While t x [] _ => okE c m t && okB c b x
    | _ => false)
  | .for_ s g b, st => (match st with
    | .For tg iter x [] _ => okI c s tg iter && okG c g tg && okB c b x
    | _ => false)
  | .lk _ a, st => okS c a st
  | .raise _ _, _ => true
  | .pass, st => (match st with
    | .Pass _ => true
    | _ => false)
def okB (c : Ctx) : MB → List Stmt → Bool
  | .nil, ss => ss.isEmpty
  | .cons s r, ss => (match ss with
    | st :: rest => okS c s st && okB c r rest
    | [] => false)
  | .gcs _ r, ss => okB c r ss
end
theorem loc_is {sc : Scope} {x : Str} (h : isLocal sc x = true) : sc.names.lookup x = some .local := by
  unfold isLocal at h
  split at h
  · assumption
  · cases h
theorem sw_no {e : Expr} {tg : Option Expr} {l : Nat} {env : PySem.Env} (h : notComp e = true) : swapsWith e tg l env = pure false := by
  cases e <;> first | rfl | cases h
theorem sw_false {elt : Expr} {gs : List Comprehension} {scope : Scope} {pos py : Pos} {y : Str} {l : Nat} {env : PySem.Env} (hk : env.scope.kind = .function) (hb : swB env.scope scope py pos y = false) : swapsWith (.ListComp elt gs scope pos) (some (.Name y py)) l env = pure false := by
  have hbk := bk_fun hk
  have e : swapsWith (.ListComp elt gs scope pos) (some (.Name y py)) l env = pure (env.blockKind == .function && env.kindOf y == some .local && py.line == pos.line
      && !(scope.names.any fun (n, k) => n == y && (k == .local || k == .cell))) := rfl
  rw [e, hbk]
  congr 1
  unfold swB isLocal at hb
  have ky : env.kindOf y = env.scope.names.lookup y := rfl
  rw [ky]
  split at hb
  · rename_i q
    rw [q]
    simpa using hb
  · rename_i q
    have : (env.scope.names.lookup y == some NameKind.local) = false := by
      apply beq_eq_false_iff_ne.mpr
      exact q
    rw [this]
    rfl
theorem swB_true {sc scope : Scope} {pos py : Pos} {y : Str} (h : swB sc scope py pos y = true) : sc.names.lookup y = some .local ∧ (py.line == pos.line) = true ∧ (scope.names.any fun (n, k) => n == y && (k == .local || k == .cell)) = false := by
  unfold swB at h
  simp only [Bool.and_eq_true, Bool.not_eq_true'] at h
  exact ⟨loc_is h.1.1, h.1.2, h.2⟩
theorem okG_star {c : Ctx} {g : MG} {tg : Expr} (h : okG c g tg = true) : notStar tg = true := by
  cases tg with
  | Starred a b =>
    cases g with
    | nm i => simp only [okG] at h; cases h
    | tup gs => simp only [okG] at h; cases h
    | sub o i => simp only [okG] at h; cases h
  | _ => rfl
theorem ss_none {tg e : Expr} {env : PySem.Env} {sc : Scope} (hk : env.scope.kind = .function) (he : env.scope = sc) (h : sideOk sc tg e = true) : swappedStores [tg] e env = pure none := by
  subst he
  cases e with
  | Tuple vs k p =>
    cases tg with
    | Tuple ts k2 p2 =>
      have h : isSN (swT env.scope ts vs) = true := h
      refine sw_eq hk ?_
      unfold isSN at h
      split at h
      · assumption
      · cases h
    | List a b => cases h
    | _ => rfl
  | SetComp _ _ _ _ => cases h
  | DictComp _ _ _ _ _ => cases h
  | ListComp _ _ _ _ => cases tg <;> rfl
  | _ => cases tg <;> first | rfl | cases h
theorem set_lc {m : ME} {c : Ctx} {n : Nat} {X : Cx} {elt : Expr} {gs : List Comprehension} {scope : Scope} {pos py spos : Pos} {y : Str} {i : Nat} (h : Cok c n X) (k : okE c m (.ListComp elt gs scope pos) = true) (hy : X.N[i]? = some y) (hs : swB X.env.scope scope py pos y = true) :
    PS X (.Assign [.Name y py] (.ListComp elt gs scope pos) spos) (rdS (Cxkw X) (callF c.T n) (.asg (.nm i) m)) := by
  obtain ⟨hyl, hl, hn⟩ := swB_true hs
  have hk : X.env.scope.kind = .function := by rw [h.sc]; exact h.kind
  cases m with
  | lc own s g t x =>
    simp only [okE] at k
    split at k
    · rename_i elt' tg iter ifs as scope' pos' heq
      cases heq
      simp only [Bool.and_eq_true] at k
      obtain ⟨⟨⟨⟨⟨⟨k1, k2⟩, k3⟩, k4⟩, k5⟩, k6⟩, k7⟩ := k
      have ka : as = 0 := eq_of_beq k1
      subst ka
      have ok : BlkOk X.N X.env.scope scope (ownOf c.N own) := by rw [h.hN, h.sc]; exact blkOk_by k2
      have hi := sI s h k3
      have hB := fun s' H' C cl fp => h.blk ok.kind s' H' C cl fp
      have ht : ∀ (s' : Shared) (H' : Hp) (C : Addr) (cl : List (Str × Addr)) (fp : List Addr), PTs (X.blk s' H' scope (compEnvC scope cl C X.env) fp) ifs (rdT (Cxkw X) (callF c.T n) t) := fun s' H' C cl fp => by
        cases ifs with
        | nil =>
          cases t with
          | bl b =>
            have kb : b = true := k6
            subst kb
            exact sts_nil
          | _ => cases k6
        | cons q r =>
          cases r with
          | nil => exact pts_one (sE t (hB s' H' C cl fp) k6).2.1
          | cons q2 r2 => cases k6
      have hg : ∀ (s' : Shared) (H' : Hp) (C : Addr) (cl : List (Str × Addr)) (fp : List Addr), PG (X.blk s' H' scope (compEnvC scope cl C X.env) fp) tg (rdN (Cxkw X) (callF c.T n) g own) := fun s' H' C cl fp => (sG g (hB s' H' C cl fp) k5).2 own k4
      have he : ∀ (s' : Shared) (H' : Hp) (C : Addr) (cl : List (Str × Addr)) (fp : List Addr), PE (X.blk s' H' scope (compEnvC scope cl C X.env) fp) elt (rdE (Cxkw X) (callF c.T n) x) := fun s' H' C cl fp => (sE x (hB s' H' C cl fp) k7).1
      refine PS_imp (ps_setLc h.calm (by rw [h.hN]; exact h.nd) hy hyl (sw_true hk hyl hl hn) hi.1 ok hg ht he (hi.2 _)) fun D σ H q => ?_
      rw [own_map]
      exact tAsg_imp (fun σ H Q q => lc_imp k4 q) (asg_nm q)
    · cases k
  | lc2 own own2 s g t s2 g2 t2 x =>
    simp only [okE] at k
    split at k
    · rename_i elt' tg iter ifs as tg2 iter2 ifs2 as2 scope' pos' heq
      cases heq
      simp only [Bool.and_eq_true] at k
      obtain ⟨⟨⟨⟨⟨⟨⟨⟨⟨⟨⟨⟨k1, k1b⟩, k2⟩, k2b⟩, k3⟩, k4⟩, k5⟩, k6⟩, j3⟩, j4⟩, j5⟩, j6⟩, k7⟩ := k
      have ka : as = 0 := eq_of_beq k1
      subst ka
      have kb2 : as2 = 0 := eq_of_beq k1b
      subst kb2
      have ok : BlkOk X.N X.env.scope scope (ownOf c.N own) := by rw [h.hN, h.sc]; exact blkOk_by k2
      have hi := sI s h k3
      have hB := fun s' H' C cl fp => h.blk ok.kind s' H' C cl fp
      have ht : ∀ (s' : Shared) (H' : Hp) (C : Addr) (cl : List (Str × Addr)) (fp : List Addr), PTs (X.blk s' H' scope (compEnvC scope cl C X.env) fp) ifs (rdT (Cxkw X) (callF c.T n) t) := fun s' H' C cl fp => by
        cases ifs with
        | nil =>
          cases t with
          | bl b =>
            have kb : b = true := k6
            subst kb
            exact sts_nil
          | _ => cases k6
        | cons q r =>
          cases r with
          | nil => exact pts_one (sE t (hB s' H' C cl fp) k6).2.1
          | cons q2 r2 => cases k6
      have ht2 : ∀ (s' : Shared) (H' : Hp) (C : Addr) (cl : List (Str × Addr)) (fp : List Addr), PTs (X.blk s' H' scope (compEnvC scope cl C X.env) fp) ifs2 (rdT (Cxkw X) (callF c.T n) t2) := fun s' H' C cl fp => by
        cases ifs2 with
        | nil =>
          cases t2 with
          | bl b =>
            have kb : b = true := j6
            subst kb
            exact sts_nil
          | _ => cases j6
        | cons q r =>
          cases r with
          | nil => exact pts_one (sE t2 (hB s' H' C cl fp) j6).2.1
          | cons q2 r2 => cases j6
      have hv : ∀ i ∈ own2, i ∈ (ownOf c.N own).map (·.2) := fun i hi2 => by
        rw [own_map]
        have := List.all_eq_true.mp k2b i hi2
        simpa using this
      have hi2 : ∀ (s' : Shared) (H' : Hp) (C : Addr) (cl : List (Str × Addr)) (fp : List Addr), PI (X.blk s' H' scope (compEnvC scope cl C X.env) fp) tg2 iter2 (rdI (Cxkw X) (callF c.T n) s2) := fun s' H' C cl fp => (sI s2 (hB s' H' C cl fp) j3).1
      have hf2 := (sI s2 (hB X.s_0 X.H_0 0 [] []) j3).2
      have hg : ∀ (s' : Shared) (H' : Hp) (C : Addr) (cl : List (Str × Addr)) (fp : List Addr), PG (X.blk s' H' scope (compEnvC scope cl C X.env) fp) tg (rdN (Cxkw X) (callF c.T n) g own) := fun s' H' C cl fp => (sG g (hB s' H' C cl fp) k5).2 own k4
      have hg2 : ∀ (s' : Shared) (H' : Hp) (C : Addr) (cl : List (Str × Addr)) (fp : List Addr), PG (X.blk s' H' scope (compEnvC scope cl C X.env) fp) tg2 (rdN (Cxkw X) (callF c.T n) g2 own2) := fun s' H' C cl fp => (sG g2 (hB s' H' C cl fp) j5).2 own2 j4
      have he : ∀ (s' : Shared) (H' : Hp) (C : Addr) (cl : List (Str × Addr)) (fp : List Addr), PE (X.blk s' H' scope (compEnvC scope cl C X.env) fp) elt (rdE (Cxkw X) (callF c.T n) x) := fun s' H' C cl fp => (sE x (hB s' H' C cl fp) k7).1
      refine PS_imp (ps_setLc2 h.calm (by rw [h.hN]; exact h.nd) hy hyl (sw_true hk hyl hl hn) hi.1 ok hv hg ht hi2 hg2 ht2 he (hi.2 _) hf2) fun D σ H q => ?_
      rw [own_map]
      exact tAsg_imp (fun σ H Q q => lc2_imp q) (asg_nm q)
    · cases k
  | _ => simp only [okE] at k <;> cases k
theorem s_asg {m : ME} {g : MG} {c : Ctx} {n : Nat} {X : Cx} {tg e : Expr} {spos : Pos} (h : Cok c n X) (k1 : okE c m e = true) (k2 : okG c g tg = true) (k3 : sideOk c.sc tg e = true) : PS X (.Assign [tg] e spos) (rdS (Cxkw X) (callF c.T n) (.asg g m)) := by
  have hk : X.env.scope.kind = .function := by rw [h.sc]; exact h.kind
  have plain : swapsWith e (some tg) spos.line X.env = pure false → PS X (.Assign [tg] e spos) (rdS (Cxkw X) (callF c.T n) (.asg g m)) := fun hs =>
    ss_asg (sE m h k1).1 (sG g h k2).1 hs (ss_none hk h.sc k3) (as_one (okG_star k2))
  cases e with
  | ListComp elt gs scope pos =>
    cases tg with
    | Name y py =>
      cases hb : swB X.env.scope scope py pos y with
      | false => exact plain (sw_false hk hb)
      | true =>
        cases g with
        | nm i =>
          refine set_lc h k1 ?_ hb
          simp only [okG, Bool.and_eq_true] at k2
          rw [h.hN]
          exact eq_of_beq k2.1.1
        | tup gs => simp only [okG] at k2; cases k2
        | sub o i => simp only [okG] at k2; cases k2
    | _ => exact plain rfl
  | SetComp _ _ _ _ => cases k3
  | DictComp _ _ _ _ _ => cases k3
  | _ => exact plain (sw_no rfl)
theorem PS_never {X : Cx} {st : Stmt} {t : TS} (h : ∀ D σ H, ¬ t D σ H) : PS X st t := ⟨fun pins s σ H D I q => (h D σ H q).elim⟩
mutual
theorem sS : ∀ (s : MS) {c : Ctx} {n : Nat} {X : Cx} {st : Stmt}, PassesOwn (model X.prog X.w) X.A X.env X.xe → Cok c n X → okS c s st = true → PS X st (rdS (Cxkw X) (callF c.T n) s)
  | .asg g m, c, n, X, st, hp, h, k => by
    simp only [okS] at k
    split at k
    · simp only [Bool.and_eq_true] at k
      exact s_asg h k.1.1 k.1.2 k.2
    · cases k
  | .par is as, c, n, X, st, hp, h, k => by
    have hk : X.env.scope.kind = .function := by rw [h.sc]; exact h.kind
    have nd : X.N.Nodup := by rw [h.hN]; exact h.nd
    simp only [okS] at k
    split at k
    · split at k
      · rename_i i j
        simp only [Bool.and_eq_true, Bool.not_eq_true'] at k
        obtain ⟨⟨⟨⟨⟨⟨k1, k2⟩, k3⟩, k4⟩, k5⟩, k6⟩, k7⟩ := k
        refine ss_par2 h.calm nd (by rw [h.hN]; exact eq_of_beq k1) (by rw [h.hN]; exact eq_of_beq k2) (by simpa using k3) (by rw [h.sc]; exact loc_is k4) (by rw [h.sc]; exact loc_is k5) (sA as h k6) (sw_eq hk ?_)
        rw [h.sc]
        unfold isSS at k7
        split at k7
        · rename_i q
          rw [q, eq_of_beq k7]
        · cases k7
      · cases k
    · split at k
      · rename_i i j l
        simp only [Bool.and_eq_true, Bool.not_eq_true'] at k
        obtain ⟨⟨⟨⟨⟨⟨⟨⟨⟨⟨k1, k2⟩, k3⟩, k4⟩, k5⟩, k6⟩, k7⟩, k8⟩, k9⟩, k10⟩, k11⟩ := k
        refine ss_par3 h.calm nd (by rw [h.hN]; exact eq_of_beq k1) (by rw [h.hN]; exact eq_of_beq k2) (by rw [h.hN]; exact eq_of_beq k3) (by simpa using k4) (by simpa using k5) (by simpa using k6) (by rw [h.sc]; exact loc_is k7) (by rw [h.sc]; exact loc_is k8) (by rw [h.sc]; exact loc_is k9) (sA as h k10) (sw_eq hk ?_)
        rw [h.sc]
        unfold isSS at k11
        split at k11
        · rename_i q
          rw [q, eq_of_beq k11]
        · cases k11
      · cases k
    · cases k
  | .exp m, c, n, X, st, hp, h, k => by
    simp only [okS] at k
    split at k
    · simp only [Bool.and_eq_true] at k
      exact ss_exp (sE m h k.2).1 (sw_no k.1)
    · cases k
  | .ret m, c, n, X, st, hp, h, k => by
    simp only [okS] at k
    split at k
    · exact ss_ret (sE m h k).1
    · cases m with
      | non => exact ss_retN
      | _ => cases k
    · cases k
  | .ifs m a b, c, n, X, st, hp, h, k => by
    simp only [okS] at k
    split at k
    · simp only [Bool.and_eq_true] at k
      exact ss_ifs (sE m h k.1.1).2.1 (sB a hp h k.1.2) (sB b hp h k.2)
    · cases k
  | .whl m b, c, n, X, st, hp, h, k => by
    simp only [okS] at k
    split at k
    · simp only [Bool.and_eq_true] at k
      exact ss_whl hp (sE m h k.1).2.1 (sB b hp h k.2)
    · cases k
  | .for_ s g b, c, n, X, st, hp, h, k => by
    simp only [okS] at k
    split at k
    · simp only [Bool.and_eq_true] at k
      have hi := sI s h k.1.1
      exact ss_for hp h.calm hi.1 (sG g h k.1.2).1 (sB b hp h k.2) (hi.2 _)
    · cases k
  | .lk i a, c, n, X, st, hp, h, k => by
    simp only [okS] at k
    exact ss_lk (sS a hp h k)
  | .raise _ _, c, n, X, st, hp, h, k => PS_never fun D σ H ⟨env, S, m, m0, fl, env2, S', rs, re, p0, e, f⟩ => by
    simp only [evS] at e
    cases e
  | .pass, c, n, X, st, hp, h, k => by
    simp only [okS] at k
    split at k
    · exact ss_pass
    · cases k
theorem sB : ∀ (b : MB) {c : Ctx} {n : Nat} {X : Cx} {ss : List Stmt}, PassesOwn (model X.prog X.w) X.A X.env X.xe → Cok c n X → okB c b ss = true → PSs X ss (rdB (Cxkw X) (callF c.T n) b)
  | .nil, c, n, X, ss, hp, h, k => by
    simp only [okB] at k
    cases ss with
    | nil => exact sb_nil
    | cons e r => cases k
  | .cons s r, c, n, X, ss, hp, h, k => by
    cases ss with
    | nil => simp only [okB] at k; cases k
    | cons st rest =>
      simp only [okB, Bool.and_eq_true] at k
      exact sb_cons (sS s hp h k.1) (sB r hp h k.2)
  | .gcs sl r, c, n, X, ss, hp, h, k => by
    simp only [okB] at k
    exact sb_gcs (sB r hp h k)
end
end Mp

set_option Elab.async false
set_option linter.all false
set_option maxRecDepth 100000
set_option maxHeartbeats 4000000
/-! Mp, part S: defs, the table of a text's defs. -/
namespace Mp
open PySem PySem.Spec PyProof.Rows L2
/-- a def by its body, where no text is being shown -/
theorem fnG_of {P : Program} {w : World} {K : PySem.W.Frag} {mg : Str → Option Value} {base : Heap} {n : Nat} {fa : Addr} {nm qu : Str} {pa : Arguments} {bd : List Stmt} {sc : Scope} {v1 v2 v3 v4 cv v5 oc : Value} {an od : Option Addr}
    {sl : Array (Option Value)} {N ps : List Str} {sp : Sp} (lk : K.lookup fa = some ⟨oc, od, .func (PySem.W.fnOf nm qu pa bd sc v1 v2 v3 v4 an cv v5), sl⟩) (hc : PySem.W.codeIn K cv qu = true) (S : FnScope N ps sc)
    (len : ∀ vs H Q E, sp vs H Q E → vs.length = ps.length)
    (hb : ∀ (A : Around) (outer : List PySem.Env) (s : Shared) (H : Hp) (vs : List V) (Q : VK) (E : XK), Room n (A.deeper (envOfC qu sc s.heap.objs.size fa cv)) → A.guards = some [] → sp vs H Q E →
      ∃ t, PSs (cxOf CX0 P w K mg base N qu sc fa cv A outer s H E).nox bd t ∧ t { nx := fun _ H' => Q .non H', rt := Q } (start N vs) H) :
    FnG P w K mg base (n + 1) fa (PySem.W.fnOf nm qu pa bd sc v1 v2 v3 v4 an cv v5) ps sp where
  len := len
  run := fun A outer s H args us vs Q E hr hgd e0 bt rv hsp => by
    have inK : K.In s.heap := e0.mod.kin.keeps fun b o z => (e0.bs b o z).1
    have nolim : s.heap.NoLimit := e0.mod.nolimit.keeps fun b o z => (e0.bs b o z).1
    have kinds : ∀ q ∈ ps.zip us, sc.names.lookup q.1 = some .local ∨ (sc.names.lookup q.1 = some .cell ∧ ((cellsFrom (s.heap.objs.size + 1) sc.names []).lookup q.1).isSome = true) := by
      rintro ⟨y, u⟩ hq
      rcases S.par y (List.of_mem_zip hq).1 with z | z
      · exact .inl z
      · exact .inr ⟨z, PySem.W.cellsFrom_some _ _ _ (.inl z)⟩
    refine codeAny_call_function hr.depth (inK _ _ lk) rfl S.co S.gen rfl (PySem.W.codeRec_of inK hc) (bt _ _ _ _ (wpAny_newFunctionEnv_cells S.kind kinds fun env he s1 x => ?_))
    subst he
    refine ⟨nolim.keeps x.toInCall.keep, codeAny_func ?_⟩
    obtain ⟨t, ht, hq⟩ := hb A outer s H vs Q E (hr.deeper _) hgd hsp
    have I0 : Inv (cxOf CX0 P w K mg base N qu sc fa cv A outer s H E) [] (start N vs) H s1 := inv_start S hr.hd e0 (len _ _ _ _ hsp) rv x
    refine wpAny_mono (ht.nox.run [] s1 (start N vs) H _ I0 hq) (fun fl s' z => ?_) fun ex s' z => z
    cases fl with
    | next =>
      obtain ⟨σ', H', J, q⟩ := z
      exact ⟨V.non, H', J.os, J.bare, J.base, J.hok, rfl, q⟩
    | ret u =>
      obtain ⟨v, σ', H', J, r2, q⟩ := z
      exact ⟨v, H', J.os, J.bare, J.base, J.hok, r2, q⟩
    | brk =>
      obtain ⟨_, _, _, q⟩ := z
      exact q.elim
    | cont =>
      obtain ⟨_, _, _, q⟩ := z
      exact q.elim
def scB (N P : List Str) (sc : Scope) : Bool :=
  (match sc.kind with
    | .function => true
    | _ => false) && !sc.isCoroutine && !sc.isGenerator && decide N.Nodup && (N.take P.length == P) && P.all (locB sc) && sc.names.all (fun y => match y.2 with
    | .free => false
    | _ => true)
theorem sc_by {N P : List Str} {sc : Scope} (h : scB N P sc = true) : FnScope N P sc := by
  unfold scB at h
  simp only [Bool.and_eq_true, Bool.not_eq_true', decide_eq_true_eq, List.all_eq_true] at h
  obtain ⟨⟨⟨⟨⟨⟨h1, h2⟩, h3⟩, h4⟩, h5⟩, h6⟩, h7⟩ := h
  refine ⟨?_, h2, h3, h4, eq_of_beq h5, fun x hx => loc_of (h6 x hx), fun y hy z => ?_⟩
  · split at h1
    · assumption
    · cases h1
  · have := h7 y hy
    rw [z] at this
    cases this
/-- what is known of the text around the defs -/
structure Gl0 where
  free : List Str
  gis : List (Str × Int)
  gss : List (Str × Str)
  T : Nat → Option MDef
def Gl0.ctx (g : Gl0) (N : List Str) (sc : Scope) : Ctx := ⟨N, sc, fun _ => true, g.free, g.gis, g.gss, g.T⟩
def paOk (ps : List Str) : Arguments → Bool
  | ⟨[], args, none, [], [], none, []⟩ => args.map (·.arg) == ps
  | _ => false
def okDef (g : Gl0) (d : MDef) (pa : Arguments) (bd : List Stmt) (sc : Scope) : Bool :=
  paOk (d.N.take d.np) pa && Nat.ble d.np d.N.length && scB d.N (d.N.take d.np) sc && okB (g.ctx d.N sc) d.body bd
structure TabOk (g : Gl0) (K : PySem.W.Frag) (mg : Str → Option Value) : Prop where
  def_ : ∀ f d, g.T f = some d → ∃ fa fd pa bd sc, mg d.name = some (.ref fa) ∧ FunD K d.name d.name pa bd sc [] [] fa fd ∧ okDef g d pa bd sc = true
  free : ∀ x ∈ g.free, mg x = none
  gis : ∀ p ∈ g.gis, ∃ t, mg p.1 = some (.int p.2 t)
  gss : ∀ p ∈ g.gss, ∃ t, mg p.1 = some (.str p.2 t)
theorem pa_of {ps : List Str} {pa : Arguments} (h : paOk ps pa = true) : ∃ args : List Arg, pa = ⟨[], args, none, [], [], none, []⟩ ∧ args.map (·.arg) = ps := by
  unfold paOk at h
  split at h
  · exact ⟨_, rfl, eq_of_beq h⟩
  · cases h
theorem take_len {N : List Str} {k : Nat} (h : k ≤ N.length) : (N.take k).length = k := by rw [List.length_take]; omega
theorem re_start {K : Kw} {m : List Addr} {H : Hp} {N : List Str} {args : List Val} {vs : List V} (h : RVs K m H args vs) : RE K m H (args.map some ++ List.replicate (N.length - args.length) none) (start N vs) where
  len := by
    unfold L2.start
    rw [h.length]
    simp [h.length]
  at_ := fun i v q => by
    unfold L2.start
    have hl := h.length
    by_cases hi : i < args.length
    · rw [List.getElem?_append_left (by simpa using hi), List.getElem?_map] at q
      cases e : args[i]? with
      | none => rw [e] at q; cases q
      | some w =>
        rw [e] at q
        cases q
        obtain ⟨x, hx, hr⟩ := h.get e
        refine ⟨x, ?_, hr⟩
        rw [List.getElem?_append_left (by simpa [← hl] using hi), List.getElem?_map, hx]
        rfl
    · rw [List.getElem?_append_right (by simpa using hi)] at q
      rw [List.getElem?_replicate] at q
      split at q
      · cases q
      · cases q
theorem tab_one {g : Gl0} {P : Program} {w : World} {K : PySem.W.Frag} {mg : Str → Option Value} {base : Heap} (t : TabOk g K mg) : ∀ n f d, g.T f = some d → ∀ (fa : Addr) (fd : FuncData) (pa : Arguments) (bd : List Stmt) (sc : Scope), mg d.name = some (.ref fa) → FunD K d.name d.name pa bd sc [] [] fa fd → okDef g d pa bd sc = true →
    Binds K fd (d.N.take d.np) [] ∧ FnG P w K mg base n fa fd (d.N.take d.np) (spF ⟨K, w, P⟩ (callF g.T n) f)
  | n, f, d, hd => by
    intro fa fd pa bd sc hm F ok
    unfold okDef at ok
    simp only [Bool.and_eq_true] at ok
    obtain ⟨⟨⟨k1, k2⟩, k3⟩, k4⟩ := ok
    obtain ⟨args, rfl, ha⟩ := pa_of k1
    have S := sc_by k3
    have hnp : d.np ≤ d.N.length := Nat.le_of_ble_eq_true k2
    have nd : (args.map (·.arg)).Nodup := by rw [ha]; exact S.nd.sublist (List.take_sublist _ _)
    have hb : Binds K fd (d.N.take d.np) [] := F.bindsN fun kV doc pm an cdv ct us hl => by
      rw [← ha] at hl ⊢
      exact bind_gen nd (by simpa using hl)
    refine ⟨hb, ?_⟩
    cases n with
    | zero =>
      refine ⟨fun vs H Q E h => ?_, fun A outer s H args us vs Q E _ _ _ _ _ h => ?_⟩
      · obtain ⟨m, S1, as, v, S', _, _, e, _⟩ := h
        simp only [callF] at e
        cases e
      · obtain ⟨m, S1, as, v, S', _, _, e, _⟩ := h
        simp only [callF] at e
        cases e
    | succ n =>
      obtain ⟨oc, od, dV, kV, doc, pm, an, cdv, ct, osl, rfl, lk, hcd, hD, hK⟩ := F.ex
      refine fnG_of lk hcd S (fun vs H Q E h => ?_) fun A outer s H vs Q E hr hgd h => ?_
      · obtain ⟨m, S1, as, v, S', rs, rv, e, _⟩ := h
        simp only [callF, hd] at e
        split at e
        · rename_i hl
          rw [take_len hnp, ← hl, rv.length]
        · cases e
      · refine ⟨rdB ⟨K, w, P⟩ (callF g.T n) d.body, ?_, ?_⟩
        · refine sB (X := (cxOf CX0 P w K mg base d.N d.name sc fa cdv A outer s H E).nox) (c := g.ctx d.N sc) d.body PassesOwn.never ⟨rfl, S.nd, rfl, S.kind, rfl, rfl, hr, hgd, fun f2 d2 h2 => ?_, t.free, t.gis, t.gss⟩ k4
          obtain ⟨fa2, fd2, pa2, bd2, sc2, hm2, F2, ok2⟩ := t.def_ f2 d2 h2
          obtain ⟨q3, q4⟩ := tab_one (P := P) (w := w) (base := base) t n f2 d2 h2 _ _ _ _ _ hm2 F2 ok2
          exact ⟨fa2, fd2, hm2, F2.kp, q3, q4⟩
        · obtain ⟨m, S1, as, v, S', rs, rv, e, fin⟩ := h
          simp only [callF, hd] at e
          split at e
          · obtain ⟨p, S2, e1, e2⟩ := bind_ok e
            obtain ⟨fl, env2⟩ := p
            have fin3 : Fin3 ⟨K, w, P⟩ m m H (flV fl) S2 Q := fun m2 H2 ex rs2 z hz => by
              split at e2
              · cases e2
                obtain ⟨m3, ex3, rs3, q⟩ := gcV_rs (v := flV fl) rs.len ex.to rs2
                exact fin m3 H2 ex3 rs3 z (q z hz)
              · cases e2
                exact fin m2 H2 ex.to rs2 z hz
            refine ⟨_, S1, m, m, fl, env2, S2, rs, re_start rv, ⟨[], by simp⟩, by rw [rs.len]; exact e1, ?_⟩
            cases fl with
            | next => exact fun m2 H2 ex rs2 σ2 re2 => fin3 m2 H2 ex rs2 _ mk_non
            | ret u => exact fin3
          · cases e
end Mp

set_option Elab.async false
set_option linter.all false
set_option maxRecDepth 100000
set_option maxHeartbeats 4000000
/-! Mp, part T: a whole law. -/
namespace Mp
open PySem PySem.Spec PyProof.Rows L2
theorem rvs_int {K : Kw} {m : List Addr} {H : Hp} : ∀ ns : List Int, RVs K m H (ns.map Val.int) (ns.map V.int)
  | [] => RVs.nil
  | n :: ns => ⟨_, _, rfl, rfl, rvs_int ns⟩
theorem law_run {P : Program} {w : World} {K : PySem.W.Frag} {mg mb : Str → Option Value} {n : Nat} {fa a : Addr} {fd : FuncData} {x : Str} {sp : Sp} {s : Shared} {us : List Value} {ns : List Int}
    (KX : K.In s.heap) (gm : s.heap.Ns mainGlobals mg) (gb : s.heap.Ns builtinsNs mb) (bb : ∀ y : Str, y ≠ "__name__" → mb y = bootBuiltins y) (nl : s.heap.NoLimit) (gn : s.gens = #[])
    (at_a : s.heap.get? a = some { cls := .type "list", data := .seq us.toArray }) (are : IntsAre us ns) (few : ns.length ≤ sizeLine) (room : Room n callerA)
    (F : ∀ base : Heap, FnG P w K mg base n fa fd [x] sp) (bt : ∀ (t : Shared) (u : Value), BindsTo t fd ⟨[u], []⟩ [(x, u)])
    (hs : ∀ H : Hp, SqF K H a (ns.map V.int) → sp [.ref a] H (fun v _ => v = .bl true) E0) :
    codeAny (model P w) callerA (.call (.ref fa) ⟨[.ref a], []⟩) (fun r t => r = .ok (.ret (.bool true)) ∧ OldK s.heap t.heap ∧ t.os = s.os ∧ AllBare t.gens) s := by
  have rel := vals_ints are
  have lens := are.length
  have key : ∀ H : Hp, Only H → SqF K H a (ns.map V.int) → HOk P w H s.heap → (∀ b, H b ≠ none → b = a) → (H a ≠ none → K.lookup a = none) →
      codeAny (model P w) callerA (.call (.ref fa) ⟨[.ref a], []⟩) (fun r t => r = .ok (.ret (.bool true)) ∧ OldK s.heap t.heap ∧ t.os = s.os ∧ AllBare t.gens) s := by
    intro H only sq hok at1 own
    have stays : ∀ {b : Addr} {o : Obj}, s.heap.get? b = some o → H b = none → (hidT s.heap H).get? b = some o := fun z q => hidT_get z q
    have dictNo : ∀ {b : Addr} {o : Obj} {es : Array DictEntry} {ep : Nat}, s.heap.get? b = some o → o.data = .dict es ep → H b = none := by
      intro b o es ep z dz
      cases q : H b with
      | none => rfl
      | some u =>
        have hba : b = a := at1 b (by rw [q]; simp)
        subst hba
        rw [at_a] at z
        cases z
        have dd : Data.seq us.toArray _ = Data.dict es ep := dz
        cases dd
    have nsOn : ∀ {b : Addr} {f : Str → Option Value}, s.heap.Ns b f → (hidT s.heap H).Ns b f := by
      rintro b f ⟨o, es, ep, z, dz, r⟩
      exact ⟨o, es, ep, stays z (dictNo z dz), dz, r⟩
    have inB : K.In (hidT s.heap H) := by
      intro b o z
      refine stays (KX b o z) ?_
      cases q : H b with
      | none => rfl
      | some u =>
        have hba : b = a := at1 b (by rw [q]; simp)
        subst hba
        rw [own (by rw [q]; simp)] at z
        cases z
    have md : Mod K mg (hidT s.heap H) := by
      obtain ⟨mc, l1, l2⟩ := nl
      exact ⟨inB, nsOn gm, ⟨mb, nsOn gb, bb⟩, ⟨mc, nsOn l1, l2⟩⟩
    have noFr : ∀ b : Addr, b ∉ frs ([] : List PySem.Env) := fun b z => by cases z
    have e0 : Env0 P w K mg (hidT s.heap H) callerA [] s H := ⟨rfl, md, fun b o z => of_hidT z, Nat.le_of_eq (hidT_size _ _), trivial, fun b z => absurd z (noFr b), hok, .of_eq gn⟩
    refine codeAny_mono ((F (hidT s.heap H)).run callerA [] s H ⟨[.ref a], []⟩ [.ref a] [.ref a] _ _ room rfl e0 (bt s (.ref a)) (.cons rfl .nil) (hs H sq)) fun r t ht => ?_
    match r, ht with
    | .error e, ht => exact ht.elim
    | .ok .next, ht => exact ht.elim
    | .ok .brk, ht => exact ht.elim
    | .ok .cont, ht => exact ht.elim
    | .ok (.ret u), ht =>
      obtain ⟨v, H', os, bare, un, hok', rv, q⟩ := ht
      have hv : v = .bl true := q
      subst hv
      obtain rfl : u = Value.bool true := rv
      refine ⟨rfl, OldK.of_keep fun b o z => ?_, os, bare⟩
      rcases only b with hb | ⟨ob, xs, hb⟩
      · exact un.keep b o z hb (noFr b) (by simp)
      · have hb2 := un.frzs b ob _ hb
        obtain ⟨z1, _⟩ := hok b _ hb
        obtain ⟨z2, _⟩ := hok' b _ hb2
        rw [z] at z1
        cases z1
        exact z2
  cases ka : K.lookup a with
  | some o =>
    have z := KX a o ka
    rw [at_a] at z
    cases z
    exact key (fun _ => none) (fun _ => .inl rfl) (.inr (.inr ⟨_, us.toArray, _, ka, rfl, rfl, rfl, by rw [List.size_toArray, lens]; exact few, by simpa using rel⟩)) (fun b u q => by
      have q' : (none : Option HO) = some u := q
      cases q') (fun b q => absurd rfl q) fun q => absurd rfl q
  | none =>
    let o : Obj := { cls := .type "list", data := .seq us.toArray }
    let H0 : Hp := fun b => if b = a then some (.frz o (.lst (ns.map V.int))) else none
    have h1 : H0 a = some (.frz o (.lst (ns.map V.int))) := if_pos rfl
    have h2 : ∀ b, b ≠ a → H0 b = none := fun b q => if_neg q
    refine key H0 (fun b => ?_) (.inl ⟨o, h1⟩) (fun b u q => ?_) (fun b q => ?_) fun _ => ka
    · by_cases hb : b = a
      · subst hb
        exact .inr ⟨_, _, h1⟩
      · exact .inl (h2 b hb)
    · by_cases hb : b = a
      · subst hb
        rw [h1] at q
        cases q
        exact ⟨at_a, by rw [List.length_map]; exact few, us, _, rel, at_a⟩
      · rw [h2 b hb] at q
        cases q
    · by_cases hb : b = a
      · exact hb
      · exact absurd (h2 b hb) q
/-- a law by the little language: it answers True at every script -/
theorem walk_M {l : PySem.W.OpenLaw} {most n lawi : Nat} {q : Program} {loose : List Str} {XP : (Str → Option Value) → Heap → Prop} {YP : World → Heap → Prop} {d : DefRec} {g : Gl0} {ld : MDef} {x : Str}
    (hn : l.most = some most) (hn2 : most ≤ sizeLine) (hdf : d.params.defaults = []) (hr : Room n callerA) (hl : g.T lawi = some ld) (hname : ld.name = d.name) (hps : ld.N.take ld.np = [x])
    (F : ∀ (w : World) (mg : Str → Option Value) (h : Heap), YP w h → h.Ns mainGlobals mg → ∃ K : PySem.W.Frag, K.In h ∧ TabOk g K mg)
    (ans : ∀ ns : List Int, ns.length ≤ most → ∃ S, callF g.T n lawi [.fl (ns.map Val.int)] ⟨0, []⟩ = .ok (.bl true) S) :
    PySem.W.WalkO q loose XP YP l.row.toRowW d [] (fun f vs => PySem.call f vs) := by
  refine Att.attach_call hn hdf fun w s₀ s₁ mg mb fa o pm cd doc a vs ns G Y ho hd hcd hmg hobj hints hlen hg => ?_
  obtain ⟨K, KX, t⟩ := F w mg _ Y G.T.g
  obtain ⟨fa2, fd, pa, bd, sc, hm, FD, ok⟩ := t.def_ lawi ld hl
  have hfa : fa2 = fa := by
    rw [hname] at hm
    rw [hmg] at hm
    cases hm
    rfl
  subst hfa
  have ok2 := ok
  unfold okDef at ok2
  simp only [Bool.and_eq_true] at ok2
  obtain ⟨⟨⟨k1, k2⟩, k3⟩, k4⟩ := ok2
  obtain ⟨args, rfl, ha⟩ := pa_of k1
  have nd : (args.map (·.arg)).Nodup := by rw [ha]; exact (sc_by k3).nd.sublist (List.take_sublist _ _)
  have bt : ∀ (s : Shared) (u : Value), BindsTo s fd ⟨[u], []⟩ [(x, u)] := fun s u => by
    have hlen : ([u] : List Value).length = (ld.N.take ld.np).length := by rw [hps]; rfl
    have := FD.bindsA (ps := ld.N.take ld.np) (fun kV doc pm an cdv ct us hl => by
      rw [← ha] at hl ⊢
      exact bind_gen nd (by simpa using hl)) s [u] hlen
    rw [hps] at this
    exact this
  refine law_run (sp := spF ⟨K, w, l.prog⟩ (callF g.T n) lawi) (x := x) (fd := fd) (n := n) KX G.T.g G.T.b G.T.builtins G.T.nolimit hg hobj hints (Nat.le_trans hlen hn2) hr (fun base => ?_) bt fun H sq => ?_
  · obtain ⟨b3, G3⟩ := tab_one (P := l.prog) (w := w) (base := base) t n lawi ld hl _ _ _ _ _ hm FD ok
    rw [hps] at G3
    exact G3
  · obtain ⟨S, e⟩ := ans ns hlen
    refine ⟨[], ⟨0, []⟩, [.fl (ns.map Val.int)], _, S, ⟨rfl, List.nodup_nil, fun r a z => by simp at z⟩, ⟨_, _, rfl, ⟨a, _, rfl, sq, rvs_int ns⟩, rfl⟩, e, fun m2 H2 ex rs z hz => hz⟩
/-! ### the table by the head's facts -/
def mkD (top : Nat → Stmt) (p : Str × Nat) : He.DefD := ⟨(p.1, none), p.1, p.1, defArgs (top p.2), defBody (top p.2), defScope (top p.2), [], []⟩
def faOf (fnl : List (Str × Nat)) (frees : List Str) (cI : List (Str × Int)) (cS : List (Str × Str)) : List He.Fa :=
  (fnl.map fun p => He.Fa.glo p.1) ++ (frees.map fun x => He.Fa.free x) ++ (cI.map fun p => He.Fa.int p.1 p.2) ++ (cS.map fun p => He.Fa.str p.1 p.2)
def glOf (frees : List Str) (cI : List (Str × Int)) (cS : List (Str × Str)) (tab : List MDef) : Gl0 := ⟨frees, cI, cS, fun f => tab[f]?⟩
def ckOne (g : Gl0) (top : Nat → Stmt) (d : MDef) (p : Str × Nat) : Bool := (d.name == p.1) && okDef g d (defArgs (top p.2)) (defBody (top p.2)) (defScope (top p.2))
def ckAll (g : Gl0) (top : Nat → Stmt) : List MDef → List (Str × Nat) → Bool
  | [], [] => true
  | d :: ds, p :: ps => ckOne g top d p && ckAll g top ds ps
  | _, _ => false
theorem ck_at {g : Gl0} {top : Nat → Stmt} : ∀ {ds : List MDef} {ps : List (Str × Nat)} {f : Nat} {d : MDef}, ckAll g top ds ps = true → ds[f]? = some d → ∃ p ∈ ps, ckOne g top d p = true
  | [], _, f, d, _, h => by simp at h
  | a :: ds, [], f, d, hc, h => by simp only [ckAll] at hc; cases hc
  | a :: ds, p :: ps, f, d, hc, h => by
    simp only [ckAll, Bool.and_eq_true] at hc
    cases f with
    | zero =>
      simp only [List.getElem?_cons_zero, Option.some.injEq] at h
      subst h
      exact ⟨p, List.mem_cons_self .., hc.1⟩
    | succ f =>
      obtain ⟨q, hq, h2⟩ := ck_at hc.2 (by simpa using h)
      exact ⟨q, List.mem_cons_of_mem _ hq, h2⟩
theorem tab_of {tab : List MDef} {fnl : List (Str × Nat)} {frees : List Str} {cI : List (Str × Int)} {cS : List (Str × Str)} {top : Nat → Stmt} {K : PySem.W.Frag} {h : Heap} {mg : Str → Option Value} (X : K.In h) (G : h.Ns mainGlobals mg)
    (c : He.SaysD (faOf fnl frees cI cS) (fnl.map (mkD top)) K) (ck : ckAll (glOf frees cI cS tab) top tab fnl = true) : TabOk (glOf frees cI cS tab) K mg where
  def_ := fun f d hd => by
    obtain ⟨p, hp, h2⟩ := ck_at ck hd
    unfold ckOne at h2
    rw [Bool.and_eq_true] at h2
    have e : d.name = p.1 := eq_of_beq h2.1
    obtain ⟨fd, F⟩ := c.defs (d := mkD top p) (List.mem_map_of_mem hp)
    have g1 := He.glo_ok X G (x := p.1) (c.facts (by
      unfold faOf
      exact List.mem_append_left _ (List.mem_append_left _ (List.mem_append_left _ (List.mem_map_of_mem (f := fun p : Str × Nat => He.Fa.glo p.1) hp)))))
    rw [e]
    exact ⟨_, fd, _, _, _, g1, F, h2.2⟩
  free := fun x hx => He.free_ok X G (c.facts (by
    unfold faOf
    exact List.mem_append_left _ (List.mem_append_left _ (List.mem_append_right _ (List.mem_map_of_mem (f := fun x : Str => He.Fa.free x) hx)))))
  gis := fun p hp => He.int_ok X G (c.facts (by
    unfold faOf
    exact List.mem_append_left _ (List.mem_append_right _ (List.mem_map_of_mem (f := fun p : Str × Int => He.Fa.int p.1 p.2) hp))))
  gss := fun p hp => He.str_ok X G (c.facts (by
    unfold faOf
    exact List.mem_append_right _ (List.mem_map_of_mem (f := fun p : Str × Str => He.Fa.str p.1 p.2) hp)))
def isT : R Val → Bool
  | .ok (.bl true) _ => true
  | _ => false
theorem isT_ok {r : R Val} (h : isT r = true) : ∃ S, r = .ok (.bl true) S := by
  unfold isT at h
  split at h
  · exact ⟨_, rfl⟩
  · cases h
end Mp

set_option Elab.async false
set_option linter.all false
set_option maxRecDepth 100000
set_option maxHeartbeats 400000
/-! Mp, part U: reckoning with the evaluator. -/
namespace Mp
open PySem
/-! ### results -/
section
variable {α β : Type} {a : α} {S : Sto} {f : α → Sto → R β}
@[simp] theorem bind_ok_ : R.bind (.ok a S) f = f a S := id rfl
@[simp] theorem bind_err_ : R.bind (.err : R α) f = .err := id rfl
@[simp] theorem of_some_ : R.of (some a) S = .ok a S := id rfl
@[simp] theorem of_none_ : R.of (none : Option α) S = .err := id rfl
end
/-! ### expressions -/
section
variable {cf : Nat → List Val → Sto → R Val} {env : Env} {S : Sto} {a b c e : ME} {as : MA}
def varR (env : Env) (i : Nat) (S : Sto) : R Val := match env[i]? with
  | some (some v) => .ok v S
  | _ => .err
@[simp] theorem varR_zero {v : Val} : varR (some v :: env) 0 S = .ok v S := id rfl
@[simp] theorem varR_succ {o : Option Val} {i : Nat} : varR (o :: env) (i + 1) S = varR env i S := id rfl
@[simp] theorem ev_non : evE cf .non env S = .ok .non S := by simp only [evE]
@[simp] theorem ev_bl {x : Bool} : evE cf (.bl x) env S = .ok (.bl x) S := by simp only [evE]
@[simp] theorem ev_int {x : Int} : evE cf (.int x) env S = .ok (.int x) S := by simp only [evE]
@[simp] theorem ev_str {x : Str} : evE cf (.str x) env S = .ok (.str x) S := by simp only [evE]
@[simp] theorem ev_var {i : Nat} : evE cf (.var i) env S = varR env i S := by simp only [evE, varR] <;> rfl
@[simp] theorem ev_gint {x : Str} {i : Int} : evE cf (.gint x i) env S = .ok (.int i) S := by simp only [evE]
@[simp] theorem ev_gstr {x z : Str} : evE cf (.gstr x z) env S = .ok (.str z) S := by simp only [evE]
@[simp] theorem ev_bin {op : BOp} : evE cf (.bin op a b) env S = (evE cf a env S).bind fun x S1 => (evE cf b env S1).bind fun y S2 => bop op x y S2 := by simp only [evE]
@[simp] theorem ev_cmp {op : COp} : evE cf (.cmp op a b) env S = (evE cf a env S).bind fun x S1 => (evE cf b env S1).bind fun y S2 => cop op x y S2 := by simp only [evE]
def negV : Val → Sto → R Val
  | .int i, S => .ok (.int (-i)) S
  | _, _ => .err
@[simp] theorem negV_int {i : Int} : negV (.int i) S = .ok (.int (-i)) S := id rfl
@[simp] theorem ev_neg : evE cf (.neg a) env S = (evE cf a env S).bind negV := by
  simp only [evE]
  congr 1
  funext x S1
  cases x <;> rfl
/-- a test -/
def tst (v : Val) (S : Sto) (x y : R Val) : R Val := match tru S v with
  | some true => x
  | some false => y
  | none => .err
@[simp] theorem tst_bl {x y : R Val} {t : Bool} : tst (.bl t) S x y = bif t then x else y := by cases t <;> exact id rfl
@[simp] theorem ev_and : evE cf (.and a b) env S = (evE cf a env S).bind fun x S1 => tst x S1 (evE cf b env S1) (.ok x S1) := by
  simp only [evE]
  congr 1
  funext x S1
  simp only [truR, tst]
  cases tru S1 x with
  | none => rfl
  | some t => cases t <;> rfl
@[simp] theorem ev_or : evE cf (.or a b) env S = (evE cf a env S).bind fun x S1 => tst x S1 (.ok x S1) (evE cf b env S1) := by
  simp only [evE]
  congr 1
  funext x S1
  simp only [truR, tst]
  cases tru S1 x with
  | none => rfl
  | some t => cases t <;> rfl
@[simp] theorem ev_not : evE cf (.not a) env S = (evE cf a env S).bind fun x S1 => tst x S1 (.ok (.bl false) S1) (.ok (.bl true) S1) := by
  simp only [evE]
  congr 1
  funext x S1
  simp only [truR, tst]
  cases tru S1 x with
  | none => rfl
  | some t => cases t <;> rfl
@[simp] theorem ev_ite : evE cf (.ite c a b) env S = (evE cf c env S).bind fun x S1 => tst x S1 (evE cf a env S1) (evE cf b env S1) := by
  simp only [evE]
  congr 1
  funext x S1
  simp only [truR, tst]
  cases tru S1 x with
  | none => rfl
  | some t => cases t <;> rfl
/-- the rest of a chain -/
def chn (t : Val) (S : Sto) (x : R Val) : R Val := match t with
  | .bl true => x
  | .bl false => .ok (.bl false) S
  | _ => .err
@[simp] theorem chn_bl {t : Bool} {x : R Val} : chn (.bl t) S x = bif t then x else .ok (.bl false) S := by cases t <;> exact id rfl
@[simp] theorem ev_chain {op op2 : COp} : evE cf (.chain op op2 a b c) env S = (evE cf a env S).bind fun x S1 => (evE cf b env S1).bind fun y S2 => (cop op x y S2).bind fun t S3 => chn t S3 ((evE cf c env S3).bind fun z S4 => cop op2 y z S4) := by
  simp only [evE]
  congr 1
  funext x S1
  congr 1
  funext y S2
  congr 1
  funext t S3
  cases t with
  | bl q => cases q <;> rfl
  | _ => rfl
@[simp] theorem ev_tup : evE cf (.tup as) env S = (evA cf as env S).bind fun vs S1 => if vs.length ≤ cap then .ok (.tup vs) S1 else .err := by simp only [evE]
@[simp] theorem ev_lst : evE cf (.lst as) env S = (evA cf as env S).bind fun vs S1 => if vs.length ≤ cap then .ok (.ref S1.n) (S1.new (.lst vs)) else .err := by simp only [evE]
@[simp] theorem ev_dct0 : evE cf .dct0 env S = .ok (.ref S.n) (S.new (.dct [])) := by simp only [evE]
/-- {x: y} -/
def dispV (x y : Val) (S : Sto) : R Val := if dkey x then .ok (.ref S.n) (S.new (.dct [(x, y)])) else match keyI x with
  | some i => .ok (.ref S.n) (S.new (.dci [(i, y)]))
  | none => .err
@[simp] theorem dispV_int {i : Int} {y : Val} : dispV (.int i) y S = .ok (.ref S.n) (S.new (.dci [(i, y)])) := id rfl
@[simp] theorem dispV_tup {xs : List Val} {y : Val} (h : dkey (.tup xs) = true) : dispV (.tup xs) y S = .ok (.ref S.n) (S.new (.dct [(.tup xs, y)])) := by simp only [dispV, h, if_true]
@[simp] theorem ev_dct0i : evE cf .dct0i env S = .ok (.ref S.n) (S.new (.dci [])) := by simp only [evE]
@[simp] theorem ev_dct1 : evE cf (.dct1 a b) env S = (evE cf a env S).bind fun x S1 => (evE cf b env S1).bind fun y S2 => dispV x y S2 := by
  simp only [evE]
  rfl
@[simp] theorem ev_ix : evE cf (.ix a b) env S = (evE cf a env S).bind fun x S1 => (evE cf b env S1).bind fun y S2 => getIx x y S2 := by simp only [evE]
@[simp] theorem ev_sl : evE cf (.sl a b c) env S = (evE cf a env S).bind fun x S1 => (evE cf b env S1).bind fun l S2 => (evE cf c env S2).bind fun h S3 => getSl x (partOf b l) (partOf c h) S3 := by simp only [evE]
@[simp] theorem ev_rev : evE cf (.rev a) env S = (evE cf a env S).bind fun x S1 => getRev x S1 := by simp only [evE]
@[simp] theorem ev_isi {t : Ty} : evE cf (.isi a t) env S = (evE cf a env S).bind fun x S1 => R.of ((isTy t x S1).map Val.bl) S1 := by simp only [evE]
@[simp] theorem ev_call {f : Nat} : evE cf (.call f as) env S = (evA cf as env S).bind fun vs S1 => cf f vs S1 := by simp only [evE]
@[simp] theorem ev_blt {f : Blt} : evE cf (.blt f as) env S = (evA cf as env S).bind fun vs S1 => bapp f vs S1 := by simp only [evE]
@[simp] theorem ev_lens : evE cf (.lens a) env S = (evE cf a env S).bind fun x S1 => lenSet x S1 := by simp only [evE]
@[simp] theorem ev_sorts : evE cf (.sorts a) env S = (evE cf a env S).bind fun x S1 => sortSet x S1 := by simp only [evE]
@[simp] theorem ev_mth {m : Mth} : evE cf (.mth m a as) env S = (evE cf a env S).bind fun x S1 => if recv m x S1 then (evA cf as env S1).bind fun vs S2 => mapp m x vs S2 else .err := by simp only [evE]
theorem ev_gc : evE cf (.gc a) env S = (evE cf a env S).bind fun v S1 => .ok (gcV S.n v S1).1 (gcV S.n v S1).2 := by simp only [evE]
@[simp] theorem ea_nil : evA cf .nil env S = .ok [] S := by simp only [evA]
@[simp] theorem ea_cons : evA cf (.cons a as) env S = (evE cf a env S).bind fun v S1 => (evA cf as env S1).bind fun vs S2 => .ok (v :: vs) S2 := by simp only [evA]
@[simp] theorem ei_val : evI cf (.val a) env S = (evE cf a env S).bind fun v S1 => .ok (.val v) S1 := by simp only [evI]
@[simp] theorem ei_zip : evI cf (.zip a b) env S = (evE cf a env S).bind fun x S1 => (evE cf b env S1).bind fun y S2 => .ok (.zip x y) S2 := by simp only [evI]
@[simp] theorem ei_enum : evI cf (.enum a) env S = (evE cf a env S).bind fun x S1 => .ok (.enum x) S1 := by simp only [evI]
/-! ### targets -/
variable {v : Val} {vs : List Val} {g : MG} {gs : MGs}
@[simp] theorem ag_nm {i : Nat} : asG cf (.nm i) v env S = .ok (env.set i (some v)) S := by simp only [asG]
@[simp] theorem ag_tup : asG cf (.tup gs) (.tup vs) env S = asGs cf gs vs env S := by simp only [asG]
@[simp] theorem ag_sub : asG cf (.sub a b) v env S = (evE cf a env S).bind fun x S1 => (evE cf b env S1).bind fun y S2 => (setIx x y v S2).bind fun _ S3 => .ok env S3 := by simp only [asG]
@[simp] theorem ags_nil : asGs cf .nil [] env S = .ok env S := by simp only [asGs]
@[simp] theorem ags_cons : asGs cf (.cons g gs) (v :: vs) env S = (asG cf g v env S).bind fun env1 S1 => asGs cf gs vs env1 S1 := by simp only [asGs]
/-! ### statements -/
variable {k : Nat} {s : MS} {p q : MB}
@[simp] theorem es_asg : evS cf k (.asg g e) env S = (evE cf e env S).bind fun v S1 => (asG cf g v env S1).bind fun env1 S2 => .ok (.next, env1) S2 := by simp only [evS]
def parR (env : Env) (is : List Nat) (vs : List Val) (S : Sto) : R (Fl × Env) := match setAll env is vs with
  | some env1 => .ok (.next, env1) S
  | none => .err
@[simp] theorem parR_nil : parR env [] [] S = .ok (.next, env) S := id rfl
@[simp] theorem parR_cons {i : Nat} {is : List Nat} : parR env (i :: is) (v :: vs) S = parR (env.set i (some v)) is vs S := id rfl
@[simp] theorem es_par {is : List Nat} : evS cf k (.par is as) env S = (evA cf as env S).bind fun vs S1 => parR env is vs S1 := by
  simp only [evS, parR] <;> rfl
@[simp] theorem es_exp : evS cf k (.exp e) env S = (evE cf e env S).bind fun _ S1 => .ok (.next, env) S1 := by simp only [evS]
@[simp] theorem es_ret : evS cf k (.ret e) env S = (evE cf e env S).bind fun v S1 => .ok (.ret v, env) S1 := by simp only [evS]
def tstS (v : Val) (S : Sto) (x y : R (Fl × Env)) : R (Fl × Env) := match tru S v with
  | some true => x
  | some false => y
  | none => .err
@[simp] theorem tstS_bl {x y : R (Fl × Env)} {t : Bool} : tstS (.bl t) S x y = bif t then x else y := by cases t <;> exact id rfl
@[simp] theorem es_ifs : evS cf k (.ifs c p q) env S = (evE cf c env S).bind fun x S1 => tstS x S1 (evB cf k p env S1) (evB cf k q env S1) := by
  simp only [evS]
  congr 1
  funext x S1
  simp only [truR, tstS]
  cases tru S1 x with
  | none => rfl
  | some t => cases t <;> rfl
@[simp] theorem es_pass : evS cf k .pass env S = .ok (.next, env) S := by simp only [evS]
@[simp] theorem eb_nil : evB cf k .nil env S = .ok (.next, env) S := by simp only [evB]
/-- on, or out -/
def thenB (cf : Nat → List Val → Sto → R Val) (k : Nat) (r : MB) (p : Fl × Env) (S : Sto) : R (Fl × Env) := match p.1 with
  | .next => evB cf k r p.2 S
  | .ret v => .ok (.ret v, p.2) S
@[simp] theorem then_next {r : MB} : thenB cf k r (.next, env) S = evB cf k r env S := id rfl
@[simp] theorem then_ret {r : MB} : thenB cf k r (.ret v, env) S = .ok (.ret v, env) S := id rfl
@[simp] theorem eb_cons : evB cf k (.cons s p) env S = (evS cf k s env S).bind fun r S1 => thenB cf k p r S1 := by
  simp only [evB]
  congr 1
@[simp] theorem eb_gcs {sl : List Nat} : evB cf k (.gcs sl p) env S = evB cf k p (gcE k sl env S).1 (gcE k sl env S).2 := by simp only [evB]
end
/-! ### calls -/
/-- the table has a def -/
class Has (T : Nat → Option MDef) (f : Nat) (d : outParam MDef) : Prop where
  eq : T f = some d
def retOf (g : Bool) (k : Nat) (p : Fl × Env) (S : Sto) : R Val := if g then .ok (gcV k (flV p.1) S).1 (gcV k (flV p.1) S).2 else .ok (flV p.1) S
theorem call_eq {T : Nat → Option MDef} {f : Nat} {d : MDef} [h : Has T f d] {n : Nat} (hn : 1 ≤ n) (vs : List Val) (hl : vs.length = d.np) (S : Sto) :
    callF T n f vs S = (evB (callF T (n - 1)) S.n d.body (vs.map some ++ List.replicate (d.N.length - vs.length) none) S).bind fun p S1 => retOf d.gc S.n p S1 := by
  obtain ⟨n, rfl⟩ : ∃ k, n = k + 1 := ⟨n - 1, by omega⟩
  simp only [callF, h.eq, if_pos hl, retOf, Nat.add_sub_cancel]
/-! ### loops -/
section
variable {cf : Nat → List Val → Sto → R Val} {env : Env} {S : Sto} {a c e : ME} {as : MA} {g g2 : MG} {p : MB} {k : Nat} {src : Src}
def whlS (cf : Nat → List Val → Sto → R Val) (k : Nat) (c : ME) (p : MB) (env : Env) (S : Sto) : R (Fl × Env) := evS cf k (.whl c p) env S
theorem es_whl : evS cf k (.whl c p) env S = whlS cf k c p env S := rfl
def forS (cf : Nat → List Val → Sto → R Val) (k : Nat) (g : MG) (p : MB) (src : Src) (env : Env) (S : Sto) : R (Fl × Env) :=
  forLoop (fun v env1 S2 => (asG cf g v env1 S2).bind fun env2 S3 => evB cf k p env2 S3) src lim 0 env S
theorem es_for {s : MI} : evS cf k (.for_ s g p) env S = (evI cf s env S).bind fun src S1 => forS cf S1.n g p src env S1 := by simp only [evS, forS]
/-- a turn of a comprehension -/
def lcTurn (cf : Nat → List Val → Sto → R Val) (own : List Nat) (g : MG) (c e : ME) (env : Env) (v : Val) (S : Sto) : R (Option Val) :=
  (asG cf g v (wipe env own) S).bind fun env2 S3 => (evE cf c env2 S3).bind fun x S4 => (truR x S4).bind fun t S5 => match t with
        | true => (evE cf e env2 S5).bind fun y S6 => .ok (some y) S6
        | false => .ok none S5
def lcS (cf : Nat → List Val → Sto → R Val) (own : List Nat) (g : MG) (c e : ME) (src : Src) (env : Env) (S : Sto) : R (List Val) :=
  lcLoop (lcTurn cf own g c e env) src lim 0 [] S
theorem ev_lc {own : List Nat} {s : MI} : evE cf (.lc own s g c e) env S = (evI cf s env S).bind fun src S1 => (lcS cf own g c e src env S1).bind fun acc S7 => .ok (.ref S7.n) (S7.new (.lst acc)) := by
  simp only [evE, lcS]
  rfl
theorem lim_eq : lim = 100000 := rfl
/-- what a source gives, one by one -/
def Gives (S : Sto) (src : Src) (xs : List Val) : Prop := ∀ i : Nat, nextAt S i src = some (xs[i]?)
theorem gives_tup {xs : List Val} : Gives S (.val (.tup xs)) xs := fun i => rfl
theorem gives_fl {xs : List Val} : Gives S (.val (.fl xs)) xs := fun i => rfl
theorem gives_ref {r : Nat} {xs : List Val} (h : S.get r = some (.lst xs)) : Gives S (.val (.ref r)) xs := fun i => by
  simp only [nextAt, Sto.lst, h]
def rngL (lo hi : Int) : List Val := (List.range (hi - lo).toNat).map fun (k : Nat) => Val.int (lo + (k : Int))
theorem gives_rng {lo hi : Int} (h : rgOk lo hi = true) : Gives S (.val (.rng lo hi)) (rngL lo hi) := fun i => by
  simp only [nextAt, h, if_true, rngL, List.getElem?_map]
  by_cases hi2 : i < (hi - lo).toNat
  · rw [if_pos hi2, List.getElem?_range hi2]; rfl
  · rw [if_neg hi2, List.getElem?_eq_none (by simpa using hi2)]; rfl
theorem gives_zipT {xs ys : List Val} : Gives S (.zip (.tup xs) (.tup ys)) ((xs.zip ys).map fun p => .tup [p.1, p.2]) := fun i => by
  simp only [nextAt, List.getElem?_map, List.getElem?_zip_eq_some, List.zip_eq_zipWith, List.getElem?_zipWith]
  cases xs[i]? <;> cases ys[i]? <;> rfl
theorem gives_enumT {xs : List Val} : Gives S (.enum (.tup xs)) (xs.mapIdx fun i x => .tup [.int (i : Int), x]) := fun i => by
  simp only [nextAt, List.getElem?_mapIdx]
  cases xs[i]? <;> rfl
@[simp] theorem truR_bl {t : Bool} : truR (.bl t) S = .ok t S := id rfl
def tstO (v : Val) (S : Sto) (x y : R (Option Val)) : R (Option Val) := match tru S v with
  | some true => x
  | some false => y
  | none => .err
@[simp] theorem tstO_bl {x y : R (Option Val)} {t : Bool} : tstO (.bl t) S x y = bif t then x else y := by cases t <;> exact id rfl
theorem lcTurn_eq {own : List Nat} {v : Val} : lcTurn cf own g c e env v S = (asG cf g v (wipe env own) S).bind fun env2 S3 => (evE cf c env2 S3).bind fun x S4 => tstO x S4 ((evE cf e env2 S4).bind fun y S6 => .ok (some y) S6) (.ok none S4) := by
  unfold lcTurn
  congr 1
  funext env2 S3
  congr 1
  funext x S4
  simp only [truR, tstO]
  cases tru S4 x with
  | none => rfl
  | some t => cases t <;> rfl
/-! #### comprehensions -/
theorem lcLoop_inv {turn : Val → Sto → R (Option Val)} {xs : List Val} (I : Nat → List Val → Sto → Prop)
    (hg : ∀ i acc S, I i acc S → nextAt S i src = some (xs[i]?))
    (ht : ∀ i x acc S, xs[i]? = some x → I i acc S → ∃ o S', turn x S = .ok o S' ∧ I (i + 1) (match o with | some y => acc ++ [y] | none => acc) S') :
    ∀ (n i : Nat) (acc : List Val) (S : Sto), xs.length - i < n → i ≤ xs.length → I i acc S → ∃ acc' S', lcLoop turn src n i acc S = .ok acc' S' ∧ I xs.length acc' S'
  | 0, i, acc, S, h, _, _ => by omega
  | n + 1, i, acc, S, h, hi, hI => by
    have e := hg i acc S hI
    by_cases hx : i < xs.length
    · rw [List.getElem?_eq_getElem hx] at e
      obtain ⟨o, S1, e1, h1⟩ := ht i xs[i] acc S (List.getElem?_eq_getElem hx) hI
      obtain ⟨acc', S', e2, h2⟩ := lcLoop_inv I hg ht n (i + 1) _ S1 (by omega) (by omega) h1
      refine ⟨acc', S', ?_, h2⟩
      simp only [lcLoop, e, e1, bind_ok_]
      cases o <;> exact e2
    · have hx2 : i = xs.length := by omega
      subst hx2
      rw [List.getElem?_eq_none (Nat.le_refl _)] at e
      exact ⟨acc, S, by simp only [lcLoop, e], hI⟩
/-- turns that change nothing but the list -/
theorem lc_pure {own : List Nat} {xs : List Val} {f : Val → Option Val} (hg : Gives S src xs) (hl : xs.length < 100000) (ht : ∀ x ∈ xs, lcTurn cf own g c e env x S = .ok (f x) S) :
    lcS cf own g c e src env S = .ok (xs.filterMap f) S := by
  obtain ⟨acc, S', e1, h1, h2⟩ := lcLoop_inv (src := src) (turn := lcTurn cf own g c e env) (xs := xs) (fun i acc S' => S' = S ∧ acc = (xs.take i).filterMap f)
    (fun i acc S' h => by rw [h.1]; exact hg i) (fun i x acc S' hx h => ⟨f x, S, by rw [h.1]; exact ht x (List.mem_of_getElem? hx), rfl, by
      rw [List.take_add_one, hx, h.2]
      simp only [Option.toList_some, List.filterMap_append, List.filterMap_cons, List.filterMap_nil]
      cases f x <;> simp⟩) lim 0 [] S (by rw [lim_eq]; omega) (Nat.zero_le _) ⟨rfl, rfl⟩
  unfold lcS
  rw [e1, h1, h2, List.take_length]
/-! #### for -/
theorem forLoop_inv {turn : Val → Env → Sto → R (Fl × Env)} {xs : List Val} (I : Nat → Env → Sto → Prop) (Q : Val → Env → Sto → Prop)
    (hg : ∀ i env S, I i env S → nextAt S i src = some (xs[i]?))
    (ht : ∀ i x env S, xs[i]? = some x → I i env S → ∃ fl env' S', turn x env S = .ok (fl, env') S' ∧ match fl with
      | .next => I (i + 1) env' S'
      | .ret v => Q v env' S') :
    ∀ (n i : Nat) (env : Env) (S : Sto), xs.length - i < n → i ≤ xs.length → I i env S → ∃ fl env' S', forLoop turn src n i env S = .ok (fl, env') S' ∧ match fl with
      | .next => I xs.length env' S'
      | .ret v => Q v env' S'
  | 0, i, env, S, h, _, _ => by omega
  | n + 1, i, env, S, h, hi, hI => by
    have e := hg i env S hI
    by_cases hx : i < xs.length
    · rw [List.getElem?_eq_getElem hx] at e
      obtain ⟨fl, env1, S1, e1, h1⟩ := ht i xs[i] env S (List.getElem?_eq_getElem hx) hI
      cases fl with
      | next =>
        obtain ⟨fl2, env', S', e2, h2⟩ := forLoop_inv I Q hg ht n (i + 1) env1 S1 (by omega) (by omega) h1
        exact ⟨fl2, env', S', by simp only [forLoop, e, e1, bind_ok_]; exact e2, h2⟩
      | ret v => exact ⟨.ret v, env1, S1, by simp only [forLoop, e, e1, bind_ok_], h1⟩
    · have hx2 : i = xs.length := by omega
      subst hx2
      rw [List.getElem?_eq_none (Nat.le_refl _)] at e
      exact ⟨.next, env, S, by simp only [forLoop, e], hI⟩
/-- a for: what holds between two turns (Q: behind a return) -/
theorem for_rule {xs : List Val} (I : Nat → Env → Sto → Prop) (Q : Val → Env → Sto → Prop) (hl : xs.length < 100000)
    (hg : ∀ i env S, I i env S → nextAt S i src = some (xs[i]?))
    (ht : ∀ i x env S, xs[i]? = some x → I i env S → ∃ fl env' S', ((asG cf g x env S).bind fun env2 S3 => evB cf k p env2 S3) = .ok (fl, env') S' ∧ match fl with
      | .next => I (i + 1) env' S'
      | .ret v => Q v env' S') (h0 : I 0 env S) :
    ∃ fl env' S', forS cf k g p src env S = .ok (fl, env') S' ∧ match fl with
      | .next => I xs.length env' S'
      | .ret v => Q v env' S' :=
  forLoop_inv I Q hg ht lim 0 env S (by rw [lim_eq]; omega) (Nat.zero_le _) h0
/-- .. where no turn returns -/
theorem for_next {xs : List Val} (I : Nat → Env → Sto → Prop) (hl : xs.length < 100000)
    (hg : ∀ i env S, I i env S → nextAt S i src = some (xs[i]?))
    (ht : ∀ i x env S, xs[i]? = some x → I i env S → ∃ env' S', ((asG cf g x env S).bind fun env2 S3 => evB cf k p env2 S3) = .ok (.next, env') S' ∧ I (i + 1) env' S') (h0 : I 0 env S) :
    ∃ env' S', forS cf k g p src env S = .ok (.next, env') S' ∧ I xs.length env' S' := by
  obtain ⟨fl, env', S', e, h⟩ := for_rule (cf := cf) (g := g) (p := p) (k := k) (src := src) (xs := xs) I (fun _ _ _ => False) hl hg (fun i x env S hx hI => by
    obtain ⟨env', S', e, h⟩ := ht i x env S hx hI
    exact ⟨.next, env', S', e, h⟩) h0
  cases fl with
  | next => exact ⟨env', S', e, h⟩
  | ret v => exact h.elim
/-! #### while -/
theorem whl_rule (I : Nat → Env → Sto → Prop) (Q : Fl → Env → Sto → Prop)
    (step : ∀ m env S, I m env S → ∃ x, evE cf c env S = .ok x S ∧ ((tru S x = some false ∧ Q .next env S) ∨ (tru S x = some true ∧ ∃ fl env' S', evB cf k p env S = .ok (fl, env') S' ∧ match fl with
      | .next => ∃ m', m' < m ∧ I m' env' S'
      | .ret v => Q (.ret v) env' S'))) {m : Nat} (hm : m < 100000) (h0 : I m env S) :
    ∃ fl env' S', whlS cf k c p env S = .ok (fl, env') S' ∧ Q fl env' S' := by
  have main : ∀ (n m : Nat) (env : Env) (S : Sto), m < n → I m env S → ∃ fl env' S', whlLoop (fun env1 S1 => (evE cf c env1 S1).bind fun x S2 => truR x S2) (fun env1 S1 => evB cf k p env1 S1) n env S = .ok (fl, env') S' ∧ Q fl env' S' := by
    intro n
    induction n with
    | zero => intro m env S h; omega
    | succ n ih =>
      intro m env S h hI
      obtain ⟨x, e1, h1⟩ := step m env S hI
      rcases h1 with ⟨h2, h3⟩ | ⟨h2, fl, env1, S1, e2, h3⟩
      · exact ⟨.next, env, S, by simp only [whlLoop, e1, bind_ok_, truR, h2, of_some_], h3⟩
      · cases fl with
        | ret v => exact ⟨.ret v, env1, S1, by simp only [whlLoop, e1, bind_ok_, truR, h2, of_some_, e2], h3⟩
        | next =>
          obtain ⟨m', hm', hI'⟩ := h3
          obtain ⟨fl2, env', S', e3, h4⟩ := ih m' env1 S1 (by omega) hI'
          exact ⟨fl2, env', S', by simp only [whlLoop, e1, bind_ok_, truR, h2, of_some_, e2]; exact e3, h4⟩
  unfold whlS
  simp only [evS]
  exact main lim m env S (by rw [lim_eq]; omega) h0
end
end Mp

set_option Elab.async false
set_option linter.all false
set_option maxRecDepth 100000
set_option maxHeartbeats 400000
/-! Mp, part U1: the store; what is dropped. -/
namespace Mp
open PySem
/-! ### the store -/
section
variable {S : Sto} {o o' : SO} {r q k : Nat} {v : Val} {xs : List Val}
@[simp] theorem n_new : (S.new o).n = S.n + 1 := id rfl
@[simp] theorem n_put : (S.put r o).n = S.n := id rfl
theorem ugt (h : S.get r = some o) : r < S.n := by
  unfold Sto.get at h
  split at h
  · assumption
  · cases h
@[simp] theorem ug_new : (S.new o).get S.n = some o := by
  unfold Sto.get Sto.new
  simp
@[simp] theorem ug_new' (h : r = S.n) : (S.new o).get r = some o := by subst h; exact ug_new
@[simp] theorem ug_old (h : r < S.n) : (S.new o).get r = S.get r := by
  unfold Sto.get Sto.new
  have e1 : r < S.n + 1 := by omega
  have e2 : S.n + 1 - 1 - r = (S.n - 1 - r) + 1 := by omega
  simp only [e2, if_pos h, if_pos e1, List.getElem?_cons_succ]
theorem ug_put (h : S.get r = some o) : (S.put r o').get r = some o' := by
  have hl := ugt h
  unfold Sto.get at h
  rw [if_pos hl] at h
  obtain ⟨h1, _⟩ := List.getElem?_eq_some_iff.mp h
  unfold Sto.get Sto.put
  simp only
  rw [if_pos hl, List.getElem?_set_self h1]
theorem ug_ne (hq : q < S.n) (hr : r < S.n) (h : q ≠ r) : (S.put r o').get q = S.get q := by
  unfold Sto.get Sto.put
  simp only
  rw [if_pos hq, if_pos hq, List.getElem?_set_ne (by omega)]
@[simp] theorem up_top : (S.new o).put S.n o' = S.new o' := by
  unfold Sto.put Sto.new
  simp
@[simp] theorem up_top' (h : r = S.n) : (S.new o).put r o' = S.new o' := by subst h; exact up_top
@[simp] theorem up_old (h : r < S.n) : (S.new o).put r o' = (S.put r o').new o := by
  unfold Sto.put Sto.new
  simp only
  have e2 : S.n + 1 - 1 - r = (S.n - 1 - r) + 1 := by omega
  rw [e2, List.set_cons_succ]
@[simp] theorem up_up : (S.put r o).put r o' = S.put r o' := by
  unfold Sto.put
  simp only [List.set_set]
theorem up_comm (hr : r < S.n) (hq : q < S.n) (h : q ≠ r) : (S.put r o).put q o' = (S.put q o').put r o := by
  unfold Sto.put
  simp only
  rw [List.set_comm]
  omega
theorem up_self (h : S.get r = some o) : S.put r o = S := by
  have hl := ugt h
  unfold Sto.get at h
  rw [if_pos hl] at h
  unfold Sto.put
  obtain ⟨h1, h2⟩ := List.getElem?_eq_some_iff.mp h
  obtain ⟨n, l⟩ := S
  simp only at h1 h2 ⊢
  congr 1
  rw [← h2, List.set_getElem_self]
theorem lst_eq (h : S.get r = some (.lst xs)) : S.lst r = some xs := by unfold Sto.lst; rw [h]
/-! ### well made -/
def Sto.wf (S : Sto) : Prop := S.l.length = S.n ∧ mono S.l = true
@[simp] theorem wf_new : (S.new o).wf ↔ S.wf ∧ o.rlt S.n = true := by
  unfold Sto.wf Sto.new
  simp only [List.length_cons, Nat.add_right_cancel_iff, mono, Bool.and_eq_true]
  constructor
  · rintro ⟨h1, h2, h3⟩
    exact ⟨⟨h1, h3⟩, by rw [← h1]; exact h2⟩
  · rintro ⟨⟨h1, h3⟩, h2⟩
    exact ⟨h1, by rw [h1]; exact h2, h3⟩
theorem mono_set : ∀ {l : List SO} {i : Nat} {o : SO}, mono l = true → i < l.length → o.rlt (l.length - 1 - i) = true → mono (l.set i o) = true
  | [], i, o, _, h, _ => by simp at h
  | x :: l, 0, o, hm, h, hr => by
    simp only [mono, Bool.and_eq_true, List.set_cons_zero] at hm ⊢
    refine ⟨?_, hm.2⟩
    simpa using hr
  | x :: l, i + 1, o, hm, h, hr => by
    simp only [mono, Bool.and_eq_true, List.set_cons_succ, List.length_set] at hm ⊢
    refine ⟨hm.1, mono_set hm.2 (by simpa using h) ?_⟩
    rw [show l.length - 1 - i = (x :: l).length - 1 - (i + 1) by simp; omega]
    exact hr
theorem wf_put (h : S.wf) (hr : r < S.n) (ho : o.rlt r = true) : (S.put r o).wf := by
  obtain ⟨h1, h2⟩ := h
  refine ⟨by unfold Sto.put; simp [h1], ?_⟩
  unfold Sto.put
  refine mono_set h2 (by omega) ?_
  rw [h1, show S.n - 1 - (S.n - 1 - r) = r by omega]
  exact ho
theorem wf_nil : Sto.wf ⟨0, []⟩ := ⟨rfl, rfl⟩
/-! ### values without objects -/
mutual
theorem pure_nrs : ∀ v : Val, pureV v = true → nrs k v = []
  | .non, _ => rfl
  | .bl _, _ => rfl
  | .int _, _ => rfl
  | .str _, _ => rfl
  | .tup xs, h => by simp only [pureV] at h; simp only [nrs]; exact pures_nrs xs h
  | .fl _, h => by simp [pureV] at h
  | .rng _ _, h => by simp [pureV] at h
  | .ref _, h => by simp [pureV] at h
theorem pures_nrs : ∀ vs : List Val, pureVs vs = true → nrss k vs = []
  | [], _ => rfl
  | x :: xs, h => by
    simp only [pureVs, Bool.and_eq_true] at h
    simp only [nrss, pure_nrs x h.1, pures_nrs xs h.2, List.append_nil]
end
mutual
theorem pure_rlt : ∀ v : Val, pureV v = true → rlt k v = true
  | .non, _ => rfl
  | .bl _, _ => rfl
  | .int _, _ => rfl
  | .str _, _ => rfl
  | .tup xs, h => by simp only [pureV] at h; simp only [rlt]; exact pures_rlt xs h
  | .fl _, h => by simp [pureV] at h
  | .rng _ _, h => by simp [pureV] at h
  | .ref _, h => by simp [pureV] at h
theorem pures_rlt : ∀ vs : List Val, pureVs vs = true → rlts k vs = true
  | [], _ => rfl
  | x :: xs, h => by
    simp only [pureVs, Bool.and_eq_true] at h
    simp only [rlts, pure_rlt x h.1, pures_rlt xs h.2, Bool.and_self]
end
mutual
theorem pure_ren {rs : List Nat} : ∀ v : Val, pureV v = true → ren k rs v = v
  | .non, _ => rfl
  | .bl _, _ => rfl
  | .int _, _ => rfl
  | .str _, _ => rfl
  | .tup xs, h => by simp only [pureV] at h; simp only [ren, pures_ren xs h]
  | .fl _, h => by simp [pureV] at h
  | .rng _ _, h => by simp [pureV] at h
  | .ref _, h => by simp [pureV] at h
theorem pures_ren {rs : List Nat} : ∀ vs : List Val, pureVs vs = true → rens k rs vs = vs
  | [], _ => rfl
  | x :: xs, h => by
    simp only [pureVs, Bool.and_eq_true] at h
    simp only [rens, pure_ren x h.1, pures_ren xs h.2]
end
theorem pureVs_all {vs : List Val} : pureVs vs = true ↔ ∀ v ∈ vs, pureV v = true := by
  induction vs with
  | nil => simp [pureVs]
  | cons x xs ih => simp [pureVs, ih]
@[simp] theorem pureVs_append {a b : List Val} : pureVs (a ++ b) = (pureVs a && pureVs b) := by
  induction a with
  | nil => simp [pureVs]
  | cons x xs ih => simp [pureVs, ih, Bool.and_assoc]
@[simp] theorem pureVs_ints {ns : List Int} : pureVs (ns.map Val.int) = true := by rw [pureVs_all]; intro v h; obtain ⟨n, _, rfl⟩ := List.mem_map.mp h; rfl
theorem pure_so {o : SO} (h : match o with
    | .lst xs => pureVs xs = true
    | .dct kvs => ∀ p ∈ kvs, pureV p.1 = true ∧ pureV p.2 = true
    | .ldc kvs => ∀ p ∈ kvs, pureV p.1 = true ∧ pureV p.2 = true
    | .dci kvs => ∀ p ∈ kvs, pureV p.2 = true
    | .ldi kvs => ∀ p ∈ kvs, pureV p.2 = true) : o.rlt k = true := by
  cases o with
  | lst xs => exact pures_rlt xs h
  | dct kvs => simp only [SO.rlt, List.all_eq_true, Bool.and_eq_true]; exact fun p hp => ⟨pure_rlt _ (h p hp).1, pure_rlt _ (h p hp).2⟩
  | ldc kvs => simp only [SO.rlt, List.all_eq_true, Bool.and_eq_true]; exact fun p hp => ⟨pure_rlt _ (h p hp).1, pure_rlt _ (h p hp).2⟩
  | dci kvs => simp only [SO.rlt, List.all_eq_true]; exact fun p hp => pure_rlt _ (h p hp)
  | ldi kvs => simp only [SO.rlt, List.all_eq_true]; exact fun p hp => pure_rlt _ (h p hp)
/-! ### what is dropped -/
theorem keep_some {S1 : Sto} {rs : List Nat} {os : List SO} (hk : S.n = k) (h : S.wf) (hn : k ≤ S1.n) (hold : S1.old k = S.l) (hg : optAll S1.get rs = some os) (ho : os.all (SO.rlt k) = true) : S1.keep k rs = some ⟨k + rs.length, os.reverse ++ S.l⟩ := by
  subst hk
  have e : (Nat.ble S.n S1.n && (S.l.length == S.n) && mono S.l) = true := by
    rw [Nat.ble_eq_true_of_le hn, h.1, h.2]
    simp
  unfold Sto.keep
  rw [hold, if_pos e, hg]
  dsimp only
  rw [if_pos ho]
theorem gc_flat {S1 : Sto} (hk : S.n = k) (h : S.wf) (hn : k ≤ S1.n) (hold : S1.old k = S.l) (hv : nrs k v = []) : gcV k v S1 = (v, S) := by
  unfold gcV
  rw [hv, show uniqN [] = [] from rfl, keep_some (rs := []) (os := []) hk h hn hold rfl rfl]
  dsimp only
  have : ren k [] v = v := ren_flat v hv
  rw [this]
  subst hk
  rfl
where
  ren_flat : ∀ v : Val, nrs k v = [] → ren k [] v = v := by
    intro v h
    exact ren_none v h
  ren_none : ∀ v : Val, nrs k v = [] → ren k [] v = v
    | .non, _ => rfl
    | .bl _, _ => rfl
    | .int _, _ => rfl
    | .str _, _ => rfl
    | .rng _ _, _ => rfl
    | .tup xs, h => by simp only [nrs] at h; simp only [ren, rens_none xs h]
    | .fl xs, h => by simp only [nrs] at h; simp only [ren, rens_none xs h]
    | .ref r, h => by
      simp only [nrs] at h
      simp only [ren]
      cases e : Nat.blt r k with
      | true => rfl
      | false => rw [e] at h; simp at h
  rens_none : ∀ vs : List Val, nrss k vs = [] → rens k [] vs = vs
    | [], _ => rfl
    | x :: xs, h => by
      simp only [nrss, List.append_eq_nil_iff] at h
      simp only [rens, ren_none x h.1, rens_none xs h.2]
theorem gc_ref {S1 : Sto} (hk : S.n = k) (h : S.wf) (hn : k ≤ S1.n) (hold : S1.old k = S.l) (hr : k ≤ r) (hg : S1.get r = some o) (ho : o.rlt k = true) : gcV k (.ref r) S1 = (.ref k, S.new o) := by
  have hb : Nat.blt r k = false := by
    cases e : Nat.blt r k with
    | false => rfl
    | true =>
      unfold Nat.blt at e
      have := Nat.le_of_ble_eq_true e
      omega
  have e1 : nrs k (.ref r) = [r] := by simp only [nrs, hb]; rfl
  unfold gcV
  rw [e1, show uniqN [r] = [r] from rfl, keep_some (rs := [r]) (os := [o]) hk h hn hold (by simp only [optAll, hg]) (by simp [ho])]
  simp only [ren, hb, Bool.false_eq_true, if_false, List.idxOf_cons_self, Nat.add_zero]
  subst hk
  rfl
@[simp] theorem old_self (h : S.wf) : S.old S.n = S.l := by unfold Sto.old; simp
theorem old_new (h : k ≤ S.n) : (S.new o).old k = S.old k := by
  unfold Sto.old Sto.new
  simp only
  rw [show S.n + 1 - k = (S.n - k) + 1 by omega, List.drop_succ_cons]
end
@[simp] theorem gcf0 {S : Sto} {v : Val} {k : Nat} (hk : S.n = k) (hv : nrs k v = []) : gcV k v S = (v, S) := by
  subst hk
  have e0 : S.old S.n = S.l := by unfold Sto.old; simp
  have e : ren S.n [] v = v := gc_flat.ren_flat v hv
  unfold gcV Sto.keep
  rw [hv, show uniqN [] = [] from rfl, e0, e]
  cases Nat.ble S.n S.n && S.l.length == S.n && mono S.l <;> rfl
@[simp] theorem gcf1 {S : Sto} {v : Val} {k : Nat} {a : SO} (hk : S.n = k) (h : S.wf) (hv : nrs k v = []) : gcV k v (S.new a) = (v, S) := gc_flat hk h (by (try simp only [n_new]); omega) (by rw [old_new (by (try simp only [n_new]); omega)]; subst hk; exact old_self h) hv
@[simp] theorem gcr1_0 {S : Sto} {k r : Nat} {a : SO} (hk : S.n = k) (h : S.wf) (hr : r = k + 0) (ho : a.rlt k = true) : gcV k (.ref r) (S.new a) = (.ref k, S.new a) := by
  subst hr
  exact gc_ref hk h (by (try simp only [n_new]); omega) (by rw [old_new (by (try simp only [n_new]); omega)]; subst hk; exact old_self h) (by omega) (by exact ug_new' (by (try simp only [n_new]); omega)) ho
@[simp] theorem gcf2 {S : Sto} {v : Val} {k : Nat} {a b : SO} (hk : S.n = k) (h : S.wf) (hv : nrs k v = []) : gcV k v ((S.new a).new b) = (v, S) := gc_flat hk h (by (try simp only [n_new]); omega) (by rw [old_new (by (try simp only [n_new]); omega)]; rw [old_new (by (try simp only [n_new]); omega)]; subst hk; exact old_self h) hv
@[simp] theorem gcr2_0 {S : Sto} {k r : Nat} {a b : SO} (hk : S.n = k) (h : S.wf) (hr : r = k + 0) (ho : a.rlt k = true) : gcV k (.ref r) ((S.new a).new b) = (.ref k, S.new a) := by
  subst hr
  exact gc_ref hk h (by (try simp only [n_new]); omega) (by rw [old_new (by (try simp only [n_new]); omega)]; rw [old_new (by (try simp only [n_new]); omega)]; subst hk; exact old_self h) (by omega) (by rw [ug_old (by (try simp only [n_new]); omega)]; exact ug_new' (by (try simp only [n_new]); omega)) ho
@[simp] theorem gcr2_1 {S : Sto} {k r : Nat} {a b : SO} (hk : S.n = k) (h : S.wf) (hr : r = k + 1) (ho : b.rlt k = true) : gcV k (.ref r) ((S.new a).new b) = (.ref k, S.new b) := by
  subst hr
  exact gc_ref hk h (by (try simp only [n_new]); omega) (by rw [old_new (by (try simp only [n_new]); omega)]; rw [old_new (by (try simp only [n_new]); omega)]; subst hk; exact old_self h) (by omega) (by exact ug_new' (by (try simp only [n_new]); omega)) ho
@[simp] theorem gcf3 {S : Sto} {v : Val} {k : Nat} {a b c : SO} (hk : S.n = k) (h : S.wf) (hv : nrs k v = []) : gcV k v (((S.new a).new b).new c) = (v, S) := gc_flat hk h (by (try simp only [n_new]); omega) (by rw [old_new (by (try simp only [n_new]); omega)]; rw [old_new (by (try simp only [n_new]); omega)]; rw [old_new (by (try simp only [n_new]); omega)]; subst hk; exact old_self h) hv
@[simp] theorem gcr3_0 {S : Sto} {k r : Nat} {a b c : SO} (hk : S.n = k) (h : S.wf) (hr : r = k + 0) (ho : a.rlt k = true) : gcV k (.ref r) (((S.new a).new b).new c) = (.ref k, S.new a) := by
  subst hr
  exact gc_ref hk h (by (try simp only [n_new]); omega) (by rw [old_new (by (try simp only [n_new]); omega)]; rw [old_new (by (try simp only [n_new]); omega)]; rw [old_new (by (try simp only [n_new]); omega)]; subst hk; exact old_self h) (by omega) (by rw [ug_old (by (try simp only [n_new]); omega)]; rw [ug_old (by (try simp only [n_new]); omega)]; exact ug_new' (by (try simp only [n_new]); omega)) ho
@[simp] theorem gcr3_1 {S : Sto} {k r : Nat} {a b c : SO} (hk : S.n = k) (h : S.wf) (hr : r = k + 1) (ho : b.rlt k = true) : gcV k (.ref r) (((S.new a).new b).new c) = (.ref k, S.new b) := by
  subst hr
  exact gc_ref hk h (by (try simp only [n_new]); omega) (by rw [old_new (by (try simp only [n_new]); omega)]; rw [old_new (by (try simp only [n_new]); omega)]; rw [old_new (by (try simp only [n_new]); omega)]; subst hk; exact old_self h) (by omega) (by rw [ug_old (by (try simp only [n_new]); omega)]; exact ug_new' (by (try simp only [n_new]); omega)) ho
@[simp] theorem gcr3_2 {S : Sto} {k r : Nat} {a b c : SO} (hk : S.n = k) (h : S.wf) (hr : r = k + 2) (ho : c.rlt k = true) : gcV k (.ref r) (((S.new a).new b).new c) = (.ref k, S.new c) := by
  subst hr
  exact gc_ref hk h (by (try simp only [n_new]); omega) (by rw [old_new (by (try simp only [n_new]); omega)]; rw [old_new (by (try simp only [n_new]); omega)]; rw [old_new (by (try simp only [n_new]); omega)]; subst hk; exact old_self h) (by omega) (by exact ug_new' (by (try simp only [n_new]); omega)) ho
@[simp] theorem gcf4 {S : Sto} {v : Val} {k : Nat} {a b c d : SO} (hk : S.n = k) (h : S.wf) (hv : nrs k v = []) : gcV k v ((((S.new a).new b).new c).new d) = (v, S) := gc_flat hk h (by (try simp only [n_new]); omega) (by rw [old_new (by (try simp only [n_new]); omega)]; rw [old_new (by (try simp only [n_new]); omega)]; rw [old_new (by (try simp only [n_new]); omega)]; rw [old_new (by (try simp only [n_new]); omega)]; subst hk; exact old_self h) hv
@[simp] theorem gcr4_0 {S : Sto} {k r : Nat} {a b c d : SO} (hk : S.n = k) (h : S.wf) (hr : r = k + 0) (ho : a.rlt k = true) : gcV k (.ref r) ((((S.new a).new b).new c).new d) = (.ref k, S.new a) := by
  subst hr
  exact gc_ref hk h (by (try simp only [n_new]); omega) (by rw [old_new (by (try simp only [n_new]); omega)]; rw [old_new (by (try simp only [n_new]); omega)]; rw [old_new (by (try simp only [n_new]); omega)]; rw [old_new (by (try simp only [n_new]); omega)]; subst hk; exact old_self h) (by omega) (by rw [ug_old (by (try simp only [n_new]); omega)]; rw [ug_old (by (try simp only [n_new]); omega)]; rw [ug_old (by (try simp only [n_new]); omega)]; exact ug_new' (by (try simp only [n_new]); omega)) ho
@[simp] theorem gcr4_1 {S : Sto} {k r : Nat} {a b c d : SO} (hk : S.n = k) (h : S.wf) (hr : r = k + 1) (ho : b.rlt k = true) : gcV k (.ref r) ((((S.new a).new b).new c).new d) = (.ref k, S.new b) := by
  subst hr
  exact gc_ref hk h (by (try simp only [n_new]); omega) (by rw [old_new (by (try simp only [n_new]); omega)]; rw [old_new (by (try simp only [n_new]); omega)]; rw [old_new (by (try simp only [n_new]); omega)]; rw [old_new (by (try simp only [n_new]); omega)]; subst hk; exact old_self h) (by omega) (by rw [ug_old (by (try simp only [n_new]); omega)]; rw [ug_old (by (try simp only [n_new]); omega)]; exact ug_new' (by (try simp only [n_new]); omega)) ho
@[simp] theorem gcr4_2 {S : Sto} {k r : Nat} {a b c d : SO} (hk : S.n = k) (h : S.wf) (hr : r = k + 2) (ho : c.rlt k = true) : gcV k (.ref r) ((((S.new a).new b).new c).new d) = (.ref k, S.new c) := by
  subst hr
  exact gc_ref hk h (by (try simp only [n_new]); omega) (by rw [old_new (by (try simp only [n_new]); omega)]; rw [old_new (by (try simp only [n_new]); omega)]; rw [old_new (by (try simp only [n_new]); omega)]; rw [old_new (by (try simp only [n_new]); omega)]; subst hk; exact old_self h) (by omega) (by rw [ug_old (by (try simp only [n_new]); omega)]; exact ug_new' (by (try simp only [n_new]); omega)) ho
@[simp] theorem gcr4_3 {S : Sto} {k r : Nat} {a b c d : SO} (hk : S.n = k) (h : S.wf) (hr : r = k + 3) (ho : d.rlt k = true) : gcV k (.ref r) ((((S.new a).new b).new c).new d) = (.ref k, S.new d) := by
  subst hr
  exact gc_ref hk h (by (try simp only [n_new]); omega) (by rw [old_new (by (try simp only [n_new]); omega)]; rw [old_new (by (try simp only [n_new]); omega)]; rw [old_new (by (try simp only [n_new]); omega)]; rw [old_new (by (try simp only [n_new]); omega)]; subst hk; exact old_self h) (by omega) (by exact ug_new' (by (try simp only [n_new]); omega)) ho
@[simp] theorem gcf5 {S : Sto} {v : Val} {k : Nat} {a b c d e : SO} (hk : S.n = k) (h : S.wf) (hv : nrs k v = []) : gcV k v (((((S.new a).new b).new c).new d).new e) = (v, S) := gc_flat hk h (by (try simp only [n_new]); omega) (by rw [old_new (by (try simp only [n_new]); omega)]; rw [old_new (by (try simp only [n_new]); omega)]; rw [old_new (by (try simp only [n_new]); omega)]; rw [old_new (by (try simp only [n_new]); omega)]; rw [old_new (by (try simp only [n_new]); omega)]; subst hk; exact old_self h) hv
@[simp] theorem gcr5_0 {S : Sto} {k r : Nat} {a b c d e : SO} (hk : S.n = k) (h : S.wf) (hr : r = k + 0) (ho : a.rlt k = true) : gcV k (.ref r) (((((S.new a).new b).new c).new d).new e) = (.ref k, S.new a) := by
  subst hr
  exact gc_ref hk h (by (try simp only [n_new]); omega) (by rw [old_new (by (try simp only [n_new]); omega)]; rw [old_new (by (try simp only [n_new]); omega)]; rw [old_new (by (try simp only [n_new]); omega)]; rw [old_new (by (try simp only [n_new]); omega)]; rw [old_new (by (try simp only [n_new]); omega)]; subst hk; exact old_self h) (by omega) (by rw [ug_old (by (try simp only [n_new]); omega)]; rw [ug_old (by (try simp only [n_new]); omega)]; rw [ug_old (by (try simp only [n_new]); omega)]; rw [ug_old (by (try simp only [n_new]); omega)]; exact ug_new' (by (try simp only [n_new]); omega)) ho
@[simp] theorem gcr5_1 {S : Sto} {k r : Nat} {a b c d e : SO} (hk : S.n = k) (h : S.wf) (hr : r = k + 1) (ho : b.rlt k = true) : gcV k (.ref r) (((((S.new a).new b).new c).new d).new e) = (.ref k, S.new b) := by
  subst hr
  exact gc_ref hk h (by (try simp only [n_new]); omega) (by rw [old_new (by (try simp only [n_new]); omega)]; rw [old_new (by (try simp only [n_new]); omega)]; rw [old_new (by (try simp only [n_new]); omega)]; rw [old_new (by (try simp only [n_new]); omega)]; rw [old_new (by (try simp only [n_new]); omega)]; subst hk; exact old_self h) (by omega) (by rw [ug_old (by (try simp only [n_new]); omega)]; rw [ug_old (by (try simp only [n_new]); omega)]; rw [ug_old (by (try simp only [n_new]); omega)]; exact ug_new' (by (try simp only [n_new]); omega)) ho
@[simp] theorem gcr5_2 {S : Sto} {k r : Nat} {a b c d e : SO} (hk : S.n = k) (h : S.wf) (hr : r = k + 2) (ho : c.rlt k = true) : gcV k (.ref r) (((((S.new a).new b).new c).new d).new e) = (.ref k, S.new c) := by
  subst hr
  exact gc_ref hk h (by (try simp only [n_new]); omega) (by rw [old_new (by (try simp only [n_new]); omega)]; rw [old_new (by (try simp only [n_new]); omega)]; rw [old_new (by (try simp only [n_new]); omega)]; rw [old_new (by (try simp only [n_new]); omega)]; rw [old_new (by (try simp only [n_new]); omega)]; subst hk; exact old_self h) (by omega) (by rw [ug_old (by (try simp only [n_new]); omega)]; rw [ug_old (by (try simp only [n_new]); omega)]; exact ug_new' (by (try simp only [n_new]); omega)) ho
@[simp] theorem gcr5_3 {S : Sto} {k r : Nat} {a b c d e : SO} (hk : S.n = k) (h : S.wf) (hr : r = k + 3) (ho : d.rlt k = true) : gcV k (.ref r) (((((S.new a).new b).new c).new d).new e) = (.ref k, S.new d) := by
  subst hr
  exact gc_ref hk h (by (try simp only [n_new]); omega) (by rw [old_new (by (try simp only [n_new]); omega)]; rw [old_new (by (try simp only [n_new]); omega)]; rw [old_new (by (try simp only [n_new]); omega)]; rw [old_new (by (try simp only [n_new]); omega)]; rw [old_new (by (try simp only [n_new]); omega)]; subst hk; exact old_self h) (by omega) (by rw [ug_old (by (try simp only [n_new]); omega)]; exact ug_new' (by (try simp only [n_new]); omega)) ho
@[simp] theorem gcr5_4 {S : Sto} {k r : Nat} {a b c d e : SO} (hk : S.n = k) (h : S.wf) (hr : r = k + 4) (ho : e.rlt k = true) : gcV k (.ref r) (((((S.new a).new b).new c).new d).new e) = (.ref k, S.new e) := by
  subst hr
  exact gc_ref hk h (by (try simp only [n_new]); omega) (by rw [old_new (by (try simp only [n_new]); omega)]; rw [old_new (by (try simp only [n_new]); omega)]; rw [old_new (by (try simp only [n_new]); omega)]; rw [old_new (by (try simp only [n_new]); omega)]; rw [old_new (by (try simp only [n_new]); omega)]; subst hk; exact old_self h) (by omega) (by exact ug_new' (by (try simp only [n_new]); omega)) ho
section
variable {k r : Nat} {b : Bool} {i : Int} {x : Str} {v : Val} {xs ys : List Val} {S : Sto} {env : Env}
@[simp] theorem nrs_non : nrs k .non = [] := id rfl
@[simp] theorem nrs_bl : nrs k (.bl b) = [] := id rfl
@[simp] theorem nrs_int : nrs k (.int i) = [] := id rfl
@[simp] theorem nrs_str : nrs k (.str x) = [] := id rfl
@[simp] theorem nrs_tup : nrs k (.tup xs) = nrss k xs := id rfl
@[simp] theorem nrss_nil : nrss k [] = [] := id rfl
@[simp] theorem nrss_cons : nrss k (v :: xs) = nrs k v ++ nrss k xs := id rfl
@[simp] theorem nrss_append : nrss k (xs ++ ys) = nrss k xs ++ nrss k ys := by
  induction xs with
  | nil => rfl
  | cons x xs ih => simp [ih]
@[simp] theorem nrss_ints {ns : List Int} : nrss k (ns.map Val.int) = [] := pures_nrs _ pureVs_ints
@[simp] theorem rlt_non : rlt k .non = true := id rfl
@[simp] theorem rlt_bl : rlt k (.bl b) = true := id rfl
@[simp] theorem rlt_int : rlt k (.int i) = true := id rfl
@[simp] theorem rlt_str : rlt k (.str x) = true := id rfl
@[simp] theorem rlt_tup : rlt k (.tup xs) = rlts k xs := id rfl
@[simp] theorem rlts_nil : rlts k [] = true := id rfl
@[simp] theorem rlts_cons : rlts k (v :: xs) = (rlt k v && rlts k xs) := id rfl
@[simp] theorem rlts_append : rlts k (xs ++ ys) = (rlts k xs && rlts k ys) := by
  induction xs with
  | nil => simp
  | cons x xs ih => simp [ih, Bool.and_assoc]
@[simp] theorem rlts_ints {ns : List Int} : rlts k (ns.map Val.int) = true := pures_rlt _ pureVs_ints
@[simp] theorem solt_lst : SO.rlt k (.lst xs) = rlts k xs := id rfl
@[simp] theorem solt_dct {kvs : List (Val × Val)} : SO.rlt k (.dct kvs) = kvs.all fun p => rlt k p.1 && rlt k p.2 := id rfl
theorem rlt_ref (h : r < k) : rlt k (.ref r) = true := by
  simp only [rlt]
  unfold Nat.blt
  exact Nat.ble_eq_true_of_le h
theorem nrs_ref (h : r < k) : nrs k (.ref r) = [] := by
  have : Nat.blt r k = true := by unfold Nat.blt; exact Nat.ble_eq_true_of_le h
  simp only [nrs, this, if_true]
@[simp] theorem ret_ret : retOf true k (.ret v, env) S = .ok (gcV k v S).1 (gcV k v S).2 := id rfl
@[simp] theorem ret_next : retOf true k (.next, env) S = .ok (gcV k .non S).1 (gcV k .non S).2 := id rfl
mutual
theorem rlt_nrs : ∀ v : Val, rlt k v = true → nrs k v = []
  | .non, _ => rfl
  | .bl _, _ => rfl
  | .int _, _ => rfl
  | .str _, _ => rfl
  | .rng _ _, _ => rfl
  | .tup xs, h => by simp only [rlt] at h; simp only [nrs]; exact rlts_nrss xs h
  | .fl xs, h => by simp only [rlt] at h; simp only [nrs]; exact rlts_nrss xs h
  | .ref r, h => by simp only [rlt] at h; simp only [nrs, h, if_true]
theorem rlts_nrss : ∀ vs : List Val, rlts k vs = true → nrss k vs = []
  | [], _ => rfl
  | x :: xs, h => by
    simp only [rlts, Bool.and_eq_true] at h
    simp only [nrss, rlt_nrs x h.1, rlts_nrss xs h.2, List.append_nil]
end
end
end Mp

set_option Elab.async false
set_option linter.all false
set_option maxRecDepth 100000
set_option maxHeartbeats 800000
/-! Mp, part U2: operations on values. -/
namespace Mp
open PySem
section
variable {S : Sto} {i j : Int} {xs ys : List Val} {r q k : Nat} {v w : Val}
theorem cap_eq : cap = 1000000 := rfl
@[simp] theorem bop_add : bop .add (.int i) (.int j) S = .ok (.int (i + j)) S := id rfl
@[simp] theorem bop_sub : bop .sub (.int i) (.int j) S = .ok (.int (i - j)) S := id rfl
@[simp] theorem bop_cat (h : xs.length + ys.length ≤ 1000000) : bop .add (.tup xs) (.tup ys) S = .ok (.tup (xs ++ ys)) S := by
  simp only [bop, cap_eq, h, if_true]
theorem bop_mul (h : mulOk i j = true) : bop .mul (.int i) (.int j) S = .ok (.int (i * j)) S := by simp only [bop, if_pos h]
theorem bop_mod (h : 0 < j) : bop .mod (.int i) (.int j) S = .ok (.int (i % j)) S := by simp only [bop, decide_eq_true h, if_true]
theorem bop_fdiv (h : 0 < j) (h2 : j < 1073741824) : bop .fdiv (.int i) (.int j) S = .ok (.int (i / j)) S := by
  simp only [bop, divOk, decide_eq_true h, decide_eq_true h2, Bool.and_self, if_true]
theorem mul_l (h : -(2 ^ 64) < i) (h2 : i < 2 ^ 64) : mulOk i j = true := by simp only [mulOk, decide_eq_true h, decide_eq_true h2, Bool.and_self, Bool.true_or]
theorem mul_r (h : -(2 ^ 64) < j) (h2 : j < 2 ^ 64) : mulOk i j = true := by simp only [mulOk, decide_eq_true h, decide_eq_true h2, Bool.and_self, Bool.or_true]
theorem bop_lst {xs ys : List Val} (h1 : S.get r = some (.lst xs)) (h2 : S.get q = some (.lst ys)) (h : xs.length + ys.length ≤ 1000000) : bop .add (.ref r) (.ref q) S = .ok (.ref S.n) (S.new (.lst (xs ++ ys))) := by
  simp only [bop, lst_eq h1, lst_eq h2, cap_eq, h, if_true]
/-! ### comparisons -/
@[simp] theorem cop_eq_int : cop .eq (.int i) (.int j) S = .ok (.bl (decide (i = j))) S := by
  simp only [cop, eqB, Option.map_some, of_some_]
  rfl
@[simp] theorem cop_ne_int : cop .ne (.int i) (.int j) S = .ok (.bl (!decide (i = j))) S := by
  simp only [cop, eqB, Option.map_some, of_some_]
  rfl
@[simp] theorem cop_lt_int : cop .lt (.int i) (.int j) S = .ok (.bl (decide (i < j))) S := by simp only [cop, ltB, Option.map_some, of_some_]
@[simp] theorem cop_gt_int : cop .gt (.int i) (.int j) S = .ok (.bl (decide (j < i))) S := id rfl
@[simp] theorem cop_le_int : cop .le (.int i) (.int j) S = .ok (.bl (decide (i ≤ j))) S := id rfl
@[simp] theorem cop_ge_int : cop .ge (.int i) (.int j) S = .ok (.bl (decide (j ≤ i))) S := id rfl
def isN : Val → Bool
  | .non => true
  | _ => false
@[simp] theorem isN_non : isN .non = true := id rfl
@[simp] theorem isN_int : isN (.int i) = false := id rfl
@[simp] theorem isN_tup : isN (.tup xs) = false := id rfl
@[simp] theorem isN_str {x : Str} : isN (.str x) = false := id rfl
@[simp] theorem cop_is_non : cop .is v .non S = .ok (.bl (isN v)) S := by cases v <;> exact id rfl
@[simp] theorem cop_nis_non : cop .nis v .non S = .ok (.bl (!isN v)) S := by cases v <;> exact id rfl
@[simp] theorem cop_is_bl {a b : Bool} : cop .is (.bl a) (.bl b) S = .ok (.bl (a == b)) S := id rfl
@[simp] theorem cop_nis_bl {a b : Bool} : cop .nis (.bl a) (.bl b) S = .ok (.bl (a != b)) S := id rfl
/-! ### values told apart -/
mutual
/-- a value as data -/
def toD : Val → PyData
  | .non => .none
  | .bl b => .bool b
  | .int i => .int i
  | .str x => .str x
  | .tup xs => .tuple (toDs xs)
  | _ => .none
def toDs : List Val → List PyData
  | [] => []
  | x :: xs => toD x :: toDs xs
end
/-- how deep -/
def dpV : Nat → Val → Bool
  | 0, _ => false
  | k + 1, v => match v with
    | .tup xs => xs.all (dpV k)
    | .fl _ => false
    | .rng _ _ => false
    | .ref _ => false
    | _ => true
theorem optAll_map {α β : Type} {f : α → Option β} {g : α → β} : ∀ {l : List α}, (∀ x ∈ l, f x = some (g x)) → optAll f l = some (l.map g)
  | [], _ => rfl
  | a :: l, h => by simp only [optAll, h a (List.mem_cons_self ..), optAll_map (l := l) fun x hx => h x (List.mem_cons_of_mem _ hx), List.map_cons]
theorem toDs_map : ∀ xs : List Val, toDs xs = xs.map toD
  | [] => rfl
  | x :: xs => by simp only [toDs, toDs_map xs, List.map_cons]
theorem dat_toD : ∀ (k : Nat) (v : Val), dpV k v = true → dat S k v = some (toD v)
  | 0, v, h => by simp [dpV] at h
  | k + 1, v, h => by
    cases v with
    | tup xs =>
      simp only [dpV, List.all_eq_true] at h
      simp only [dat, optAll_map (g := toD) fun x hx => dat_toD k x (h x hx), toD, toDs_map]
    | non => rfl
    | bl b => rfl
    | int i => rfl
    | str x => rfl
    | fl xs => simp [dpV] at h
    | rng a b => simp [dpV] at h
    | ref r => simp [dpV] at h
theorem key_dp : ∀ (k : Nat) (v : Val), keyOk k v = true → dpV k v = true
  | 0, v, h => by simp [keyOk] at h
  | k + 1, v, h => by
    cases v with
    | tup xs =>
      simp only [keyOk, List.all_eq_true] at h
      simp only [dpV, List.all_eq_true]
      exact fun x hx => key_dp k x (h x hx)
    | non => rfl
    | bl b => rfl
    | int i => rfl
    | str x => rfl
    | fl xs => simp [keyOk] at h
    | rng a b => simp [keyOk] at h
    | ref r => simp [keyOk] at h
theorem key_pure : ∀ (k : Nat) (v : Val), keyOk k v = true → pureV v = true
  | 0, v, h => by simp [keyOk] at h
  | k + 1, v, h => by
    cases v with
    | tup xs =>
      simp only [keyOk, List.all_eq_true] at h
      simp only [pureV, pureVs_all]
      exact fun x hx => key_pure k x (h x hx)
    | non => rfl
    | bl b => rfl
    | int i => rfl
    | str x => rfl
    | fl xs => simp [keyOk] at h
    | rng a b => simp [keyOk] at h
    | ref r => simp [keyOk] at h
theorem dp_up : ∀ (k j : Nat) (v : Val), k ≤ j → dpV k v = true → dpV j v = true
  | 0, _, v, _, h => by simp [dpV] at h
  | k + 1, 0, v, hk, h => by omega
  | k + 1, j + 1, v, hk, h => by
    cases v with
    | tup xs =>
      simp only [dpV, List.all_eq_true] at h ⊢
      exact fun x hx => dp_up k j x (by omega) (h x hx)
    | non => rfl
    | bl b => rfl
    | int i => rfl
    | str x => rfl
    | fl xs => simp [dpV] at h
    | rng a b => simp [dpV] at h
    | ref r => simp [dpV] at h
theorem key_up : ∀ (k j : Nat) (v : Val), k ≤ j → keyOk k v = true → keyOk j v = true
  | 0, _, v, _, h => by simp [keyOk] at h
  | k + 1, 0, v, hk, h => by omega
  | k + 1, j + 1, v, hk, h => by
    cases v with
    | tup xs =>
      simp only [keyOk, List.all_eq_true] at h ⊢
      exact fun x hx => key_up k j x (by omega) (h x hx)
    | non => rfl
    | bl b => simp [keyOk] at h
    | int i => rfl
    | str x => rfl
    | fl xs => simp [keyOk] at h
    | rng a b => simp [keyOk] at h
    | ref r => simp [keyOk] at h
mutual
theorem eqv_veq : ∀ (n m : Nat) (a b : Val), keyOk n a = true → keyOk m b = true → PyData.eqv (toD a) (toD b) = veq a b
  | 0, _, a, b, h, _ => by simp [keyOk] at h
  | n + 1, 0, a, b, _, h => by simp [keyOk] at h
  | n + 1, m + 1, a, b, ha, hb => by
    cases a <;> cases b <;> first
      | (exfalso; simp only [keyOk, Bool.false_eq_true] at ha; done)
      | (exfalso; simp only [keyOk, Bool.false_eq_true] at hb; done)
      | (simp only [toD, PyData.eqv, veq]; done)
      | skip
    · rename_i xs ys
      simp only [keyOk] at ha hb
      simp only [toD, PyData.eqv, veq]
      exact eqvs_veqs n m xs ys ha hb
theorem eqvs_veqs : ∀ (n m : Nat) (a b : List Val), a.all (keyOk n) = true → b.all (keyOk m) = true → PyData.eqvAll (toDs a) (toDs b) = veqs a b
  | n, m, [], [], _, _ => by simp only [toDs, PyData.eqvAll, veqs]
  | n, m, [], y :: b, _, _ => by simp only [toDs, PyData.eqvAll, veqs]
  | n, m, x :: a, [], _, _ => by simp only [toDs, PyData.eqvAll, veqs]
  | n, m, x :: a, y :: b, ha, hb => by
    simp only [List.all_cons, Bool.and_eq_true] at ha hb
    simp only [toDs, PyData.eqvAll, veqs, eqv_veq n m x y ha.1 hb.1, eqvs_veqs n m a b ha.2 hb.2]
end
mutual
theorem veq_iff : ∀ (n m : Nat) (a b : Val), keyOk n a = true → keyOk m b = true → (veq a b = true ↔ a = b)
  | 0, _, a, b, h, _ => by simp [keyOk] at h
  | n + 1, 0, a, b, _, h => by simp [keyOk] at h
  | n + 1, m + 1, a, b, ha, hb => by
    cases a <;> cases b <;> first
      | (exfalso; simp only [keyOk, Bool.false_eq_true] at ha; done)
      | (exfalso; simp only [keyOk, Bool.false_eq_true] at hb; done)
      | (simp [veq]; done)
      | skip
    · rename_i xs ys
      simp only [keyOk] at ha hb
      simp only [veq, Val.tup.injEq]
      exact veqs_iff n m xs ys ha hb
theorem veqs_iff : ∀ (n m : Nat) (a b : List Val), a.all (keyOk n) = true → b.all (keyOk m) = true → (veqs a b = true ↔ a = b)
  | n, m, [], [], _, _ => by simp [veqs]
  | n, m, [], y :: b, _, _ => by simp [veqs]
  | n, m, x :: a, [], _, _ => by simp [veqs]
  | n, m, x :: a, y :: b, ha, hb => by
    simp only [List.all_cons, Bool.and_eq_true] at ha hb
    simp only [veqs, Bool.and_eq_true, veq_iff n m x y ha.1 hb.1, veqs_iff n m a b ha.2 hb.2, List.cons.injEq]
end
theorem deep_eq : deep = 12 := rfl
/-- == of values without truths -/
theorem eqB_key (ha : keyOk 12 v = true) (hb : keyOk 12 w = true) : eqB S v w = some (veq v w) := by
  have e : PyData.eqv (toD v) (toD w) = veq v w := eqv_veq 12 12 v w ha hb
  have g : (match dat S deep v, dat S deep w with
      | some d, some e => some (PyData.eqv d e)
      | _, _ => none) = some (veq v w) := by rw [deep_eq, dat_toD 12 v (key_dp 12 v ha), dat_toD 12 w (key_dp 12 w hb), ← e]
  cases v <;> cases w <;> first
    | (exfalso; simp only [keyOk, Bool.false_eq_true] at ha; done)
    | (exfalso; simp only [keyOk, Bool.false_eq_true] at hb; done)
    | (simp only [eqB, lstOf]; exact g)
    | (simp only [eqB, veq]; done)
    | skip
  · rename_i xs ys
    cases ys with
    | nil =>
      simp only [eqB, veq]
      cases xs <;> simp [veqs]
    | cons y ys => simp only [eqB, lstOf]; exact g
theorem dat_lst {n : Nat} {ds : List PyData} (h : S.get r = some (.lst xs)) (e : optAll (dat S n) xs = some ds) : dat S (n + 1) (.ref r) = some (.list ds) := by simp only [dat, lst_eq h, e]
theorem eqB_lst {xs ys : List Val} (h1 : S.get r = some (.lst xs)) (h2 : S.get q = some (.lst ys)) (ha : xs.all (keyOk 11) = true) (hb : ys.all (keyOk 11) = true) : eqB S (.ref r) (.ref q) = some (veqs xs ys) := by
  have e1 : ∀ {zs : List Val}, zs.all (keyOk 11) = true → optAll (dat S 11) zs = some (toDs zs) := fun {zs} h => by
    rw [toDs_map]
    exact optAll_map fun x hx => dat_toD 11 x (key_dp 11 x (List.all_eq_true.mp h x hx))
  cases ys with
  | nil =>
    simp only [eqB, lstOf, lst_eq h1, lst_eq h2]
    cases xs <;> simp [veqs]
  | cons y ys =>
    have g1 : dat S deep (.ref r) = some (.list (toDs xs)) := dat_lst (n := 11) h1 (e1 ha)
    have g2 : dat S deep (.ref q) = some (.list (toDs (y :: ys))) := dat_lst (n := 11) h2 (e1 hb)
    simp only [eqB, lstOf, lst_eq h1, lst_eq h2, g1, g2, PyData.eqv, eqvs_veqs 11 11 xs (y :: ys) ha hb]
theorem cop_eq_key (ha : keyOk 12 v = true) (hb : keyOk 12 w = true) : cop .eq v w S = .ok (.bl (veq v w)) S := by simp only [cop, eqB_key ha hb, Option.map_some, of_some_]
theorem cop_ne_key (ha : keyOk 12 v = true) (hb : keyOk 12 w = true) : cop .ne v w S = .ok (.bl (!veq v w)) S := by simp only [cop, eqB_key ha hb, Option.map_some, of_some_]
theorem cop_eq_lst {xs ys : List Val} (h1 : S.get r = some (.lst xs)) (h2 : S.get q = some (.lst ys)) (ha : xs.all (keyOk 11) = true) (hb : ys.all (keyOk 11) = true) : cop .eq (.ref r) (.ref q) S = .ok (.bl (veqs xs ys)) S := by simp only [cop, eqB_lst h1 h2 ha hb, Option.map_some, of_some_]
theorem cop_ne_lst {xs ys : List Val} (h1 : S.get r = some (.lst xs)) (h2 : S.get q = some (.lst ys)) (ha : xs.all (keyOk 11) = true) (hb : ys.all (keyOk 11) = true) : cop .ne (.ref r) (.ref q) S = .ok (.bl (!veqs xs ys)) S := by simp only [cop, eqB_lst h1 h2 ha hb, Option.map_some, of_some_]
/-- x == [] -/
theorem cop_eq_nil {xs : List Val} (h1 : S.get r = some (.lst xs)) (h2 : S.get q = some (.lst [])) : cop .eq (.ref r) (.ref q) S = .ok (.bl xs.isEmpty) S := by simp only [cop, eqB, lstOf, lst_eq h1, lst_eq h2, Option.map_some, of_some_]
theorem cop_ne_nil {xs : List Val} (h1 : S.get r = some (.lst xs)) (h2 : S.get q = some (.lst [])) : cop .ne (.ref r) (.ref q) S = .ok (.bl (!xs.isEmpty)) S := by simp only [cop, eqB, lstOf, lst_eq h1, lst_eq h2, Option.map_some, of_some_]
theorem veqs_ints : ∀ a b : List Int, veqs (a.map Val.int) (b.map Val.int) = decide (a = b)
  | [], [] => by simp [veqs]
  | [], y :: b => by simp [veqs]
  | x :: a, [] => by simp [veqs]
  | x :: a, y :: b => by
    simp only [List.map_cons, veqs, veq, veqs_ints a b]
    by_cases h1 : x = y <;> by_cases h2 : a = b <;> simp [h1, h2]
theorem key_ints {n : Nat} (ns : List Int) : (ns.map Val.int).all (keyOk (n + 1)) = true := by
  rw [List.all_eq_true]
  intro v hv
  obtain ⟨i, _, rfl⟩ := List.mem_map.mp hv
  rfl
/-! ### in -/
theorem any_veq (ha : keyOk 12 v = true) : ∀ ys : List Val, ys.all (keyOk 12) = true → ((ys.map toD).any fun z => PyData.eqv z (toD v)) = ys.any fun y => veq y v
  | [], _ => rfl
  | y :: ys, hb => by
    simp only [List.all_cons, Bool.and_eq_true] at hb
    simp only [List.map_cons, List.any_cons, any_veq ha ys hb.2, eqv_veq 12 12 y v hb.1 ha]
theorem memB_key (ha : keyOk 12 v = true) (hb : ys.all (keyOk 12) = true) : memB S v ys = some (ys.any fun y => veq y v) := by
  have e1 : optAll (dat S deep) ys = some (ys.map toD) := optAll_map fun x hx => dat_toD 12 x (key_dp 12 x (List.all_eq_true.mp hb x hx))
  have e2 : dat S deep v = some (toD v) := dat_toD 12 v (key_dp 12 v ha)
  simp only [memB, e1, e2, any_veq ha ys hb]
theorem cop_mem_tup (ha : keyOk 12 v = true) (hb : ys.all (keyOk 12) = true) : cop .mem v (.tup ys) S = .ok (.bl (ys.any fun y => veq y v)) S := by simp only [cop, memB_key ha hb, Option.map_some, of_some_]
theorem cop_nmem_tup (ha : keyOk 12 v = true) (hb : ys.all (keyOk 12) = true) : cop .nmem v (.tup ys) S = .ok (.bl (!ys.any fun y => veq y v)) S := by simp only [cop, memB_key ha hb, Option.map_some, of_some_]
theorem cop_mem_lst (h1 : S.get r = some (.lst ys)) (ha : keyOk 12 v = true) (hb : ys.all (keyOk 12) = true) : cop .mem v (.ref r) S = .ok (.bl (ys.any fun y => veq y v)) S := by simp only [cop, h1, memB_key ha hb, Option.map_some, of_some_]
theorem cop_nmem_lst (h1 : S.get r = some (.lst ys)) (ha : keyOk 12 v = true) (hb : ys.all (keyOk 12) = true) : cop .nmem v (.ref r) S = .ok (.bl (!ys.any fun y => veq y v)) S := by simp only [cop, h1, memB_key ha hb, Option.map_some, of_some_]
theorem any_ints (ns : List Int) (i : Int) : ((ns.map Val.int).any fun y => veq y (.int i)) = decide (i ∈ ns) := by
  induction ns with
  | nil => simp
  | cons n ns ih =>
    simp only [List.map_cons, List.any_cons, ih, veq, List.mem_cons]
    by_cases h : i = n
    · simp [h]
    · have : (n == i) = false := by simp; exact fun z => h z.symm
      simp [h, this]
/-! ### items -/
theorem itemAt_nat {n : Nat} : itemAt xs (n : Int) = xs[n]? := by
  unfold itemAt L2.atI L2.ixN
  rw [if_pos (by omega)]
  by_cases h : n < xs.length
  · rw [if_pos (by omega)]
    simp
  · rw [if_neg (by omega), List.getElem?_eq_none (by omega)]
    rfl
theorem itemAt_pos (h : 0 ≤ i) : itemAt xs i = xs[i.toNat]? := by
  obtain ⟨n, rfl⟩ := Int.eq_ofNat_of_zero_le h
  rw [itemAt_nat]
  simp
@[simp] theorem itemAt_0 : itemAt xs 0 = xs[0]? := itemAt_nat (n := 0)
@[simp] theorem itemAt_1 : itemAt xs 1 = xs[1]? := itemAt_nat (n := 1)
@[simp] theorem itemAt_2 : itemAt xs 2 = xs[2]? := itemAt_nat (n := 2)
@[simp] theorem getIx_tup : getIx (.tup xs) (.int i) S = R.of (itemAt xs i) S := id rfl
@[simp] theorem getIx_fl : getIx (.fl xs) (.int i) S = R.of (itemAt xs i) S := id rfl
theorem getIx_lst (h : S.get r = some (.lst xs)) : getIx (.ref r) (.int i) S = R.of (itemAt xs i) S := by simp only [getIx, h]
theorem setIx_lst {n : Nat} (h : S.get r = some (.lst xs)) (hn : n < xs.length) : setIx (.ref r) (.int (n : Int)) v S = .ok () (S.put r (.lst (xs.set n v))) := by
  have : place xs.length (n : Int) = some n := by
    unfold place L2.ixN
    rw [if_pos (by omega), if_pos (by omega)]
    simp
  simp only [setIx, h, this]
theorem setIx_lst0 {x : Val} (h : S.get r = some (.lst (x :: xs))) : setIx (.ref r) (.int 0) v S = .ok () (S.put r (.lst (v :: xs))) := setIx_lst (n := 0) h (by simp)
theorem setIx_lst1 {x y : Val} (h : S.get r = some (.lst (x :: y :: xs))) : setIx (.ref r) (.int 1) v S = .ok () (S.put r (.lst (x :: v :: xs))) := setIx_lst (n := 1) h (by simp)
theorem setIx_lst2 {x y z : Val} (h : S.get r = some (.lst (x :: y :: z :: xs))) : setIx (.ref r) (.int 2) v S = .ok () (S.put r (.lst (x :: y :: v :: xs))) := setIx_lst (n := 2) h (by simp)
/-! ### slices -/
@[simp] theorem isNon_int : isNon (.int i) = false := id rfl
@[simp] theorem partOf_non : partOf .non v = some none := id rfl
theorem partOf_int {e : ME} (h : isNon e = false) : partOf e (.int i) = some (some i) := by unfold partOf; rw [h]; rfl
@[simp] theorem partOf_var {n : Nat} : partOf (.var n) (.int i) = some (some i) := id rfl
@[simp] theorem partOf_lit {l : Int} : partOf (.int l) (.int i) = some (some i) := id rfl
@[simp] theorem partOf_bin {op : BOp} {a b : ME} : partOf (.bin op a b) (.int i) = some (some i) := id rfl
@[simp] theorem partOf_neg {a : ME} : partOf (.neg a) (.int i) = some (some i) := id rfl
@[simp] theorem getSl_tup {l h : Option Int} : getSl (.tup xs) (some l) (some h) S = .ok (.tup (cut xs l h)) S := id rfl
theorem getSl_lst {l h : Option Int} (e : S.get r = some (.lst xs)) : getSl (.ref r) (some l) (some h) S = .ok (.ref S.n) (S.new (.lst (cut xs l h))) := by simp only [getSl, lst_eq e]
theorem cut_from {n : Nat} : cut xs (some (n : Int)) none = xs.drop n := by
  unfold cut
  rw [HT.sIx_nat, HT.sIx_none]
  rw [List.take_of_length_le (by rw [List.length_drop]; omega)]
  by_cases h : n ≤ xs.length
  · rw [Nat.min_eq_left h]
  · rw [Nat.min_eq_right (by omega), List.drop_of_length_le (Nat.le_refl _), List.drop_of_length_le (by omega)]
theorem cut_to {n : Nat} : cut xs none (some (n : Int)) = xs.take n := by
  unfold cut
  rw [HT.sIx_nat, HT.sIx_none]
  simp only [List.drop_zero, Nat.sub_zero]
  by_cases h : n ≤ xs.length
  · rw [Nat.min_eq_left h]
  · rw [Nat.min_eq_right (by omega), List.take_of_length_le (Nat.le_refl _), List.take_of_length_le (by omega)]
theorem cut_mid {n m : Nat} : cut xs (some (n : Int)) (some (m : Int)) = (xs.take m).drop n := by
  unfold cut
  rw [HT.sIx_nat, HT.sIx_nat, List.drop_take]
  by_cases h : n ≤ xs.length
  · rw [Nat.min_eq_left h]
    by_cases h2 : m ≤ xs.length
    · rw [Nat.min_eq_left h2]
    · rw [Nat.min_eq_right (by omega), List.take_of_length_le (by rw [List.length_drop]; omega), List.take_of_length_le (by rw [List.length_drop]; omega)]
  · rw [Nat.min_eq_right (a := n) (by omega), List.drop_of_length_le (Nat.le_refl _), List.drop_of_length_le (by omega)]
    simp
@[simp] theorem cut_from0 : cut xs (some 0) none = xs := by have := cut_from (xs := xs) (n := 0); simpa using this
@[simp] theorem cut_from1 : cut xs (some 1) none = xs.tail := by have := cut_from (xs := xs) (n := 1); simpa using this
@[simp] theorem cut_from2 : cut xs (some 2) none = xs.drop 2 := cut_from (n := 2)
@[simp] theorem cut_to1 : cut xs none (some 1) = xs.take 1 := cut_to (n := 1)
@[simp] theorem cut_to2 : cut xs none (some 2) = xs.take 2 := cut_to (n := 2)
/-! ### built-ins -/
@[simp] theorem len_tup : bapp .len [.tup xs] S = .ok (.int xs.length) S := id rfl
@[simp] theorem len_fl : bapp .len [.fl xs] S = .ok (.int xs.length) S := id rfl
theorem len_lst (h : S.get r = some (.lst xs)) : bapp .len [.ref r] S = .ok (.int xs.length) S := by simp only [bapp, h]
@[simp] theorem tuple_tup : bapp .tuple [.tup xs] S = .ok (.tup xs) S := id rfl
theorem tuple_lst (h : S.get r = some (.lst xs)) : bapp .tuple [.ref r] S = .ok (.tup xs) S := by simp only [bapp, lst_eq h]
theorem bools_map (bs : List Bool) : bools (bs.map Val.bl) = some bs := by
  unfold bools
  have := optAll_map (f := fun (v : Val) => (match v with
    | .bl b => some b
    | _ => none : Option Bool)) (g := fun v => match v with
    | .bl b => b
    | _ => false) (l := bs.map Val.bl) (by
      intro x hx
      obtain ⟨b, _, rfl⟩ := List.mem_map.mp hx
      rfl)
  rw [List.map_map] at this
  have e : ((fun v => match v with
    | Val.bl b => b
    | _ => false) ∘ Val.bl) = id := by funext b; rfl
  rw [e, List.map_id] at this
  exact this
theorem ints_map (ns : List Int) : intsOf (ns.map Val.int) = some ns := by
  unfold intsOf
  have := optAll_map (f := fun (v : Val) => (match v with
    | .int b => some b
    | _ => none : Option Int)) (g := fun v => match v with
    | .int b => b
    | _ => 0) (l := ns.map Val.int) (by
      intro x hx
      obtain ⟨b, _, rfl⟩ := List.mem_map.mp hx
      rfl)
  rw [List.map_map] at this
  have e : ((fun v => match v with
    | Val.int b => b
    | _ => 0) ∘ Val.int) = id := by funext b; rfl
  rw [e, List.map_id] at this
  exact this
theorem all_lst {bs : List Bool} (h : S.get r = some (.lst (bs.map Val.bl))) : bapp .all [.ref r] S = .ok (.bl (bs.all id)) S := by simp only [bapp, lst_eq h, bools_map, Option.map_some, of_some_]
theorem any_lst {bs : List Bool} (h : S.get r = some (.lst (bs.map Val.bl))) : bapp .any [.ref r] S = .ok (.bl (bs.any id)) S := by simp only [bapp, lst_eq h, bools_map, Option.map_some, of_some_]
theorem sum_lst {ns : List Int} (h : S.get r = some (.lst (ns.map Val.int))) : bapp .sum [.ref r] S = .ok (.int ns.sum) S := by simp only [bapp, lst_eq h, ints_map]
@[simp] theorem list_tup : bapp .list [.tup xs] S = .ok (.ref S.n) (S.new (.lst xs)) := id rfl
theorem list_lst (h : S.get r = some (.lst xs)) : bapp .list [.ref r] S = .ok (.ref S.n) (S.new (.lst xs)) := by simp only [bapp, h]
theorem range1 (h : -(2 ^ 62) ≤ i) (h2 : i < 2 ^ 62) : bapp .range [.int i] S = .ok (.rng 0 i) S := by simp only [bapp, decide_eq_true h, decide_eq_true h2, Bool.and_self, if_true]
theorem range2 (h : -(2 ^ 62) ≤ i) (h2 : i < 2 ^ 62) (h3 : -(2 ^ 62) ≤ j) (h4 : j < 2 ^ 62) : bapp .range [.int i, .int j] S = .ok (.rng i j) S := by simp only [bapp, decide_eq_true h, decide_eq_true h2, decide_eq_true h3, decide_eq_true h4, Bool.and_self, if_true]
theorem rgOk_of {lo hi : Int} (h : -100000 ≤ lo) (h2 : lo ≤ 100000) (h3 : -100000 ≤ hi) (h4 : hi ≤ 100000) (h5 : hi - lo ≤ 100000) : rgOk lo hi = true := by
  unfold rgOk
  rw [decide_eq_true (show -(2 ^ 62) ≤ lo by omega), decide_eq_true (show lo < 2 ^ 62 by omega), decide_eq_true (show -(2 ^ 62) ≤ hi by omega), decide_eq_true (show hi < 2 ^ 62 by omega), decide_eq_true h5]
  rfl
theorem tuple_rng {lo hi : Int} (h : rgOk lo hi = true) : bapp .tuple [.rng lo hi] S = .ok (.tup (rngL lo hi)) S := by simp only [bapp, h, if_true, rngL]
theorem list_rng {lo hi : Int} (h : rgOk lo hi = true) : bapp .list [.rng lo hi] S = .ok (.ref S.n) (S.new (.lst (rngL lo hi))) := by simp only [bapp, h, if_true, rngL]
theorem rngL_nat {n : Nat} : rngL 0 (n : Int) = (List.range n).map fun (k : Nat) => Val.int (k : Int) := by
  unfold rngL
  simp
@[simp] theorem max_int : bapp .max [.int i, .int j] S = .ok (.int (if j > i then j else i)) S := id rfl
@[simp] theorem min_int : bapp .min [.int i, .int j] S = .ok (.int (if j < i then j else i)) S := id rfl
@[simp] theorem abs_int : bapp .abs [.int i] S = .ok (.int (if i < 0 then -i else i)) S := id rfl
@[simp] theorem int_int : bapp .int [.int i] S = .ok (.int i) S := id rfl
@[simp] theorem int_bl {b : Bool} : bapp .int [.bl b] S = .ok (.int (if b then 1 else 0)) S := id rfl
theorem divmod_int (h : 0 < j) (h2 : j < 1073741824) : bapp .divmod [.int i, .int j] S = .ok (.tup [.int (i / j), .int (i % j)]) S := by
  simp only [bapp, divOk, decide_eq_true h, decide_eq_true h2, Bool.and_self, if_true]
/-! ### methods -/
theorem recv_append (h : S.get r = some (.lst xs)) : recv .append (.ref r) S = true := by simp only [recv, lst_eq h]; rfl
theorem recv_pop (h : S.get r = some (.lst xs)) : recv .pop (.ref r) S = true := by simp only [recv, lst_eq h]; rfl
theorem recv_extend (h : S.get r = some (.lst xs)) : recv .extend (.ref r) S = true := by simp only [recv, lst_eq h]; rfl
theorem recv_index (h : S.get r = some (.lst xs)) : recv .index (.ref r) S = true := by simp only [recv, lst_eq h]; rfl
theorem append_lst (h : S.get r = some (.lst xs)) (h2 : xs.length < 1000000) : mapp .append (.ref r) [v] S = .ok .non (S.put r (.lst (xs ++ [v]))) := by simp only [mapp, lst_eq h, cap_eq, h2, if_true]
theorem pop_lst {n : Nat} (h : S.get r = some (.lst xs)) (hn : xs[n]? = some v) (h2 : xs.length ≤ 1000000) : mapp .pop (.ref r) [.int (n : Int)] S = .ok v (S.put r (.lst (xs.eraseIdx n))) := by
  have hl := (List.getElem?_eq_some_iff.mp hn).1
  have : place xs.length (n : Int) = some n := by
    unfold place L2.ixN
    rw [if_pos (by omega), if_pos (by omega)]
    simp
  have h3 : decide (xs.length ≤ cap) = true := decide_eq_true h2
  simp only [mapp, lst_eq h, this, hn, h3, if_true]
end
end Mp

set_option maxRecDepth 100000
set_option linter.all false
namespace Mp
open PySem
def F_is_whole : Nat := 0
def F_is_among : Nat := 1
def F_rises : Nat := 2
def F_is_door_of : Nat := 3
def F_is_house_of : Nat := 4
def F_is_house : Nat := 5
def F_need_house : Nat := 6
def F_many_keys : Nat := 7
def F_free_in : Nat := 8
def F_need_room : Nat := 9
def F_beyond : Nat := 10
def F_ways_from : Nat := 11
def F_loops_in : Nat := 12
def F_loops : Nat := 13
def F_k01_cell_at : Nat := 14
def F_k27_next : Nat := 15
def F_k15_pen_of : Nat := 16
def F_k27_draw : Nat := 17
def F_k27_house : Nat := 18
def F_k27_over : Nat := 19
def F_k27_ways : Nat := 20
def F_k28_loops : Nat := 21
def F_k28_law : Nat := 22
def d_is_whole : MDef := ⟨"is_whole", 1, ["thing"], (.cons (.ret (.and (.isi (.var 0) .int) (.not (.isi (.var 0) .bool)))) .nil), true⟩
def d_is_among : MDef := ⟨"is_among", 3, ["thing", "low", "high"], (.cons (.ret (.and (.call F_is_whole (.cons (.var 0) .nil)) (.chain .le .le (.var 1) (.var 0) (.var 2)))) .nil), true⟩
def d_rises : MDef := ⟨"rises", 1, ["row", "one", "other"], (.cons (.ret (.gc (.blt .all (.cons (.lc [1, 2] (.zip (.var 0) (.sl (.var 0) (.int 1) .non)) (.tup (.cons (.nm 1) (.cons (.nm 2) .nil))) (.bl true) (.cmp .lt (.var 1) (.var 2))) .nil)))) .nil), true⟩
def d_is_door_of : MDef := ⟨"is_door_of", 3, ["rooms", "keys", "thing", "one", "other", "fits", "key"], (.cons (.ifs (.or (.not (.isi (.var 2) .tuple)) (.or (.cmp .ne (.blt .len (.cons (.var 2) .nil)) (.int 3)) (.not (.isi (.ix (.var 2) (.int 2)) .tuple)))) (.cons (.ret (.bl false)) .nil) .nil) (.cons (.asg (.tup (.cons (.nm 3) (.cons (.nm 4) (.cons (.nm 5) .nil)))) (.var 2)) (.cons (.ifs (.or (.not (.call F_is_among (.cons (.var 3) (.cons (.int 0) (.cons (.bin .sub (.var 0) (.int 1)) .nil))))) (.or (.not (.call F_is_among (.cons (.var 4) (.cons (.int 0) (.cons (.bin .sub (.var 0) (.int 1)) .nil))))) (.cmp .ge (.var 3) (.var 4)))) (.cons (.ret (.bl false)) .nil) .nil) (.cons (.ret (.and (.gc (.blt .all (.cons (.lc [6] (.val (.var 5)) (.nm 6) (.bl true) (.call F_is_among (.cons (.var 6) (.cons (.int 0) (.cons (.bin .sub (.var 1) (.int 1)) .nil))))) .nil))) (.call F_rises (.cons (.var 5) .nil)))) .nil)))), true⟩
def d_is_house_of : MDef := ⟨"is_house_of", 3, ["thing", "most", "more", "rooms", "doors", "door"], (.cons (.ifs (.or (.not (.isi (.var 0) .tuple)) (.or (.cmp .ne (.blt .len (.cons (.var 0) .nil)) (.int 2)) (.not (.call F_is_among (.cons (.ix (.var 0) (.int 0)) (.cons (.int 1) (.cons (.gint "MOST_ROOMS" 6) .nil))))))) (.cons (.ret (.bl false)) .nil) .nil) (.cons (.asg (.tup (.cons (.nm 3) (.cons (.nm 4) .nil))) (.var 0)) (.cons (.ifs (.or (.not (.isi (.var 4) .tuple)) (.cmp .gt (.blt .len (.cons (.var 4) .nil)) (.var 1))) (.cons (.ret (.bl false)) .nil) .nil) (.cons (.ret (.gc (.blt .all (.cons (.lc [5] (.val (.var 4)) (.nm 5) (.bl true) (.call F_is_door_of (.cons (.var 3) (.cons (.bin .add (.blt .len (.cons (.var 4) .nil)) (.var 2)) (.cons (.var 5) .nil))))) .nil)))) .nil)))), true⟩
def d_is_house : MDef := ⟨"is_house", 1, ["thing"], (.cons (.ret (.call F_is_house_of (.cons (.var 0) (.cons (.gint "MOST_DOORS" 7) (.cons (.int 1) .nil))))) .nil), true⟩
def d_need_house : MDef := ⟨"need_house", 1, ["thing"], (.cons (.ifs (.not (.call F_is_house (.cons (.var 0) .nil))) (.cons (.raise 1 (.cons (.str "no house") .nil)) .nil) .nil) .nil), true⟩
def d_many_keys : MDef := ⟨"many_keys", 1, ["house"], (.cons (.ret (.bin .add (.blt .len (.cons (.ix (.var 0) (.int 1)) .nil)) (.int 1))) .nil), true⟩
def d_free_in : MDef := ⟨"free_in", 1, ["house", "one", "other", "fits"], (.cons (.ret (.gc (.blt .all (.cons (.lc [1, 2, 3] (.val (.ix (.var 0) (.int 1))) (.tup (.cons (.nm 1) (.cons (.nm 2) (.cons (.nm 3) .nil)))) (.bl true) (.cmp .eq (.blt .len (.cons (.var 3) .nil)) (.call F_many_keys (.cons (.var 0) .nil)))) .nil)))) .nil), true⟩
def d_need_room : MDef := ⟨"need_room", 2, ["house", "room"], (.cons (.exp (.call F_need_house (.cons (.var 0) .nil))) (.cons (.ifs (.not (.call F_free_in (.cons (.var 0) .nil))) (.cons (.raise 4 (.cons (.str "the house isn't free") .nil)) .nil) .nil) (.cons (.ifs (.not (.call F_is_among (.cons (.var 1) (.cons (.int 0) (.cons (.bin .sub (.ix (.var 0) (.int 0)) (.int 1)) .nil))))) (.cons (.raise 5 (.cons (.str "no room") .nil)) .nil) .nil) .nil))), true⟩
def d_beyond : MDef := ⟨"beyond", 3, ["house", "room", "door", "one", "other", "fits"], (.cons (.asg (.tup (.cons (.nm 3) (.cons (.nm 4) (.cons (.nm 5) .nil)))) (.ix (.ix (.var 0) (.int 1)) (.var 2))) (.cons (.ret (.ite (.cmp .mem (.var 1) (.tup (.cons (.var 3) (.cons (.var 4) .nil)))) (.bin .sub (.bin .add (.var 3) (.var 4)) (.var 1)) .non)) .nil)), true⟩
def B_ways_from_0 : MB := (.cons (.asg (.nm 6) (.call F_beyond (.cons (.var 0) (.cons (.var 4) (.cons (.var 5) .nil))))) (.cons (.ifs (.and (.cmp .nis (.var 6) .non) (.cmp .nmem (.var 6) (.var 2))) (.cons (.asg (.sub (.var 2) (.var 6)) (.bin .add (.ix (.var 2) (.var 4)) (.tup (.cons (.var 5) .nil)))) (.cons (.exp (.mth .append (.var 3) (.cons (.var 6) .nil))) .nil)) .nil) .nil))
def B_ways_from_1 : MB := (.cons (.asg (.nm 4) (.mth .pop (.var 3) (.cons (.int 0) .nil))) (.cons (.for_ (.val (.blt .range (.cons (.blt .len (.cons (.ix (.var 0) (.int 1)) .nil)) .nil))) (.nm 5) B_ways_from_0) .nil))
def d_ways_from : MDef := ⟨"ways_from", 2, ["house", "room", "found", "line", "here", "door", "there"], (.cons (.par [2, 3] (.cons (.dct1 (.var 1) (.tup .nil)) (.cons (.lst (.cons (.var 1) .nil)) .nil))) (.cons (.whl (.gc (.cmp .ne (.var 3) (.lst .nil))) B_ways_from_1) (.cons (.ret (.var 2)) .nil))), true⟩
def B_loops_in_0 : MB := (.cons (.ifs (.and (.cmp .nmem (.var 5) (.var 3)) (.cmp .mem (.var 7) (.var 2))) (.cons (.exp (.mth .append (.var 4) (.cons (.bin .add (.bin .add (.ix (.var 2) (.var 7)) (.tup (.cons (.var 5) .nil))) (.rev (.ix (.var 2) (.var 8)))) .nil))) .nil) .nil) .nil)
def d_loops_in : MDef := ⟨"loops_in", 2, ["house", "room", "ways", "last_doors", "found", "door", "way", "one", "other", "fits"], (.cons (.asg (.nm 2) (.call F_ways_from (.cons (.var 0) (.cons (.var 1) .nil)))) (.cons (.lk 2 (.asg (.nm 3) (.lc [6] (.values (.var 2)) (.nm 6) (.cmp .ne (.var 6) (.tup .nil)) (.ix (.var 6) (.neg (.int 1)))))) (.cons (.asg (.nm 4) (.lst .nil)) (.cons (.for_ (.enum (.ix (.var 0) (.int 1))) (.tup (.cons (.nm 5) (.cons (.tup (.cons (.nm 7) (.cons (.nm 8) (.cons (.nm 9) .nil)))) .nil))) B_loops_in_0) (.cons (.ret (.blt .tuple (.cons (.var 4) .nil))) .nil))))), true⟩
def d_loops : MDef := ⟨"loops", 2, ["house", "room"], (.cons (.exp (.call F_need_room (.cons (.var 0) (.cons (.var 1) .nil)))) (.cons (.ret (.call F_loops_in (.cons (.var 0) (.cons (.var 1) .nil)))) .nil)), true⟩
def d_k01_cell_at : MDef := ⟨"_law_cell_at", 2, ["_law_script", "_law_k"], (.cons (.ifs (.cmp .lt (.var 1) (.blt .len (.cons (.var 0) .nil))) (.cons (.ret (.ix (.var 0) (.var 1))) .nil) .nil) (.cons (.ret (.int 0)) .nil)), true⟩
def d_k27_next : MDef := ⟨"_law_next", 1, ["_law_root"], (.cons (.asg (.nm 0) (.bin .mod (.bin .add (.var 0) (.int 7919)) (.int 2147483647))) (.cons (.ret (.bin .mod (.bin .add (.bin .add (.bin .mul (.var 0) (.var 0)) (.bin .mul (.int 48271) (.var 0))) (.int 12345)) (.int 2147483629))) .nil)), true⟩
def d_k15_pen_of : MDef := ⟨"_law_pen_of", 1, ["_law_cell", "_law_left"], (.cons (.asg (.nm 1) (.blt .max (.cons (.var 0) (.cons (.bin .sub (.int 0) (.var 0)) .nil)))) (.cons (.ret (.lst (.cons (.var 1) (.cons (.blt .int (.cons (.cmp .ge (.var 1) (.bin .pow (.int 10) (.int 18))) .nil)) (.cons (.bin .mod (.var 1) (.int 1000003)) .nil))))) .nil)), true⟩
def d_k27_draw : MDef := ⟨"_law_draw", 2, ["_law_pen", "_law_many", "_law_found"], (.cons (.ifs (.and (.cmp .eq (.ix (.var 0) (.int 1)) (.int 1)) (.cmp .gt (.ix (.var 0) (.int 0)) (.int 0))) (.cons (.asg (.nm 2) (.bin .mod (.ix (.var 0) (.int 0)) (.var 1))) (.cons (.asg (.sub (.var 0) (.int 0)) (.bin .fdiv (.ix (.var 0) (.int 0)) (.var 1))) (.cons (.ret (.var 2)) .nil))) .nil) (.cons (.asg (.sub (.var 0) (.int 2)) (.call F_k27_next (.cons (.bin .add (.call F_k27_next (.cons (.ix (.var 0) (.int 2)) .nil)) (.int 7)) .nil))) (.cons (.ret (.bin .mod (.bin .fdiv (.ix (.var 0) (.int 2)) (.int 64)) (.var 1))) .nil))), true⟩
def B_k27_house_0 : MB := (.cons (.exp (.mth .append (.var 8) (.cons (.bin .add (.mth .pop (.var 7) (.cons (.call F_k27_draw (.cons (.var 0) (.cons (.blt .len (.cons (.var 7) .nil)) .nil))) .nil)) (.tup (.cons (.blt .tuple (.cons (.blt .range (.cons (.bin .add (.blt .len (.cons (.var 5) .nil)) (.int 1)) .nil)) .nil)) .nil))) .nil))) .nil)
def B_k27_house_1 : MB := (.cons (.asg (.nm 6) (.call F_k27_draw (.cons (.var 0) (.cons (.bin .sub (.var 4) (.int 1)) .nil)))) (.cons (.exp (.mth .append (.var 5) (.cons (.tup (.cons (.var 6) (.cons (.bin .add (.bin .add (.var 6) (.int 1)) (.call F_k27_draw (.cons (.var 0) (.cons (.bin .sub (.bin .sub (.var 4) (.int 1)) (.var 6)) .nil)))) .nil))) .nil))) .nil))
def B_k27_house_2 : MB := (.cons (.ifs (.and (.cmp .gt (.call F_k27_draw (.cons (.var 0) (.cons (.int 6) .nil))) (.int 0)) (.cmp .lt (.blt .len (.cons (.var 5) .nil)) (.var 1))) (.cons (.exp (.mth .append (.var 5) (.cons (.tup (.cons (.call F_k27_draw (.cons (.var 0) (.cons (.var 2) .nil))) (.cons (.var 2) .nil))) .nil))) .nil) .nil) .nil)
def d_k27_house : MDef := ⟨"_law_house", 2, ["_law_pen", "_law_most", "_law_room", "_law_again", "_law_rooms", "_law_pairs", "_law_one", "_law_left", "_law_doors"], (.cons (.par [4, 5] (.cons (.bin .add (.int 1) (.call F_k27_draw (.cons (.var 0) (.cons (.gc (.ix (.lst (.cons (.int 6) (.cons (.int 3) .nil))) (.call F_k27_draw (.cons (.var 0) (.cons (.int 2) .nil))))) .nil)))) (.cons (.lst .nil) .nil))) (.cons (.for_ (.val (.blt .range (.cons (.int 1) (.cons (.var 4) .nil)))) (.nm 2) B_k27_house_2) (.cons (.for_ (.val (.blt .range (.cons (.bin .mul (.call F_k27_draw (.cons (.var 0) (.cons (.bin .sub (.bin .add (.var 1) (.int 1)) (.blt .len (.cons (.var 5) .nil))) .nil))) (.blt .int (.cons (.cmp .gt (.var 4) (.int 1)) .nil))) .nil))) (.nm 3) B_k27_house_1) (.cons (.par [7, 8] (.cons (.blt .list (.cons (.var 5) .nil)) (.cons (.lst .nil) .nil))) (.cons (.whl (.gc (.cmp .ne (.var 7) (.lst .nil))) B_k27_house_0) (.cons (.ret (.tup (.cons (.var 4) (.cons (.blt .tuple (.cons (.var 8) .nil)) .nil)))) .nil)))))), true⟩
def d_k27_over : MDef := ⟨"_law_over", 3, ["_law_house_here", "_law_room", "_law_door", "_law_one", "_law_other", "_law_fits"], (.cons (.asg (.tup (.cons (.nm 3) (.cons (.nm 4) (.cons (.nm 5) .nil)))) (.ix (.ix (.var 0) (.int 1)) (.var 2))) (.cons (.ret (.ite (.cmp .eq (.var 1) (.var 3)) (.var 4) (.ite (.cmp .eq (.var 1) (.var 4)) (.var 3) .non))) .nil)), true⟩
def B_k27_ways_0 : MB := (.cons (.asg (.nm 7) (.call F_k27_over (.cons (.var 0) (.cons (.var 5) (.cons (.var 6) .nil))))) (.cons (.ifs (.and (.cmp .nis (.var 7) .non) (.cmp .nmem (.var 7) (.var 3))) (.cons (.exp (.mth .append (.var 3) (.cons (.var 7) .nil))) (.cons (.asg (.sub (.var 4) (.var 7)) (.bin .add (.ix (.var 4) (.var 5)) (.tup (.cons (.var 6) .nil)))) .nil)) .nil) .nil))
def B_k27_ways_1 : MB := (.cons (.for_ (.val (.blt .range (.cons (.blt .len (.cons (.ix (.var 0) (.int 1)) .nil)) .nil))) (.nm 6) B_k27_ways_0) .nil)
def B_k27_ways_2 : MB := (.cons (.for_ (.val (.sl (.var 3) (.var 2) (.bin .add (.var 2) (.int 1)))) (.nm 5) B_k27_ways_1) (.gcs [] .nil))
def d_k27_ways : MDef := ⟨"_law_ways", 2, ["_law_house_here", "_law_room", "_law_at", "_law_order", "_law_ways_here", "_law_here", "_law_door", "_law_there"], (.cons (.par [3, 4] (.cons (.lst (.cons (.var 1) .nil)) (.cons (.dct1 (.var 1) (.tup .nil)) .nil))) (.cons (.for_ (.val (.blt .range (.cons (.ix (.var 0) (.int 0)) .nil))) (.nm 2) B_k27_ways_2) (.cons (.ret (.var 4)) .nil))), true⟩
def B_k28_loops_0 : MB := (.cons (.ifs (.cmp .mem (.var 5) (.var 2)) (.cons (.par [8, 9] (.cons (.ix (.var 2) (.var 5)) (.cons (.ix (.var 2) (.var 6)) .nil))) (.cons (.ifs (.cmp .nmem (.tup (.cons (.var 4) .nil)) (.tup (.cons (.sl (.var 8) (.neg (.int 1)) .non) (.cons (.sl (.var 9) (.neg (.int 1)) .non) .nil)))) (.cons (.exp (.mth .append (.var 3) (.cons (.bin .add (.bin .add (.var 8) (.tup (.cons (.var 4) .nil))) (.rev (.var 9))) .nil))) .nil) .nil) .nil)) .nil) .nil)
def d_k28_loops : MDef := ⟨"_law_loops", 2, ["_law_house_here", "_law_room", "_law_ways_here", "_law_found", "_law_door", "_law_one", "_law_other", "_law_fits", "_law_here", "_law_there"], (.cons (.par [2, 3] (.cons (.call F_k27_ways (.cons (.var 0) (.cons (.var 1) .nil))) (.cons (.lst .nil) .nil))) (.cons (.for_ (.enum (.ix (.var 0) (.int 1))) (.tup (.cons (.nm 4) (.cons (.tup (.cons (.nm 5) (.cons (.nm 6) (.cons (.nm 7) .nil)))) .nil))) B_k28_loops_0) (.cons (.ret (.blt .tuple (.cons (.var 3) .nil))) .nil))), true⟩
def B_k28_law_0 : MB := (.cons (.par [7, 8] (.cons (.blt .repr (.cons (.var 4) .nil)) (.cons (.blt .repr (.cons (.call F_k28_loops (.cons (.var 4) (.cons (.var 5) .nil))) .nil)) .nil))) (.cons (.asg (.nm 6) (.lc [9] (.val (.blt .range (.cons (.int 2) .nil))) (.nm 9) (.bl true) (.blt .repr (.cons (.call F_loops (.cons (.var 4) (.cons (.var 5) .nil))) .nil)))) (.cons (.ifs (.or (.gc (.cmp .ne (.var 6) (.lst (.cons (.var 8) (.cons (.var 8) .nil))))) (.cmp .ne (.blt .repr (.cons (.var 4) .nil)) (.var 7))) (.cons (.ret (.bl false)) .nil) .nil) (.gcs [] .nil))))
def B_k28_law_1 : MB := (.cons (.asg (.nm 4) (.call F_k27_house (.cons (.var 2) (.cons (.int 7) .nil)))) (.cons (.for_ (.val (.blt .range (.cons (.ix (.var 4) (.int 0)) .nil))) (.nm 5) B_k28_law_0) (.gcs [] .nil)))
def B_k28_law_2 : MB := (.cons (.asg (.nm 2) (.call F_k15_pen_of (.cons (.var 1) .nil))) (.cons (.for_ (.val (.blt .range (.cons (.int 4) .nil))) (.nm 3) B_k28_law_1) (.gcs [] .nil)))
def d_k28_law : MDef := ⟨"law", 1, ["_law_script", "_law_cell", "_law_pen", "_law_lap", "_law_house_here", "_law_room", "_law_told", "_law_kept", "_law_due", "_law_again"], (.cons (.for_ (.val (.gc (.bin .add (.lst (.cons (.call F_k01_cell_at (.cons (.var 0) (.cons (.int 0) .nil))) .nil)) (.sl (.var 0) (.int 1) (.int 4))))) (.nm 1) B_k28_law_2) (.cons (.ret (.bl true)) .nil)), true⟩
def F_are_keys : Nat := 5023
def F_keys_of : Nat := 5402
def F_is_pair_house : Nat := 5403
def F_need_pair_house : Nat := 5404
def F_counts_of : Nat := 5406
def F_are_parts : Nat := 5405
def F_is_stand_of_two : Nat := 5407
def F_is_pair_stand : Nat := 5408
def F_k49_more : Nat := 5410
def F_k49_take : Nat := 5411
def F_k49_house : Nat := 5412
def F_k01_take : Nat := 5012
def F_k49_stand : Nat := 5413
def F_k49_box : Nat := 5409
def F_k49_whole : Nat := 5414
def F_k49_is_house : Nat := 5415
def F_k01_number : Nat := 5013
def F_k01_is_door : Nat := 5019
def F_k01_is_house : Nat := 5020
def F_k01_mixed : Nat := 5016
def F_k01_fits : Nat := 5017
def F_k01_house : Nat := 5018
def F_k49_is_stand : Nat := 5416
def F_k49_odd : Nat := 5417
def F_k49_bent_stand : Nat := 5419
def F_k49_bent_house : Nat := 5418
def F_k49_law : Nat := 5420
def F_k01_odd : Nat := 5014
def F_k01_spoilt : Nat := 5015
def F_k01_state : Nat := 5011
def F_is_free : Nat := 5009
def d_are_keys : MDef := ⟨"are_keys", 2, ["thing", "many", "key"], (.cons (.ifs (.or (.not (.isi (.var 0) .tuple)) (.not (.gc (.blt .all (.cons (.lc [2] (.val (.var 0)) (.nm 2) (.bl true) (.call F_is_whole (.cons (.var 2) .nil))) .nil))))) (.cons (.ret (.bl false)) .nil) .nil) (.cons (.ret (.gc (.cmp .eq (.blt .sorted (.cons (.var 0) .nil)) (.blt .list (.cons (.blt .range (.cons (.var 1) .nil)) .nil))))) .nil)), true⟩
def d_keys_of : MDef := ⟨"keys_of", 1, ["doors"], (.cons (.ret (.bin .add (.blt .len (.cons (.var 0) .nil)) (.gint "MORE_KEYS" 2))) .nil), true⟩
def d_is_pair_house : MDef := ⟨"is_pair_house", 1, ["thing"], (.cons (.ret (.call F_is_house_of (.cons (.var 0) (.cons (.gint "MOST_DOORS" 3) (.cons (.gint "MORE_KEYS" 2) .nil))))) .nil), true⟩
def d_need_pair_house : MDef := ⟨"need_pair_house", 1, ["thing"], (.cons (.ifs (.not (.call F_is_pair_house (.cons (.var 0) .nil))) (.cons (.raise 1 (.cons (.str "no house for two") .nil)) .nil) .nil) .nil), true⟩
def d_counts_of : MDef := ⟨"counts_of", 1, ["house"], (.cons (.ret (.lst (.cons (.gint "WALKERS" 2) (.cons (.gint "WALKERS" 2) (.cons (.blt .len (.cons (.ix (.var 0) (.int 1)) .nil)) .nil))))) .nil), true⟩
def d_are_parts : MDef := ⟨"are_parts", 2, ["thing", "counts", "part"], (.cons (.ifs (.or (.not (.isi (.var 0) .tuple)) (.or (.cmp .ne (.blt .len (.cons (.var 0) .nil)) (.int 3)) (.not (.gc (.blt .all (.cons (.lc [2] (.val (.var 0)) (.nm 2) (.bl true) (.isi (.var 2) .tuple)) .nil)))))) (.cons (.ret (.bl false)) .nil) .nil) (.cons (.ret (.gc (.cmp .eq (.lc [2] (.val (.var 0)) (.nm 2) (.bl true) (.blt .len (.cons (.var 2) .nil))) (.var 1)))) .nil)), true⟩
def d_is_stand_of_two : MDef := ⟨"is_stand_of_two", 2, ["house", "thing", "room"], (.cons (.ifs (.or (.not (.gc (.call F_are_parts (.cons (.var 1) (.cons (.call F_counts_of (.cons (.var 0) .nil)) .nil))))) (.not (.gc (.blt .all (.cons (.lc [2] (.val (.ix (.var 1) (.int 0))) (.nm 2) (.bl true) (.call F_is_among (.cons (.var 2) (.cons (.int 0) (.cons (.bin .sub (.ix (.var 0) (.int 0)) (.int 1)) .nil))))) .nil))))) (.cons (.ret (.bl false)) .nil) .nil) (.cons (.ret (.call F_are_keys (.cons (.bin .add (.ix (.var 1) (.int 1)) (.ix (.var 1) (.int 2))) (.cons (.call F_keys_of (.cons (.ix (.var 0) (.int 1)) .nil)) .nil)))) .nil)), true⟩
def d_is_pair_stand : MDef := ⟨"is_pair_stand", 2, ["house", "thing"], (.cons (.exp (.call F_need_pair_house (.cons (.var 0) .nil))) (.cons (.ret (.call F_is_stand_of_two (.cons (.var 0) (.cons (.var 1) .nil)))) .nil)), true⟩
def B_k49_more_0 : MB := (.cons (.asg (.sub (.var 0) (.int 1)) (.bin .mod (.bin .add (.bin .mul (.ix (.var 0) (.int 1)) (.int 48271)) (.int 30269)) (.int 2147483647))) (.cons (.asg (.nm 1) (.bin .add (.bin .mul (.var 1) (.int 65521)) (.bin .mod (.bin .fdiv (.ix (.var 0) (.int 1)) (.int 7)) (.int 65521)))) .nil))
def d_k49_more : MDef := ⟨"_law_more", 1, ["_law_box_here", "_law_number", "_law_j"], (.cons (.asg (.nm 1) (.int 0)) (.cons (.for_ (.val (.blt .range (.cons (.int 12) .nil))) (.nm 2) B_k49_more_0) (.cons (.ret (.var 1)) .nil))), true⟩
def d_k49_take : MDef := ⟨"_law_take", 2, ["_law_box_here", "_law_count", "_law_rest_of", "_law_digit"], (.cons (.ifs (.chain .le .lt (.int 0) (.ix (.var 0) (.int 0)) (.var 1)) (.cons (.asg (.sub (.var 0) (.int 0)) (.bin .add (.ix (.var 0) (.int 0)) (.bin .mul (.var 1) (.call F_k49_more (.cons (.var 0) .nil))))) .nil) .nil) (.cons (.asg (.tup (.cons (.nm 2) (.cons (.nm 3) .nil))) (.blt .divmod (.cons (.ix (.var 0) (.int 0)) (.cons (.var 1) .nil)))) (.cons (.asg (.sub (.var 0) (.int 0)) (.var 2)) (.cons (.ret (.var 3)) .nil)))), true⟩
def B_k49_house_0 : MB := (.cons (.asg (.nm 7) (.call F_k49_take (.cons (.var 0) (.cons (.bin .sub (.var 5) (.int 1)) .nil)))) (.cons (.asg (.nm 8) (.bin .add (.bin .add (.var 7) (.int 1)) (.call F_k49_take (.cons (.var 0) (.cons (.bin .sub (.bin .sub (.var 5) (.int 1)) (.var 7)) .nil))))) (.cons (.asg (.nm 9) (.gc (.blt .tuple (.cons (.lc [10] (.val (.blt .range (.cons (.bin .add (.var 2) (.int 2)) .nil))) (.nm 10) (.or (.var 3) (.cmp .gt (.call F_k49_take (.cons (.var 0) (.cons (.int 4) .nil))) (.int 0))) (.var 10)) .nil)))) (.cons (.exp (.mth .append (.var 6) (.cons (.tup (.cons (.var 7) (.cons (.var 8) (.cons (.var 9) .nil)))) .nil))) .nil))))
def d_k49_house : MDef := ⟨"_law_house", 2, ["_law_box_here", "_law_most", "_law_many", "_law_free", "_law_door", "_law_rooms", "_law_doors", "_law_one", "_law_other", "_law_fits", "_law_key"], (.cons (.par [5, 6] (.cons (.bin .add (.int 1) (.call F_k49_take (.cons (.var 0) (.cons (.var 1) .nil)))) (.cons (.lst .nil) .nil))) (.cons (.asg (.nm 2) (.bin .mul (.call F_k49_take (.cons (.var 0) (.cons (.int 4) .nil))) (.blt .int (.cons (.cmp .gt (.var 5) (.int 1)) .nil)))) (.cons (.asg (.nm 3) (.cmp .eq (.call F_k49_take (.cons (.var 0) (.cons (.int 2) .nil))) (.int 0))) (.cons (.for_ (.val (.blt .range (.cons (.var 2) .nil))) (.nm 4) B_k49_house_0) (.cons (.ret (.tup (.cons (.var 5) (.cons (.blt .tuple (.cons (.var 6) .nil)) .nil)))) .nil))))), true⟩
def d_k01_take : MDef := ⟨"_law_take", 2, ["_law_state_here", "_law_bound", "_law_stirred", "_law_found"], (.cons (.ifs (.cmp .gt (.ix (.var 0) (.int 0)) (.int 0)) (.cons (.asg (.nm 3) (.bin .mod (.ix (.var 0) (.int 0)) (.var 1))) (.cons (.asg (.sub (.var 0) (.int 0)) (.bin .fdiv (.ix (.var 0) (.int 0)) (.var 1))) (.cons (.ret (.var 3)) .nil))) .nil) (.cons (.asg (.sub (.var 0) (.int 1)) (.bin .mod (.bin .add (.bin .mul (.ix (.var 0) (.int 1)) (.int 48271)) (.int 29)) (.int 2147483647))) (.cons (.asg (.nm 2) (.bin .mod (.bin .add (.bin .add (.bin .mul (.ix (.var 0) (.int 1)) (.ix (.var 0) (.int 1))) (.bin .mul (.int 39373) (.ix (.var 0) (.int 1)))) (.int 7)) (.int 2147483629))) (.cons (.asg (.nm 2) (.bin .mod (.bin .add (.bin .mul (.var 2) (.var 2)) (.bin .mul (.int 16807) (.var 2))) (.int 2147483587))) (.cons (.ret (.bin .mod (.bin .fdiv (.var 2) (.int 8)) (.var 1))) .nil))))), true⟩
def B_k49_stand_0 : MB := (.cons (.exp (.mth .append (.var 4) (.cons (.mth .pop (.var 3) (.cons (.call F_k49_take (.cons (.var 0) (.cons (.blt .len (.cons (.var 3) .nil)) .nil))) .nil)) .nil))) .nil)
def d_k49_stand : MDef := ⟨"_law_stand", 2, ["_law_box_here", "_law_house_here", "_law_rooms", "_law_keys", "_law_found"], (.cons (.par [3, 4] (.cons (.blt .list (.cons (.blt .range (.cons (.bin .add (.blt .len (.cons (.ix (.var 1) (.int 1)) .nil)) (.int 2)) .nil)) .nil)) (.cons (.lst .nil) .nil))) (.cons (.whl (.gc (.cmp .ne (.var 3) (.lst .nil))) B_k49_stand_0) (.cons (.asg (.nm 2) (.tup (.cons (.call F_k49_take (.cons (.var 0) (.cons (.ix (.var 1) (.int 0)) .nil))) (.cons (.call F_k49_take (.cons (.var 0) (.cons (.ix (.var 1) (.int 0)) .nil))) .nil)))) (.cons (.ret (.tup (.cons (.var 2) (.cons (.gc (.blt .tuple (.cons (.sl (.var 4) .non (.int 2)) .nil))) (.cons (.gc (.blt .tuple (.cons (.sl (.var 4) (.int 2) .non) .nil))) .nil))))) .nil)))), true⟩
def B_k49_box_0 : MB := (.cons (.asg (.nm 5) (.bin .mod (.bin .add (.bin .add (.bin .mul (.bin .mod (.var 2) (.int 2147483647)) (.int 48271)) (.bin .mul (.int 7919) (.var 4))) (.int 1)) (.int 2147483647))) (.cons (.asg (.nm 5) (.bin .mod (.bin .mul (.var 5) (.var 5)) (.int 2147483629))) (.cons (.asg (.nm 3) (.bin .add (.bin .mul (.var 3) (.int 2147483647)) (.bin .mod (.bin .mul (.var 5) (.bin .add (.var 5) (.int 13))) (.int 2147483647)))) .nil)))
def d_k49_box : MDef := ⟨"_law_box", 2, ["_law_script", "_law_k", "_law_here", "_law_number", "_law_j", "_law_piece"], (.cons (.asg (.nm 2) (.bin .add (.bin .mul (.int 7919) (.var 1)) (.int 13))) (.cons (.ifs (.cmp .lt (.var 1) (.blt .len (.cons (.var 0) .nil))) (.cons (.asg (.nm 2) (.ix (.var 0) (.var 1))) .nil) .nil) (.cons (.ifs (.cmp .eq (.bin .mod (.var 2) (.int 2)) (.int 0)) (.cons (.ret (.lst (.cons (.bin .fdiv (.var 2) (.int 2)) (.cons (.bin .mod (.blt .abs (.cons (.var 2) .nil)) (.int 2147483647)) .nil)))) .nil) .nil) (.cons (.asg (.nm 3) (.int 0)) (.cons (.for_ (.val (.blt .range (.cons (.int 16) .nil))) (.nm 4) B_k49_box_0) (.cons (.ret (.lst (.cons (.var 3) (.cons (.bin .mod (.blt .abs (.cons (.var 2) .nil)) (.int 2147483647)) .nil)))) .nil)))))), true⟩
def d_k49_whole : MDef := ⟨"_law_whole", 2, ["_law_thing", "_law_most"], (.cons (.ret (.and (.isi (.var 0) .int) (.and (.not (.isi (.var 0) .bool)) (.chain .le .le (.int 0) (.var 0) (.var 1))))) .nil), true⟩
def B_k49_is_house_0 : MB := (.cons (.ifs (.or (.not (.isi (.var 1) .tuple)) (.or (.cmp .ne (.blt .len (.cons (.var 1) .nil)) (.int 3)) (.not (.isi (.ix (.var 1) (.int 2)) .tuple)))) (.cons (.ret (.bl false)) .nil) .nil) (.cons (.ifs (.or (.not (.call F_k49_whole (.cons (.ix (.var 1) (.int 0)) (.cons (.bin .sub (.ix (.var 0) (.int 0)) (.int 1)) .nil)))) (.or (.not (.call F_k49_whole (.cons (.ix (.var 1) (.int 1)) (.cons (.bin .sub (.ix (.var 0) (.int 0)) (.int 1)) .nil)))) (.cmp .ge (.ix (.var 1) (.int 0)) (.ix (.var 1) (.int 1))))) (.cons (.ret (.bl false)) .nil) .nil) (.cons (.ifs (.or (.not (.gc (.blt .all (.cons (.lc [2] (.val (.ix (.var 1) (.int 2))) (.nm 2) (.bl true) (.call F_k49_whole (.cons (.var 2) (.cons (.bin .add (.blt .len (.cons (.ix (.var 0) (.int 1)) .nil)) (.int 1)) .nil)))) .nil)))) (.gc (.cmp .ne (.blt .list (.cons (.ix (.var 1) (.int 2)) .nil)) (.sorts (.ix (.var 1) (.int 2)))))) (.cons (.ret (.bl false)) .nil) .nil) .nil)))
def d_k49_is_house : MDef := ⟨"_law_is_house", 1, ["_law_thing", "_law_door", "_law_key"], (.cons (.ifs (.or (.not (.isi (.var 0) .tuple)) (.or (.cmp .ne (.blt .len (.cons (.var 0) .nil)) (.int 2)) (.or (.not (.call F_k49_whole (.cons (.ix (.var 0) (.int 0)) (.cons (.int 6) .nil)))) (.cmp .eq (.ix (.var 0) (.int 0)) (.int 0))))) (.cons (.ret (.bl false)) .nil) .nil) (.cons (.ifs (.or (.not (.isi (.ix (.var 0) (.int 1)) .tuple)) (.cmp .gt (.blt .len (.cons (.ix (.var 0) (.int 1)) .nil)) (.int 3))) (.cons (.ret (.bl false)) .nil) .nil) (.cons (.for_ (.val (.ix (.var 0) (.int 1))) (.nm 1) B_k49_is_house_0) (.cons (.ret (.bl true)) .nil)))), true⟩
def d_k01_number : MDef := ⟨"_law_number", 3, ["_law_what", "_law_low", "_law_high"], (.cons (.ret (.and (.isi (.var 0) .int) (.and (.not (.isi (.var 0) .bool)) (.chain .le .le (.var 1) (.var 0) (.var 2))))) .nil), true⟩
def d_k01_is_door : MDef := ⟨"_law_is_door", 3, ["_law_what", "_law_rooms", "_law_keys", "_law_key"], (.cons (.ifs (.or (.not (.isi (.var 0) .tuple)) (.or (.cmp .ne (.blt .len (.cons (.var 0) .nil)) (.int 3)) (.not (.isi (.ix (.var 0) (.int 2)) .tuple)))) (.cons (.ret (.bl false)) .nil) .nil) (.cons (.ifs (.or (.not (.call F_k01_number (.cons (.ix (.var 0) (.int 0)) (.cons (.int 0) (.cons (.bin .sub (.var 1) (.int 1)) .nil))))) (.or (.not (.call F_k01_number (.cons (.ix (.var 0) (.int 1)) (.cons (.int 0) (.cons (.bin .sub (.var 1) (.int 1)) .nil))))) (.cmp .ge (.ix (.var 0) (.int 0)) (.ix (.var 0) (.int 1))))) (.cons (.ret (.bl false)) .nil) .nil) (.cons (.ifs (.gc (.cmp .ne (.lc [3] (.val (.ix (.var 0) (.int 2))) (.nm 3) (.not (.call F_k01_number (.cons (.var 3) (.cons (.int 0) (.cons (.bin .sub (.var 2) (.int 1)) .nil))))) (.var 3)) (.lst .nil))) (.cons (.ret (.bl false)) .nil) .nil) (.cons (.ret (.gc (.cmp .eq (.blt .list (.cons (.ix (.var 0) (.int 2)) .nil)) (.sorts (.ix (.var 0) (.int 2)))))) .nil)))), true⟩
def d_k01_is_house : MDef := ⟨"_law_is_house", 1, ["_law_what", "_law_door"], (.cons (.ifs (.or (.not (.isi (.var 0) .tuple)) (.or (.cmp .ne (.blt .len (.cons (.var 0) .nil)) (.int 2)) (.not (.call F_k01_number (.cons (.ix (.var 0) (.int 0)) (.cons (.int 1) (.cons (.int 6) .nil))))))) (.cons (.ret (.bl false)) .nil) .nil) (.cons (.ifs (.or (.not (.isi (.ix (.var 0) (.int 1)) .tuple)) (.cmp .gt (.blt .len (.cons (.ix (.var 0) (.int 1)) .nil)) (.int 7))) (.cons (.ret (.bl false)) .nil) .nil) (.cons (.ret (.gc (.cmp .eq (.lc [1] (.val (.ix (.var 0) (.int 1))) (.nm 1) (.not (.call F_k01_is_door (.cons (.var 1) (.cons (.ix (.var 0) (.int 0)) (.cons (.bin .add (.blt .len (.cons (.ix (.var 0) (.int 1)) .nil)) (.int 1)) .nil))))) (.var 1)) (.lst .nil)))) .nil))), true⟩
def B_k01_mixed_0 : MB := (.cons (.exp (.mth .append (.var 3) (.cons (.mth .pop (.var 2) (.cons (.call F_k01_take (.cons (.var 0) (.cons (.blt .len (.cons (.var 2) .nil)) .nil))) .nil)) .nil))) .nil)
def d_k01_mixed : MDef := ⟨"_law_mixed", 2, ["_law_state_here", "_law_some", "_law_left", "_law_found"], (.cons (.par [2, 3] (.cons (.blt .list (.cons (.var 1) .nil)) (.cons (.lst .nil) .nil))) (.cons (.whl (.gc (.cmp .ne (.var 2) (.lst .nil))) B_k01_mixed_0) (.cons (.ret (.var 3)) .nil))), true⟩
def d_k01_fits : MDef := ⟨"_law_fits", 3, ["_law_state_here", "_law_keys", "_law_way", "_law_key"], (.cons (.ifs (.cmp .eq (.var 2) (.int 0)) (.cons (.ret (.blt .tuple (.cons (.blt .range (.cons (.var 1) .nil)) .nil))) .nil) .nil) (.cons (.ret (.gc (.blt .tuple (.cons (.lc [3] (.val (.blt .range (.cons (.var 1) .nil))) (.nm 3) (.cmp .gt (.call F_k01_take (.cons (.var 0) (.cons (.bin .add (.var 2) (.int 1)) .nil))) (.int 0)) (.var 3)) .nil)))) .nil)), true⟩
def B_k01_house_0 : MB := (.cons (.par [8, 9] (.cons (.call F_k01_take (.cons (.var 0) (.cons (.var 3) .nil))) (.cons (.call F_k01_take (.cons (.var 0) (.cons (.var 3) .nil))) .nil))) (.cons (.ifs (.and (.cmp .ne (.var 8) (.var 9)) (.cmp .lt (.blt .len (.cons (.var 4) .nil)) (.var 2))) (.cons (.exp (.mth .append (.var 4) (.cons (.tup (.cons (.blt .min (.cons (.var 8) (.cons (.var 9) .nil))) (.cons (.blt .max (.cons (.var 8) (.cons (.var 9) .nil))) .nil))) .nil))) .nil) .nil) .nil))
def d_k01_house : MDef := ⟨"_law_house", 3, ["_law_state_here", "_law_rooms", "_law_doors", "_law_many", "_law_ends", "_law_turn", "_law_way", "_law_room", "_law_one", "_law_other"], (.cons (.asg (.nm 3) (.bin .add (.int 1) (.call F_k01_take (.cons (.var 0) (.cons (.var 1) .nil))))) (.cons (.asg (.nm 4) (.lc [7] (.val (.blt .range (.cons (.int 1) (.cons (.var 3) .nil)))) (.nm 7) (.bl true) (.tup (.cons (.call F_k01_take (.cons (.var 0) (.cons (.var 7) .nil))) (.cons (.var 7) .nil))))) (.cons (.ifs (.and (.cmp .gt (.blt .len (.cons (.var 4) .nil)) (.int 1)) (.cmp .eq (.call F_k01_take (.cons (.var 0) (.cons (.int 6) .nil))) (.int 0))) (.cons (.asg (.nm 4) (.sl (.var 4) (.int 1) .non)) .nil) .nil) (.cons (.for_ (.val (.blt .range (.cons (.call F_k01_take (.cons (.var 0) (.cons (.bin .add (.var 2) (.int 1)) .nil))) .nil))) (.nm 5) B_k01_house_0) (.cons (.asg (.tup (.cons (.nm 4) (.cons (.nm 6) .nil))) (.tup (.cons (.gc (.call F_k01_mixed (.cons (.var 0) (.cons (.sl (.var 4) .non (.var 2)) .nil)))) (.cons (.gc (.ix (.lst (.cons (.int 0) (.cons (.int 0) (.cons (.int 3) (.cons (.int 1) .nil))))) (.call F_k01_take (.cons (.var 0) (.cons (.int 4) .nil))))) .nil)))) (.cons (.ret (.tup (.cons (.var 3) (.cons (.gc (.blt .tuple (.cons (.lc [8, 9] (.val (.var 4)) (.tup (.cons (.nm 8) (.cons (.nm 9) .nil))) (.bl true) (.tup (.cons (.var 8) (.cons (.var 9) (.cons (.call F_k01_fits (.cons (.var 0) (.cons (.bin .add (.blt .len (.cons (.var 4) .nil)) (.int 1)) (.cons (.var 6) .nil)))) .nil))))) .nil))) .nil)))) .nil)))))), true⟩
def d_k49_is_stand : MDef := ⟨"_law_is_stand", 2, ["_law_house_here", "_law_thing", "_law_keys", "_law_part", "_law_room", "_law_key"], (.cons (.ifs (.or (.not (.isi (.var 1) .tuple)) (.or (.cmp .ne (.blt .len (.cons (.var 1) .nil)) (.int 3)) (.not (.gc (.blt .all (.cons (.lc [3] (.val (.var 1)) (.nm 3) (.bl true) (.isi (.var 3) .tuple)) .nil)))))) (.cons (.ret (.bl false)) .nil) .nil) (.cons (.ifs (.gc (.cmp .ne (.lc [3] (.val (.var 1)) (.nm 3) (.bl true) (.blt .len (.cons (.var 3) .nil))) (.lst (.cons (.int 2) (.cons (.int 2) (.cons (.blt .len (.cons (.ix (.var 0) (.int 1)) .nil)) .nil)))))) (.cons (.ret (.bl false)) .nil) .nil) (.cons (.ifs (.not (.gc (.blt .all (.cons (.lc [4] (.val (.ix (.var 1) (.int 0))) (.nm 4) (.bl true) (.call F_k49_whole (.cons (.var 4) (.cons (.bin .sub (.ix (.var 0) (.int 0)) (.int 1)) .nil)))) .nil)))) (.cons (.ret (.bl false)) .nil) .nil) (.cons (.asg (.nm 2) (.blt .list (.cons (.bin .add (.ix (.var 1) (.int 1)) (.ix (.var 1) (.int 2))) .nil))) (.cons (.ret (.and (.gc (.blt .all (.cons (.lc [5] (.val (.var 2)) (.nm 5) (.bl true) (.call F_k49_whole (.cons (.var 5) (.cons (.bin .sub (.blt .len (.cons (.var 2) .nil)) (.int 1)) .nil)))) .nil))) (.gc (.cmp .eq (.blt .sorted (.cons (.var 2) .nil)) (.blt .list (.cons (.blt .range (.cons (.blt .len (.cons (.var 2) .nil)) .nil)) .nil)))))) .nil))))), true⟩
def d_k49_odd : MDef := ⟨"_law_odd", 1, ["_law_box_here", "_law_some"], (.cons (.asg (.nm 1) (.lst (.cons .non (.cons (.bl true) (.cons (.bl false) (.cons (.neg (.int 1)) (.cons (.int 0) (.cons (.int 7) (.cons (.str "0") (.cons (.tup .nil) (.cons (.lst .nil) (.cons .dct0 (.cons (.tup (.cons (.int 0) .nil)) (.cons (.tup (.cons (.tup .nil) (.cons (.tup .nil) .nil))) (.cons (.tup (.cons (.int 1) (.cons (.tup .nil) .nil))) (.cons (.tup (.cons (.int 6) (.cons (.tup .nil) .nil))) (.cons (.tup (.cons (.int 7) (.cons (.tup .nil) .nil))) (.cons (.tup (.cons (.int 0) (.cons (.tup .nil) .nil))) .nil)))))))))))))))))) (.cons (.ret (.ix (.bin .add (.var 1) (.lst (.cons (.tup (.cons (.bl true) (.cons (.tup .nil) .nil))) (.cons (.tup (.cons (.int 2) (.cons (.tup (.cons (.tup (.cons (.int 0) (.cons (.int 1) (.cons (.tup (.cons (.int 0) (.cons (.int 1) (.cons (.int 2) .nil)))) .nil)))) .nil)) .nil))) (.cons (.tup (.cons (.tup (.cons (.int 0) (.cons (.int 0) .nil))) (.cons (.tup (.cons (.int 0) (.cons (.int 1) .nil))) (.cons (.tup .nil) .nil)))) .nil))))) (.call F_k49_take (.cons (.var 0) (.cons (.int 19) .nil))))) .nil)), true⟩
def d_k49_bent_stand : MDef := ⟨"_law_bent_stand", 2, ["_law_box_here", "_law_stand_here", "_law_row", "_law_at", "_law_some", "_law_bent", "_law_part", "_law_odd_here"], (.cons (.par [6, 7] (.cons (.call F_k49_take (.cons (.var 0) (.cons (.int 3) .nil))) (.cons (.ix (.lst (.cons (.neg (.int 1)) (.cons (.int 0) (.cons (.int 1) (.cons (.int 6) (.cons (.bl true) (.cons .non (.cons (.str "0") (.cons (.int 4) .nil))))))))) (.call F_k49_take (.cons (.var 0) (.cons (.int 8) .nil)))) .nil))) (.cons (.asg (.nm 2) (.ix (.var 1) (.var 6))) (.cons (.asg (.nm 3) (.call F_k49_take (.cons (.var 0) (.cons (.bin .add (.blt .len (.cons (.var 2) .nil)) (.int 1)) .nil)))) (.cons (.asg (.nm 4) (.lst (.cons (.bin .add (.bin .add (.sl (.var 2) .non (.var 3)) (.tup (.cons (.var 7) .nil))) (.sl (.var 2) (.bin .add (.var 3) (.int 1)) .non)) (.cons (.sl (.var 2) .non (.neg (.int 1))) (.cons (.bin .add (.var 2) (.tup (.cons (.var 7) .nil))) (.cons (.blt .list (.cons (.var 2) .nil)) (.cons (.rev (.var 2)) (.cons (.bin .add (.var 2) (.sl (.var 2) .non (.int 1))) (.cons (.var 7) .nil))))))))) (.cons (.asg (.nm 5) (.bin .add (.bin .add (.sl (.var 1) .non (.var 6)) (.tup (.cons (.ix (.var 4) (.call F_k49_take (.cons (.var 0) (.cons (.int 7) .nil)))) .nil))) (.sl (.var 1) (.bin .add (.var 6) (.int 1)) .non))) (.cons (.ret (.ix (.lst (.cons (.var 5) (.cons (.var 5) (.cons (.var 5) (.cons (.blt .list (.cons (.var 1) .nil)) (.cons (.sl (.var 1) .non (.int 2)) (.cons (.bin .add (.var 1) (.tup (.cons (.tup .nil) .nil))) .nil))))))) (.call F_k49_take (.cons (.var 0) (.cons (.int 6) .nil))))) .nil)))))), true⟩
def d_k49_bent_house : MDef := ⟨"_law_bent_house", 2, ["_law_box_here", "_law_house_here", "_law_some", "_law_at", "_law_odd_here", "_law_rooms", "_law_doors", "_law_one", "_law_other", "_law_fits"], (.cons (.asg (.tup (.cons (.nm 5) (.cons (.nm 6) .nil))) (.var 1)) (.cons (.asg (.nm 2) (.lst (.cons (.tup (.cons (.bin .add (.var 5) (.int 1)) (.cons (.var 6) .nil))) (.cons (.tup (.cons (.bin .sub (.var 5) (.int 1)) (.cons (.var 6) .nil))) (.cons (.tup (.cons (.var 5) (.cons (.bin .add (.var 6) (.sl (.var 6) .non (.int 1))) .nil))) (.cons (.tup (.cons (.var 5) (.cons (.bin .mul (.var 6) (.int 2)) .nil))) (.cons (.tup (.cons (.var 5) (.cons (.sl (.var 6) (.int 1) .non) .nil))) .nil))))))) (.cons (.asg (.nm 2) (.bin .add (.var 2) (.lst (.cons (.blt .list (.cons (.var 1) .nil)) (.cons (.tup (.cons (.var 5) (.cons (.blt .list (.cons (.var 6) .nil)) .nil))) (.cons (.bin .add (.var 1) (.tup (.cons (.int 0) .nil))) (.cons (.tup (.cons (.bl true) (.cons (.var 6) .nil))) (.cons (.tup (.cons (.var 5) (.cons (.bin .add (.var 6) (.bin .mul (.tup (.cons (.tup (.cons (.int 0) (.cons (.int 1) (.cons (.tup .nil) .nil)))) .nil)) (.int 4))) .nil))) .nil)))))))) (.cons (.ifs (.or (.cmp .eq (.var 6) (.tup .nil)) (.cmp .eq (.call F_k49_take (.cons (.var 0) (.cons (.int 3) .nil))) (.int 0))) (.cons (.ret (.ix (.var 2) (.call F_k49_take (.cons (.var 0) (.cons (.int 10) .nil))))) .nil) .nil) (.cons (.asg (.nm 3) (.call F_k49_take (.cons (.var 0) (.cons (.blt .len (.cons (.var 6) .nil)) .nil)))) (.cons (.asg (.tup (.cons (.nm 7) (.cons (.nm 8) (.cons (.nm 9) .nil)))) (.ix (.var 6) (.var 3))) (.cons (.asg (.nm 4) (.lst (.cons (.tup (.cons (.var 8) (.cons (.var 7) (.cons (.var 9) .nil)))) (.cons (.tup (.cons (.var 7) (.cons (.var 7) (.cons (.var 9) .nil)))) (.cons (.tup (.cons (.var 7) (.cons (.var 5) (.cons (.var 9) .nil)))) (.cons (.tup (.cons (.neg (.int 1)) (.cons (.var 8) (.cons (.var 9) .nil)))) (.cons (.tup (.cons (.var 7) (.cons (.var 8) .nil))) .nil))))))) (.cons (.exp (.mth .append (.var 4) (.cons (.tup (.cons (.var 7) (.cons (.var 8) (.cons (.blt .list (.cons (.var 9) .nil)) .nil)))) .nil))) (.cons (.asg (.nm 4) (.bin .add (.var 4) (.lst (.cons (.tup (.cons (.var 7) (.cons (.var 8) (.cons (.bin .add (.var 9) (.tup (.cons (.bin .add (.blt .len (.cons (.var 6) .nil)) (.int 2)) .nil))) .nil)))) (.cons (.tup (.cons (.var 7) (.cons (.var 8) (.cons (.rev (.var 9)) .nil)))) (.cons (.tup (.cons (.var 7) (.cons (.var 8) (.cons (.bin .add (.var 9) (.sl (.var 9) (.neg (.int 1)) .non)) .nil)))) .nil)))))) (.cons (.asg (.nm 4) (.bin .add (.var 4) (.lst (.cons (.tup (.cons (.var 7) (.cons (.var 8) (.cons (.bin .add (.var 9) (.tup (.cons (.bin .add (.blt .len (.cons (.var 6) .nil)) (.int 1)) .nil))) .nil)))) (.cons (.tup (.cons (.var 7) (.cons (.bl true) (.cons (.var 9) .nil)))) (.cons (.lst (.cons (.var 7) (.cons (.var 8) (.cons (.var 9) .nil)))) (.cons .non .nil))))))) (.cons (.exp (.mth .append (.var 4) (.cons (.tup (.cons (.var 7) (.cons (.var 8) (.cons (.tup (.cons (.neg (.int 1)) .nil)) .nil)))) .nil))) (.cons (.ret (.tup (.cons (.var 5) (.cons (.bin .add (.bin .add (.sl (.var 6) .non (.var 3)) (.tup (.cons (.ix (.var 4) (.call F_k49_take (.cons (.var 0) (.cons (.int 14) .nil)))) .nil))) (.sl (.var 6) (.bin .add (.var 3) (.int 1)) .non)) .nil)))) .nil)))))))))))), true⟩
def B_k49_law_0 : MB := (.cons (.par [8, 9] (.cons (.blt .repr (.cons (.tup (.cons (.var 3) (.cons (.var 6) .nil))) .nil)) (.cons (.call F_k49_is_stand (.cons (.var 3) (.cons (.var 6) .nil))) .nil))) (.cons (.asg (.nm 7) (.lst (.cons (.call F_is_pair_stand (.cons (.var 3) (.cons (.var 6) .nil))) (.cons (.call F_is_pair_stand (.cons (.var 3) (.cons (.var 6) .nil))) .nil)))) (.cons (.ifs (.or (.cmp .ne (.blt .repr (.cons (.var 7) .nil)) (.blt .repr (.cons (.lst (.cons (.var 9) (.cons (.var 9) .nil))) .nil))) (.cmp .ne (.blt .repr (.cons (.tup (.cons (.var 3) (.cons (.var 6) .nil))) .nil)) (.var 8))) (.cons (.ret (.bl false)) .nil) .nil) .nil)))
def B_k49_law_1 : MB := (.cons (.par [8, 9] (.cons (.blt .repr (.cons (.var 6) .nil)) (.cons (.call F_k49_is_house (.cons (.var 6) .nil)) .nil))) (.cons (.ifs (.or (.cmp .ne (.blt .repr (.cons (.lst (.cons (.call F_is_pair_house (.cons (.var 6) .nil)) (.cons (.call F_is_pair_house (.cons (.var 6) .nil)) .nil))) .nil)) (.blt .repr (.cons (.lst (.cons (.var 9) (.cons (.var 9) .nil))) .nil))) (.cmp .ne (.blt .repr (.cons (.var 6) .nil)) (.var 8))) (.cons (.ret (.bl false)) .nil) .nil) .nil))
def B_k49_law_2 : MB := (.cons (.asg (.nm 2) (.call F_k49_box (.cons (.var 0) (.cons (.var 1) .nil)))) (.cons (.asg (.nm 3) (.call F_k49_house (.cons (.var 2) (.cons (.int 6) .nil)))) (.cons (.asg (.nm 4) (.call F_k49_stand (.cons (.var 2) (.cons (.var 3) .nil)))) (.cons (.asg (.nm 5) (.lst (.cons (.var 3) (.cons (.call F_k49_odd (.cons (.var 2) .nil)) (.cons (.tup (.cons (.ix (.var 3) (.int 0)) (.cons (.tup .nil) .nil))) (.cons (.tup (.cons (.int 6) (.cons (.bin .mul (.tup (.cons (.tup (.cons (.int 0) (.cons (.int 5) (.cons (.tup (.cons (.int 0) (.cons (.int 1) (.cons (.int 2) (.cons (.int 3) (.cons (.int 4) .nil)))))) .nil)))) .nil)) (.int 3)) .nil))) .nil)))))) (.cons (.for_ (.val (.bin .add (.var 5) (.lc [10] (.val (.blt .range (.cons (.int 10) .nil))) (.nm 10) (.bl true) (.call F_k49_bent_house (.cons (.var 2) (.cons (.var 3) .nil)))))) (.nm 6) B_k49_law_1) (.cons (.for_ (.val (.bin .add (.lst (.cons (.var 4) (.cons (.call F_k49_odd (.cons (.var 2) .nil)) (.cons (.var 3) (.cons .non .nil))))) (.lc [10] (.val (.blt .range (.cons (.int 12) .nil))) (.nm 10) (.bl true) (.call F_k49_bent_stand (.cons (.var 2) (.cons (.var 4) .nil)))))) (.nm 6) B_k49_law_0) .nil))))))
def d_k49_law : MDef := ⟨"law", 1, ["_law_script", "_law_k", "_law_box_here", "_law_house_here", "_law_stand_here", "_law_things", "_law_thing", "_law_found", "_law_kept", "_law_due", "_law_turn"], (.cons (.for_ (.val (.blt .range (.cons (.blt .max (.cons (.int 1) (.cons (.blt .min (.cons (.blt .len (.cons (.var 0) .nil)) (.cons (.int 4) .nil))) .nil))) .nil))) (.nm 1) B_k49_law_2) (.cons (.ret (.bl true)) .nil)), false⟩
def d_k01_odd : MDef := ⟨"_law_odd", 1, ["_law_state_here", "_law_some"], (.cons (.asg (.nm 1) (.lst (.cons .non (.cons (.bl true) (.cons (.bl false) (.cons (.neg (.int 1)) (.cons (.int 0) (.cons (.int 8) (.cons (.bin .pow (.int 10) (.int 11)) (.cons (.str "") (.cons (.str "walk") (.cons (.tup .nil) (.cons (.lst .nil) (.cons .dct0 (.cons (.tup (.cons (.int 0) (.cons (.int 0) .nil))) (.cons (.tup (.cons (.int 0) (.cons (.int 0) (.cons (.int 0) .nil)))) (.cons (.tup (.cons (.tup (.cons (.int 0) (.cons (.int 1) (.cons (.tup (.cons (.int 0) .nil)) .nil)))) .nil)) (.cons (.lst (.cons (.int 0) .nil)) .nil)))))))))))))))))) (.cons (.asg (.nm 1) (.bin .add (.var 1) (.lst (.cons (.tup (.cons (.int 1) (.cons (.tup .nil) .nil))) (.cons (.tup (.cons (.int 0) (.cons (.int 0) (.cons (.tup .nil) .nil)))) (.cons (.dct1 (.int 0) (.int 1)) (.cons (.tup (.cons (.tup .nil) .nil)) (.cons (.tup (.cons (.int 0) (.cons (.str "0") .nil))) (.cons (.tup (.cons .non (.cons .non (.cons (.tup .nil) .nil)))) (.cons (.tup (.cons (.int 0) (.cons (.tup (.cons (.int 0) .nil)) .nil))) (.cons (.str "lonely") .nil))))))))))) (.cons (.ret (.ix (.var 1) (.call F_k01_take (.cons (.var 0) (.cons (.int 24) .nil))))) .nil))), true⟩
def d_k01_spoilt : MDef := ⟨"_law_spoilt", 2, ["_law_state_here", "_law_what", "_law_at", "_law_how"], (.cons (.ifs (.and (.isi (.var 1) .int) (.and (.not (.isi (.var 1) .bool)) (.cmp .gt (.call F_k01_take (.cons (.var 0) (.cons (.int 3) .nil))) (.int 0)))) (.cons (.ret (.ix (.lst (.cons (.bin .add (.var 1) (.int 1)) (.cons (.bin .sub (.var 1) (.int 1)) (.cons (.bin .sub (.int 0) (.var 1)) (.cons (.bin .add (.var 1) (.int 9)) (.cons (.bin .pow (.int 10) (.int 11)) .nil)))))) (.call F_k01_take (.cons (.var 0) (.cons (.int 5) .nil))))) .nil) .nil) (.cons (.ifs (.or (.not (.isi (.var 1) .tuple)) (.cmp .eq (.var 1) (.tup .nil))) (.cons (.ret (.call F_k01_odd (.cons (.var 0) .nil))) .nil) .nil) (.cons (.par [2, 3] (.cons (.call F_k01_take (.cons (.var 0) (.cons (.blt .len (.cons (.var 1) .nil)) .nil))) (.cons (.call F_k01_take (.cons (.var 0) (.cons (.int 8) .nil))) .nil))) (.cons (.ifs (.cmp .gt (.var 3) (.int 3)) (.cons (.ret (.bin .add (.bin .add (.sl (.var 1) .non (.var 2)) (.tup (.cons (.call F_k01_spoilt (.cons (.var 0) (.cons (.ix (.var 1) (.var 2)) .nil))) .nil))) (.sl (.var 1) (.bin .add (.var 2) (.int 1)) .non))) .nil) .nil) (.cons (.ifs (.cmp .eq (.var 3) (.int 0)) (.cons (.ret (.ix (.lst (.cons (.blt .list (.cons (.var 1) .nil)) (.cons (.rev (.var 1)) (.cons (.tup (.cons (.var 1) .nil)) .nil)))) (.call F_k01_take (.cons (.var 0) (.cons (.int 3) .nil))))) .nil) .nil) (.cons (.ret (.bin .add (.bin .add (.sl (.var 1) .non (.var 2)) (.ix (.lst (.cons (.tup .nil) (.cons (.tup (.cons (.call F_k01_odd (.cons (.var 0) .nil)) .nil)) (.cons (.tup (.cons (.ix (.var 1) (.var 2)) (.cons (.ix (.var 1) (.var 2)) .nil))) .nil)))) (.bin .sub (.var 3) (.int 1)))) (.sl (.var 1) (.bin .add (.var 2) (.int 1)) .non))) .nil)))))), true⟩
def d_k01_state : MDef := ⟨"_law_state", 2, ["_law_script", "_law_k", "_law_cell"], (.cons (.asg (.nm 2) (.call F_k01_cell_at (.cons (.var 0) (.cons (.var 1) .nil)))) (.cons (.ret (.lst (.cons (.blt .max (.cons (.int 0) (.cons (.bin .sub (.var 2) (.bin .pow (.int 10) (.int 18))) .nil))) (.cons (.bin .mod (.var 2) (.int 2147483647)) .nil)))) .nil)), true⟩
def d_is_free : MDef := ⟨"is_free", 1, ["house"], (.cons (.exp (.call F_need_house (.cons (.var 0) .nil))) (.cons (.ret (.call F_free_in (.cons (.var 0) .nil))) .nil)), true⟩
end Mp
set_option Elab.async false
set_option linter.all false
set_option maxRecDepth 100000
set_option maxHeartbeats 800000
/-! Mp, part U3: forms that drop what they made. -/
namespace Mp
open PySem
section
variable {cf : Nat → List Val → Sto → R Val} {env : Env} {S S' : Sto} {a b c e : ME} {g : MG} {own : List Nat} {s : MI} {src : Src} {xs : List Val} {v : Val} {i r : Nat}
theorem fm_some {α β : Type} (f : α → β) (l : List α) : l.filterMap (fun x => some (f x)) = l.map f := by
  induction l with
  | nil => rfl
  | cons x l ih => rw [List.filterMap_cons, ih, List.map_cons]
/-- a comprehension without a test, its turns pure -/
theorem lc_map {f : Val → Val} (hs : evI cf s env S = .ok src S) (hg : Gives S src xs) (hl : xs.length < 100000) (ht : ∀ x ∈ xs, lcTurn cf own g c e env x S = .ok (some (f x)) S) :
    evE cf (.lc own s g c e) env S = .ok (.ref S.n) (S.new (.lst (xs.map f))) := by
  rw [ev_lc, hs, bind_ok_, lc_pure (f := fun x => some (f x)) hg hl ht, fm_some]
  rfl
theorem lc_fil {f : Val → Option Val} (hs : evI cf s env S = .ok src S) (hg : Gives S src xs) (hl : xs.length < 100000) (ht : ∀ x ∈ xs, lcTurn cf own g c e env x S = .ok (f x) S) :
    evE cf (.lc own s g c e) env S = .ok (.ref S.n) (S.new (.lst (xs.filterMap f))) := by
  rw [ev_lc, hs, bind_ok_, lc_pure hg hl ht]
  rfl
theorem bl_map {f : Val → Bool} : (xs.map fun x => Val.bl (f x)) = (xs.map f).map Val.bl := by rw [List.map_map]; rfl
/-- all([..]) -/
theorem gc_all {f : Val → Bool} (hS : S.wf) (hs : evI cf s env S = .ok src S) (hg : Gives S src xs) (hl : xs.length < 100000) (ht : ∀ x ∈ xs, lcTurn cf own g c e env x S = .ok (some (.bl (f x))) S) :
    evE cf (.gc (.blt .all (.cons (.lc own s g c e) .nil))) env S = .ok (.bl (xs.all f)) S := by
  rw [ev_gc, ev_blt, ea_cons, lc_map (f := fun x => .bl (f x)) hs hg hl ht, bind_ok_, ea_nil, bind_ok_, bind_ok_, bl_map, all_lst ug_new, bind_ok_, gcf1 rfl hS (by rfl)]
  congr 2
  rw [List.all_map]
  rfl
theorem gc_any {f : Val → Bool} (hS : S.wf) (hs : evI cf s env S = .ok src S) (hg : Gives S src xs) (hl : xs.length < 100000) (ht : ∀ x ∈ xs, lcTurn cf own g c e env x S = .ok (some (.bl (f x))) S) :
    evE cf (.gc (.blt .any (.cons (.lc own s g c e) .nil))) env S = .ok (.bl (xs.any f)) S := by
  rw [ev_gc, ev_blt, ea_cons, lc_map (f := fun x => .bl (f x)) hs hg hl ht, bind_ok_, ea_nil, bind_ok_, bind_ok_, bl_map, any_lst ug_new, bind_ok_, gcf1 rfl hS (by rfl)]
  congr 2
  rw [List.any_map]
  rfl
/-- tuple([..]) -/
theorem gc_tupl {f : Val → Option Val} (hS : S.wf) (hs : evI cf s env S = .ok src S) (hg : Gives S src xs) (hl : xs.length < 100000) (ht : ∀ x ∈ xs, lcTurn cf own g c e env x S = .ok (f x) S) (hr : rlts S.n (xs.filterMap f) = true) :
    evE cf (.gc (.blt .tuple (.cons (.lc own s g c e) .nil))) env S = .ok (.tup (xs.filterMap f)) S := by
  rw [ev_gc, ev_blt, ea_cons, lc_fil hs hg hl ht, bind_ok_, ea_nil, bind_ok_, bind_ok_, tuple_lst ug_new, bind_ok_, gcf1 rfl hS (rlt_nrs _ (by rw [rlt_tup]; exact hr))]
/-- x != [] -/
theorem gc_ne_nil (hS : S.wf) (hi : varR env i S = .ok (.ref r) S) (hr : S.get r = some (.lst xs)) : evE cf (.gc (.cmp .ne (.var i) (.lst .nil))) env S = .ok (.bl (!xs.isEmpty)) S := by
  rw [ev_gc, ev_cmp, ev_var, hi, bind_ok_, ev_lst, ea_nil, bind_ok_, if_pos (by simp [cap_eq]), bind_ok_, cop_ne_nil (xs := xs) (by rw [ug_old (ugt hr)]; exact hr) ug_new, bind_ok_, gcf1 rfl hS (by rfl)]
theorem gc_eq_nil (hS : S.wf) (hi : varR env i S = .ok (.ref r) S) (hr : S.get r = some (.lst xs)) : evE cf (.gc (.cmp .eq (.var i) (.lst .nil))) env S = .ok (.bl xs.isEmpty) S := by
  rw [ev_gc, ev_cmp, ev_var, hi, bind_ok_, ev_lst, ea_nil, bind_ok_, if_pos (by simp [cap_eq]), bind_ok_, cop_eq_nil (xs := xs) (by rw [ug_old (ugt hr)]; exact hr) ug_new, bind_ok_, gcf1 rfl hS (by rfl)]
/-- any expression: the value, what is made is dropped -/
theorem gc_by {S1 : Sto} {w : Val} (h : evE cf a env S = .ok v S1) (hv : gcV S.n v S1 = (w, S')) : evE cf (.gc a) env S = .ok w S' := by
  rw [ev_gc, h, bind_ok_, hv]
end
end Mp

set_option Elab.async false
set_option linter.all false
set_option maxRecDepth 100000
set_option maxHeartbeats 800000
/-! what is a number, a door, a house. -/
namespace Mp
open PySem
/-! ### things whose kinds are known -/
mutual
def okH (S : Sto) : Val → Bool
  | .tup xs => decide (xs.length < 60) && okHs S xs
  | .fl xs => okHs S xs
  | .rng _ _ => false
  | .ref r => (match S.get r with
    | some (.lst _) => true
    | some (.dct _) => true
    | some (.dci _) => true
    | _ => false)
  | _ => true
def okHs (S : Sto) : List Val → Bool
  | [] => true
  | x :: xs => okH S x && okHs S xs
end
theorem okHs_all {S : Sto} {vs : List Val} : okHs S vs = true ↔ ∀ v ∈ vs, okH S v = true := by
  induction vs with
  | nil => simp [okHs]
  | cons x xs ih => simp [okHs, ih]
mutual
theorem okH_new {S : Sto} {o : SO} : ∀ {v : Val}, okH S v = true → okH (S.new o) v = true
  | .non, _ => rfl
  | .bl _, _ => rfl
  | .int _, _ => rfl
  | .str _, _ => rfl
  | .rng _ _, h => h
  | .tup xs, h => by
    simp only [okH, Bool.and_eq_true] at h ⊢
    exact ⟨h.1, okHs_new h.2⟩
  | .fl xs, h => by
    simp only [okH] at h ⊢
    exact okHs_new h
  | .ref r, h => by
    simp only [okH] at h ⊢
    cases e : S.get r with
    | none => rw [e] at h; cases h
    | some u => rw [ug_old (ugt e), e]; rw [e] at h; exact h
theorem okHs_new {S : Sto} {o : SO} : ∀ {vs : List Val}, okHs S vs = true → okHs (S.new o) vs = true
  | [], _ => rfl
  | x :: xs, h => by
    simp only [okHs, Bool.and_eq_true] at h ⊢
    exact ⟨okH_new h.1, okHs_new h.2⟩
end
mutual
theorem okH_rlt {S : Sto} : ∀ {v : Val}, okH S v = true → rlt S.n v = true
  | .non, _ => rfl
  | .bl _, _ => rfl
  | .int _, _ => rfl
  | .str _, _ => rfl
  | .rng _ _, h => rfl
  | .tup xs, h => by
    simp only [okH, Bool.and_eq_true] at h
    simp only [rlt]
    exact okHs_rlt h.2
  | .fl xs, h => by
    simp only [okH] at h
    simp only [rlt]
    exact okHs_rlt h
  | .ref r, h => by
    simp only [okH] at h
    cases e : S.get r with
    | none => rw [e] at h; cases h
    | some u => exact rlt_ref (ugt e)
theorem okHs_rlt {S : Sto} : ∀ {vs : List Val}, okHs S vs = true → rlts S.n vs = true
  | [], _ => rfl
  | x :: xs, h => by
    simp only [okHs, Bool.and_eq_true] at h
    simp only [rlts, okH_rlt h.1, okHs_rlt h.2, Bool.and_self]
end
def isTupB : Val → Bool
  | .tup _ => true
  | _ => false
def isIntB : Val → Bool
  | .int _ => true
  | _ => false
def isBlB : Val → Bool
  | .bl _ => true
  | _ => false
section
variable {S : Sto} {v : Val}
theorem ty_tup (h : okH S v = true) : isTy .tuple v S = some (isTupB v) := by
  cases v with
  | ref r =>
    simp only [okH] at h
    split at h <;> first | (rename_i e; simp only [isTy, isTupB, e]; done) | (cases h)
  | rng a b => simp [okH] at h
  | _ => rfl
theorem ty_int (h : okH S v = true) : isTy .int v S = some (isIntB v || isBlB v) := by
  cases v with
  | ref r =>
    simp only [okH] at h
    split at h <;> first | (rename_i e; simp [isTy, isIntB, isBlB, e]; done) | (cases h)
  | rng a b => simp [okH] at h
  | _ => rfl
theorem ty_bool (h : okH S v = true) : isTy .bool v S = some (isBlB v) := by
  cases v with
  | ref r =>
    simp only [okH] at h
    split at h <;> first | (rename_i e; simp only [isTy, isBlB, e]; done) | (cases h)
  | rng a b => simp [okH] at h
  | _ => rfl
end
def amongV (v : Val) (lo hi : Int) : Bool := match v with
  | .int i => decide (lo ≤ i) && decide (i ≤ hi)
  | _ => false
@[simp] theorem isTy_tt {S : Sto} {xs : List Val} : isTy .tuple (.tup xs) S = some true := id rfl
variable {T : Nat → Option MDef} {n : Nat} {S : Sto} {v : Val}
theorem sp_is_whole [Has T F_is_whole d_is_whole] (hn : 1 ≤ n) (hS : S.wf) (hv : okH S v = true) : callF T n F_is_whole [v] S = .ok (.bl (isIntB v)) S := by
  rw [call_eq hn [v] rfl]
  simp [d_is_whole, ty_int hv, ty_bool hv]
  cases v <;> simp [isIntB, isBlB, hS]
theorem sp_is_among [Has T F_is_whole d_is_whole] [Has T F_is_among d_is_among] (hn : 2 ≤ n) (hS : S.wf) (hv : okH S v = true) {lo hi : Int} : callF T n F_is_among [v, .int lo, .int hi] S = .ok (.bl (amongV v lo hi)) S := by
  rw [call_eq (by omega) [v, .int lo, .int hi] rfl]
  simp [d_is_among, sp_is_whole (T := T) (n := n - 1) (by omega) hS hv]
  cases v with
  | int i => by_cases h : lo ≤ i <;> simp [isIntB, amongV, h, hS]
  | _ => simp [isIntB, amongV, hS]
def riseB : List Int → Bool
  | [] => true
  | [_] => true
  | x :: y :: r => decide (x < y) && riseB (y :: r)
theorem rise_zip : ∀ ns : List Int, ((ns.zip ns.tail).all fun p => decide (p.1 < p.2)) = riseB ns
  | [] => rfl
  | [_] => rfl
  | x :: y :: r => by
    have := rise_zip (y :: r)
    simp only [List.tail_cons, List.zip_cons_cons, List.all_cons, riseB] at this ⊢
    rw [this]
theorem zip_ints (a b : List Int) : (a.map Val.int).zip (b.map Val.int) = (a.zip b).map fun p => (Val.int p.1, Val.int p.2) := by
  rw [List.zip_map]
  rfl
theorem tail_ints (ns : List Int) : (ns.map Val.int).tail = ns.tail.map Val.int := by cases ns <;> rfl
def ltV : Val → Bool
  | .tup [.int a, .int b] => decide (a < b)
  | _ => false
theorem sp_rises [Has T F_rises d_rises] (hn : 1 ≤ n) (hS : S.wf) {ns : List Int} (hl : ns.length < 1000) : callF T n F_rises [.tup (ns.map Val.int)] S = .ok (.bl (riseB ns)) S := by
  rw [call_eq hn _ rfl]
  simp [d_rises]
  rw [gc_all (src := .zip (.tup (ns.map Val.int)) (.tup (ns.map Val.int).tail)) (f := ltV) hS (by simp) gives_zipT]
  · simp [hS]
    rw [← rise_zip, tail_ints, zip_ints, List.all_map]
    rfl
  · simp; omega
  · intro x hx
    rw [tail_ints, zip_ints] at hx
    simp at hx
    obtain ⟨a, b, _, rfl⟩ := hx
    simp [lcTurn_eq, wipe, ltV]
def intV : Val → Int
  | .int i => i
  | _ => 0
theorem among_int {v : Val} {lo hi : Int} (h : amongV v lo hi = true) : ∃ i, v = .int i ∧ lo ≤ i ∧ i ≤ hi := by
  cases v with
  | int i => simp only [amongV, Bool.and_eq_true, decide_eq_true_eq] at h; exact ⟨i, rfl, h⟩
  | _ => cases h
theorem among_ints {lo hi : Int} : ∀ {vs : List Val}, (vs.all fun v => amongV v lo hi) = true → vs = (vs.map intV).map Val.int ∧ ∀ i ∈ vs.map intV, lo ≤ i ∧ i ≤ hi
  | [], _ => ⟨rfl, by simp⟩
  | v :: vs, h => by
    simp only [List.all_cons, Bool.and_eq_true] at h
    obtain ⟨i, rfl, h1⟩ := among_int h.1
    obtain ⟨h2, h3⟩ := among_ints h.2
    refine ⟨?_, ?_⟩
    · simp only [List.map_cons, intV]
      rw [← h2]
    · simp only [List.map_cons, intV, List.mem_cons]
      rintro k (rfl | hk)
      · exact h1
      · exact h3 k hk
def ltI (a b : Val) : Bool := decide (intV a < intV b)
def doorV (rooms keys : Int) : Val → Bool
  | .tup [a, b, .tup fits] => amongV a 0 (rooms - 1) && (amongV b 0 (rooms - 1) && (ltI a b && ((fits.all fun k => amongV k 0 (keys - 1)) && riseB (fits.map intV))))
  | _ => false
theorem three_of {xs : List Val} (h : xs.length = 3) : ∃ a b c, xs = [a, b, c] := by
  match xs, h with
  | [a, b, c], _ => exact ⟨a, b, c, rfl⟩
theorem two_of {xs : List Val} (h : xs.length = 2) : ∃ a b, xs = [a, b] := by
  match xs, h with
  | [a, b], _ => exact ⟨a, b, rfl⟩
theorem doorV_len {rooms keys : Int} {xs : List Val} (h : xs.length ≠ 3) : doorV rooms keys (.tup xs) = false := by
  unfold doorV
  split
  · rename_i e
    cases e
    simp at h
  · rfl
variable [Has T F_is_whole d_is_whole] [Has T F_is_among d_is_among] [Has T F_rises d_rises] [Has T F_is_door_of d_is_door_of]
theorem sp_is_door_of (hn : 3 ≤ n) (hS : S.wf) (hv : okH S v = true) {rooms keys : Int} : callF T n F_is_door_of [.int rooms, .int keys, v] S = .ok (.bl (doorV rooms keys v)) S := by
  rw [call_eq (by omega) _ rfl]
  cases v with
  | tup xs =>
    simp only [okH, Bool.and_eq_true, decide_eq_true_eq] at hv
    by_cases h3 : xs.length = 3
    · obtain ⟨a, b, c, rfl⟩ := three_of h3
      simp only [okHs, Bool.and_eq_true, and_true] at hv
      obtain ⟨_, ha, hb, hc⟩ := hv
      simp [d_is_door_of, ty_tup hc]
      cases c with
      | tup fits =>
        simp only [okH, Bool.and_eq_true, decide_eq_true_eq] at hc
        have ea' := sp_is_among (T := T) (n := n - 1) (by omega) hS ha (lo := 0) (hi := rooms - 1)
        have eb' := sp_is_among (T := T) (n := n - 1) (by omega) hS hb (lo := 0) (hi := rooms - 1)
        simp [isTupB, ea', eb']
        cases ea : amongV a 0 (rooms - 1) with
        | false => simp [doorV, ea, hS]
        | true =>
          cases eb : amongV b 0 (rooms - 1) with
          | false => simp [doorV, ea, eb, eb', hS]
          | true =>
            obtain ⟨i, rfl, hi⟩ := among_int ea
            obtain ⟨j, rfl, hj⟩ := among_int eb
            by_cases hij : j ≤ i
            · have : ¬ i < j := by omega
              simp [hij, doorV, ltI, intV, this, hS, eb', eb]
            · have h2 : i < j := by omega
              simp [hij, eb', eb]
              rw [gc_all (src := .val (.tup fits)) (xs := fits) (f := fun k => amongV k 0 (keys - 1)) hS (by simp) gives_tup (by omega) (fun x hx => by
                simp [lcTurn_eq, wipe, sp_is_among (T := T) (n := n - 1) (by omega) hS (okHs_all.mp hc.2 x hx)])]
              cases ef : (fits.all fun k => amongV k 0 (keys - 1)) with
              | false => simp [doorV, ef, hS]
              | true =>
                obtain ⟨h4, h5⟩ := among_ints ef
                have e6 := sp_rises (T := T) (n := n - 1) (by omega) hS (ns := fits.map intV) (by simp; omega)
                rw [← h4] at e6
                simp [doorV, e6, ea, eb, ltI, intV, h2, hS]
                exact fun _ => List.all_eq_true.mp ef
      | _ => simp [isTupB, doorV, hS]
    · have h4 : ((xs.length : Int) = 3) = False := by simp; omega
      simp [d_is_door_of, h4, doorV_len h3, hS]
  | _ => simp [d_is_door_of, ty_tup hv, isTupB, doorV, hS]
end Mp

set_option Elab.async false
set_option linter.all false
set_option maxRecDepth 100000
set_option maxHeartbeats 800000
/-! Mp, part U4: sorted. -/
namespace Mp
open PySem
def leI (a b : Int) : Bool := decide (a ≤ b)
theorem insV_map {α β : Type} {le : α → α → Bool} {le' : β → β → Bool} {f : α → β} {x : α} : ∀ {l : List α}, (∀ y ∈ l, le' (f x) (f y) = le x y) → insV le' (f x) (l.map f) = (insV le x l).map f
  | [], _ => rfl
  | y :: l, h => by
    simp only [List.map_cons, insV, h y (List.mem_cons_self ..)]
    split
    · rfl
    · rw [insV_map fun z hz => h z (List.mem_cons_of_mem _ hz)]
      rfl
theorem insV_mem {α : Type} {le : α → α → Bool} {x y : α} : ∀ {l : List α}, y ∈ insV le x l ↔ y = x ∨ y ∈ l
  | [] => by simp [insV]
  | z :: l => by
    unfold insV
    split
    · simp
    · simp only [List.mem_cons, insV_mem (l := l)]
      constructor
      · rintro (h | h | h)
        · exact .inr (.inl h)
        · exact .inl h
        · exact .inr (.inr h)
      · rintro (h | h | h)
        · exact .inr (.inl h)
        · exact .inl h
        · exact .inr (.inr h)
theorem sortV_mem {α : Type} {le : α → α → Bool} {y : α} : ∀ {l : List α}, y ∈ sortV le l ↔ y ∈ l
  | [] => by simp [sortV]
  | x :: l => by unfold sortV; rw [insV_mem, sortV_mem (l := l)]; simp
theorem insV_len {α : Type} {le : α → α → Bool} {x : α} : ∀ {l : List α}, (insV le x l).length = l.length + 1
  | [] => rfl
  | y :: l => by
    unfold insV
    split
    · rfl
    · simp [insV_len (l := l)]
theorem sortV_len {α : Type} {le : α → α → Bool} : ∀ {l : List α}, (sortV le l).length = l.length
  | [] => rfl
  | x :: l => by unfold sortV; rw [insV_len, sortV_len (l := l)]; rfl
theorem insV_perm {α : Type} {le : α → α → Bool} {x : α} : ∀ {l : List α}, (insV le x l).Perm (x :: l)
  | [] => List.Perm.refl _
  | y :: l => by
    unfold insV
    split
    · exact List.Perm.refl _
    · exact (List.Perm.cons y insV_perm).trans (List.Perm.swap x y l)
theorem sortV_perm {α : Type} {le : α → α → Bool} : ∀ {l : List α}, (sortV le l).Perm l
  | [] => List.Perm.refl _
  | x :: l => insV_perm.trans (List.Perm.cons x sortV_perm)
theorem sortV_map {α β : Type} {le : α → α → Bool} {le' : β → β → Bool} {f : α → β} : ∀ {l : List α}, (∀ x ∈ l, ∀ y ∈ l, le' (f x) (f y) = le x y) → sortV le' (l.map f) = (sortV le l).map f
  | [], _ => rfl
  | x :: l, h => by
    simp only [List.map_cons, sortV]
    rw [sortV_map fun a ha b hb => h a (List.mem_cons_of_mem _ ha) b (List.mem_cons_of_mem _ hb)]
    exact insV_map fun y hy => h x (List.mem_cons_self ..) y (List.mem_cons_of_mem _ (sortV_mem.mp hy))
theorem insV_sorted {α : Type} {le : α → α → Bool} (tot : ∀ a b, le a b = true ∨ le b a = true) (tr : ∀ a b c, le a b = true → le b c = true → le a c = true) {x : α} : ∀ {l : List α}, l.Pairwise (fun a b => le a b = true) → (insV le x l).Pairwise (fun a b => le a b = true)
  | [], _ => by simp [insV]
  | y :: l, h => by
    have h2 := List.pairwise_cons.mp h
    unfold insV
    split
    · rename_i hx
      refine List.pairwise_cons.mpr ⟨fun z hz => ?_, h⟩
      rcases List.mem_cons.mp hz with e | e
      · rw [e]; exact hx
      · exact tr _ _ _ hx (h2.1 z e)
    · rename_i hx
      refine List.pairwise_cons.mpr ⟨fun z hz => ?_, insV_sorted tot tr h2.2⟩
      rcases insV_mem.mp hz with e | e
      · rw [e]
        rcases tot x y with q | q
        · exact absurd q hx
        · exact q
      · exact h2.1 z e
theorem sortV_sorted {α : Type} {le : α → α → Bool} (tot : ∀ a b, le a b = true ∨ le b a = true) (tr : ∀ a b c, le a b = true → le b c = true → le a c = true) : ∀ l : List α, (sortV le l).Pairwise (fun a b => le a b = true)
  | [] => List.Pairwise.nil
  | x :: l => insV_sorted tot tr (sortV_sorted tot tr l)
def sortI (ns : List Int) : List Int := sortV leI ns
theorem sortI_sorted (ns : List Int) : (sortI ns).Pairwise (· ≤ ·) := by
  have := sortV_sorted (le := leI) (fun a b => by simp only [leI, decide_eq_true_eq]; omega) (fun a b c => by simp only [leI, decide_eq_true_eq]; omega) ns
  exact this.imp fun h => by simpa [leI] using h
theorem sortI_perm (ns : List Int) : (sortI ns).Perm ns := sortV_perm
section
variable {S : Sto}
theorem lay_int {i : Int} : lay S (.int i) = some (.int i) := by
  unfold lay
  rw [show dat S deep (.int i) = some (.int i) from rfl]
  rfl
theorem sorted_ints {ns : List Int} (hl : ns.length ≤ 1000000) : sortedV S (ns.map Val.int) = some ((sortI ns).map Val.int) := by
  have e1 : optAll (lay S) (ns.map Val.int) = some (ns.map PyData.int) := by
    have := optAll_map (f := lay S) (g := fun v => match v with
      | .int i => PyData.int i
      | _ => PyData.none) (l := ns.map Val.int) (by
        intro x hx
        obtain ⟨i, _, rfl⟩ := List.mem_map.mp hx
        exact lay_int)
    rw [List.map_map] at this
    exact this
  have e2 : sortable (ns.map PyData.int) = true := by
    unfold sortable
    have a1 : alikeL (ns.map PyData.int) = true := by
      unfold alikeL
      rw [List.all_eq_true]
      intro d hd
      rw [List.all_eq_true]
      intro e he
      obtain ⟨i, _, rfl⟩ := List.mem_map.mp hd
      obtain ⟨j, _, rfl⟩ := List.mem_map.mp he
      rfl
    have a2 : (ns.map PyData.int).all isFlat = true := by
      rw [List.all_eq_true]
      intro d hd
      obtain ⟨i, _, rfl⟩ := List.mem_map.mp hd
      rfl
    rw [a1, a2]
    simp
  have e3 : decide ((ns.map Val.int).length ≤ cap) = true := decide_eq_true (by rw [List.length_map]; exact hl)
  have e4 : (ns.map Val.int).zip (ns.map PyData.int) = ns.map fun i => (Val.int i, PyData.int i) := by
    rw [List.zip_map]
    have : ∀ l : List Int, (l.zip l).map (Prod.map Val.int PyData.int) = l.map fun i => (Val.int i, PyData.int i) := by
      intro l
      induction l with
      | nil => rfl
      | cons a l ih => simp only [List.zip_cons_cons, List.map_cons, ih]; rfl
    exact this ns
  simp only [sortedV, e1, e2, e3, Bool.and_self, if_true, e4]
  rw [sortV_map (le := leI) fun a _ b _ => ?_]
  · rw [List.map_map]
    rfl
  · simp only [leP, PySem.W.dataLt_int, leI]
    by_cases h : b < a
    · have : ¬ a ≤ b := by omega
      simp [h, this]
    · have : a ≤ b := by omega
      simp [h, this]
theorem sorted_tupI {ns : List Int} (hl : ns.length ≤ 1000000) : bapp .sorted [.tup (ns.map Val.int)] S = .ok (.ref S.n) (S.new (.lst ((sortI ns).map Val.int))) := by
  simp only [bapp, sorted_ints hl]
theorem sorted_lstI {r : Nat} {ns : List Int} (h : S.get r = some (.lst (ns.map Val.int))) (hl : ns.length ≤ 1000000) : bapp .sorted [.ref r] S = .ok (.ref S.n) (S.new (.lst ((sortI ns).map Val.int))) := by
  simp only [bapp, h, sorted_ints hl]
end
end Mp

set_option Elab.async false
set_option linter.all false
set_option maxRecDepth 100000
set_option maxHeartbeats 800000
namespace Mp
open PySem
variable {T : Nat → Option MDef} {n : Nat} {S : Sto} {v : Val}
def houseV (most more : Int) : Val → Bool
  | .tup [r, .tup doors] => amongV r 1 6 && (decide ((doors.length : Int) ≤ most) && doors.all (doorV (intV r) ((doors.length : Int) + more)))
  | _ => false
theorem houseV_len {most more : Int} {xs : List Val} (h : xs.length ≠ 2) : houseV most more (.tup xs) = false := by
  unfold houseV
  split
  · rename_i e
    cases e
    simp at h
  · rfl
section
variable [Has T F_is_whole d_is_whole] [Has T F_is_among d_is_among] [Has T F_rises d_rises] [Has T F_is_door_of d_is_door_of] [Has T F_is_house_of d_is_house_of]
theorem sp_is_house_of (hn : 4 ≤ n) (hS : S.wf) (hv : okH S v = true) {most more : Int} : callF T n F_is_house_of [v, .int most, .int more] S = .ok (.bl (houseV most more v)) S := by
  rw [call_eq (by omega) _ rfl]
  cases v with
  | tup xs =>
    simp only [okH, Bool.and_eq_true, decide_eq_true_eq] at hv
    by_cases h2 : xs.length = 2
    · obtain ⟨a, b, rfl⟩ := two_of h2
      simp only [okHs, Bool.and_eq_true, and_true] at hv
      obtain ⟨_, ha, hb⟩ := hv
      have ea' := sp_is_among (T := T) (n := n - 1) (by omega) hS ha (lo := 1) (hi := 6)
      simp [d_is_house_of, ea']
      cases ea : amongV a 1 6 with
      | false => cases b <;> simp [houseV, ea, hS]
      | true =>
        obtain ⟨i, rfl, hi⟩ := among_int ea
        simp [ty_tup hb]
        cases b with
        | tup doors =>
          simp only [okH, Bool.and_eq_true, decide_eq_true_eq] at hb
          simp [isTupB]
          by_cases hm : most < (doors.length : Int)
          · have h3 : ¬ (doors.length : Int) ≤ most := by omega
            simp [hm, houseV, h3, hS]
          · have h3 : (doors.length : Int) ≤ most := by omega
            simp [hm]
            rw [gc_all (src := .val (.tup doors)) (xs := doors) (f := doorV i ((doors.length : Int) + more)) hS (by simp) gives_tup (by omega) (fun x hx => by
              simp [lcTurn_eq, wipe, sp_is_door_of (T := T) (n := n - 1) (by omega) hS (okHs_all.mp hb.2 x hx)])]
            simp [houseV, ea, h3, hS, intV]
        | _ => simp [isTupB, houseV, hS]
    · have h4 : ((xs.length : Int) = 2) = False := by simp; omega
      simp [d_is_house_of, h4, houseV_len h2, hS]
  | _ => simp [d_is_house_of, ty_tup hv, isTupB, houseV, hS]
end
def allInt (vs : List Val) : Bool := vs.all isIntB
theorem all_ints : ∀ {vs : List Val}, vs.all isIntB = true → vs = (vs.map intV).map Val.int
  | [], _ => rfl
  | v :: vs, h => by
    simp only [List.all_cons, Bool.and_eq_true] at h
    have h2 := all_ints h.2
    cases v with
    | int i => simp only [List.map_cons, intV]; rw [← h2]
    | _ => simp [isIntB] at h
def rangeI (m : Nat) : List Int := (List.range m).map fun (k : Nat) => (k : Int)
theorem rngL_ints {m : Nat} : rngL 0 (m : Int) = (rangeI m).map Val.int := by
  rw [rngL_nat, rangeI, List.map_map]
  rfl
/-- a tuple of so many keys, each once -/
def keysV (m : Nat) : Val → Bool
  | .tup xs => xs.all isIntB && decide (sortI (xs.map intV) = rangeI m)
  | _ => false
section
variable [Has T F_is_whole d_is_whole] [Has T F_are_keys d_are_keys]
theorem sp_are_keys (hn : 2 ≤ n) (hS : S.wf) (hv : okH S v = true) {m : Nat} (hm : m < 1000) : callF T n F_are_keys [v, .int (m : Int)] S = .ok (.bl (keysV m v)) S := by
  rw [call_eq (by omega) _ rfl]
  cases v with
  | tup xs =>
    simp only [okH, Bool.and_eq_true, decide_eq_true_eq] at hv
    simp [d_are_keys]
    rw [gc_all (src := .val (.tup xs)) (xs := xs) (f := isIntB) hS (by simp) gives_tup (by omega) (fun x hx => by
      simp [lcTurn_eq, wipe, sp_is_whole (T := T) (n := n - 1) (by omega) hS (okHs_all.mp hv.2 x hx)])]
    cases ef : xs.all isIntB with
    | false => simp [keysV, ef, hS]
    | true =>
      have hx := all_ints ef
      have hlen : (xs.map intV).length ≤ 1000000 := by simp; omega
      have hrg : rgOk 0 (m : Int) = true := rgOk_of (by omega) (by omega) (by omega) (by omega) (by omega)
      have e : evE (callF T (n - 1)) (.gc (.cmp .eq (.blt .sorted (.cons (.var 0) .nil)) (.blt .list (.cons (.blt .range (.cons (.var 1) .nil)) .nil)))) [some (.tup xs), some (.int (m : Int)), none] S = .ok (.bl (decide (sortI (xs.map intV) = rangeI m))) S := by
        refine gc_by (v := .bl (decide (sortI (xs.map intV) = rangeI m))) (S1 := (S.new (.lst ((sortI (xs.map intV)).map Val.int))).new (.lst ((rangeI m).map Val.int))) ?_ ?_
        · have e1 : bapp .sorted [.tup xs] S = .ok (.ref S.n) (S.new (.lst ((sortI (xs.map intV)).map Val.int))) := by
            have := sorted_tupI (S := S) hlen
            rw [← hx] at this
            exact this
          simp [e1, range1 (show -(2 ^ 62) ≤ (m : Int) by omega) (show (m : Int) < 2 ^ 62 by omega), list_rng hrg, rngL_ints]
          have e2 := cop_eq_lst (S := (S.new (.lst ((sortI (xs.map intV)).map Val.int))).new (.lst ((rangeI m).map Val.int))) (r := S.n) (q := S.n + 1) (xs := (sortI (xs.map intV)).map Val.int) (ys := (rangeI m).map Val.int)
            (by rw [ug_old (by simp)]; exact ug_new) (ug_new' rfl) (key_ints _) (key_ints _)
          rw [e2, veqs_ints]
        · exact gcf2 rfl hS rfl
      simp [e, hS, keysV, ef]
  | _ => simp [d_are_keys, ty_tup hv, isTupB, keysV, hS]
end
end Mp

set_option Elab.async false
set_option linter.all false
set_option maxRecDepth 100000
set_option maxHeartbeats 800000
/-! houses and stands of two. -/
namespace Mp
open PySem
variable {T : Nat → Option MDef} {n : Nat} {S : Sto} {v h : Val}
theorem house_parts {most more : Int} (e : houseV most more h = true) : ∃ (i : Int) (doors : List Val), h = .tup [.int i, .tup doors] ∧ 1 ≤ i ∧ i ≤ 6 ∧ (doors.length : Int) ≤ most ∧ doors.all (doorV i ((doors.length : Int) + more)) = true := by
  unfold houseV at e
  split at e
  · rename_i r doors
    simp only [Bool.and_eq_true, decide_eq_true_eq] at e
    obtain ⟨i, rfl, h1, h2⟩ := among_int e.1
    exact ⟨i, doors, rfl, h1, h2, e.2.1, e.2.2⟩
  · cases e
section
variable [Has T F_keys_of d_keys_of]
theorem sp_keys_of (hn : 1 ≤ n) (hS : S.wf) {doors : List Val} : callF T n F_keys_of [.tup doors] S = .ok (.int (((doors.length + 2 : Nat)) : Int)) S := by
  rw [call_eq (by omega) _ rfl]
  simp [d_keys_of, hS]
end
section
variable [Has T F_is_whole d_is_whole] [Has T F_is_among d_is_among] [Has T F_rises d_rises] [Has T F_is_door_of d_is_door_of] [Has T F_is_house_of d_is_house_of] [Has T F_is_pair_house d_is_pair_house]
theorem sp_is_pair_house (hn : 5 ≤ n) (hS : S.wf) (hv : okH S v = true) : callF T n F_is_pair_house [v] S = .ok (.bl (houseV 3 2 v)) S := by
  rw [call_eq (by omega) _ rfl]
  simp [d_is_pair_house, sp_is_house_of (T := T) (n := n - 1) (by omega) hS hv, hS]
variable [Has T F_need_pair_house d_need_pair_house]
theorem sp_need_pair_house (hn : 6 ≤ n) (hS : S.wf) (hv : okH S v = true) (hh : houseV 3 2 v = true) : callF T n F_need_pair_house [v] S = .ok .non S := by
  rw [call_eq (by omega) _ rfl]
  simp [d_need_pair_house, sp_is_pair_house (T := T) (n := n - 1) (by omega) hS hv, hh, hS]
end
section
variable [Has T F_counts_of d_counts_of]
theorem sp_counts_of (hn : 1 ≤ n) (hS : S.wf) {i : Int} {doors : List Val} : callF T n F_counts_of [.tup [.int i, .tup doors]] S = .ok (.ref S.n) (S.new (.lst [.int 2, .int 2, .int (doors.length : Int)])) := by
  rw [call_eq (by omega) _ rfl]
  simp [d_counts_of, cap_eq, hS]
end
def lenV : Val → Nat
  | .tup xs => xs.length
  | _ => 0
def partsV (nd : Nat) : Val → Bool
  | .tup [a, b, c] => isTupB a && (isTupB b && (isTupB c && (decide (lenV a = 2) && (decide (lenV b = 2) && decide (lenV c = nd)))))
  | _ => false
theorem partsV_len {nd : Nat} {xs : List Val} (h : xs.length ≠ 3) : partsV nd (.tup xs) = false := by
  unfold partsV
  split
  · rename_i e
    cases e
    simp at h
  · rfl
theorem tup_of {v : Val} (h : isTupB v = true) : ∃ xs, v = .tup xs := by
  cases v with
  | tup xs => exact ⟨xs, rfl⟩
  | _ => cases h
section
variable [Has T F_are_parts d_are_parts]
theorem sp_are_parts (hn : 1 ≤ n) (hS : S.wf) (hv : okH S v = true) {r nd : Nat} (hr : S.get r = some (.lst [.int 2, .int 2, .int (nd : Int)])) : callF T n F_are_parts [v, .ref r] S = .ok (.bl (partsV nd v)) S := by
  rw [call_eq (by omega) _ rfl]
  cases v with
  | tup xs =>
    simp only [okH, Bool.and_eq_true, decide_eq_true_eq] at hv
    by_cases h3 : xs.length = 3
    · obtain ⟨a, b, c, rfl⟩ := three_of h3
      have hxs := okHs_all.mp hv.2
      simp [d_are_parts]
      rw [gc_all (src := .val (.tup [a, b, c])) (xs := [a, b, c]) (f := isTupB) hS (by simp) gives_tup (by simp) (fun x hx => by
        simp [lcTurn_eq, wipe, ty_tup (hxs x hx)])]
      cases ef : [a, b, c].all isTupB with
      | false =>
        simp [hS]
        simp only [List.all_cons, List.all_nil, Bool.and_true] at ef
        cases ea : isTupB a <;> cases eb : isTupB b <;> cases ec : isTupB c <;> simp [partsV, ea, eb, ec]
        simp [ea, eb, ec] at ef
      | true =>
        simp only [List.all_cons, List.all_nil, Bool.and_true, Bool.and_eq_true] at ef
        obtain ⟨ea, eb, ec⟩ := ef
        obtain ⟨xa, rfl⟩ := tup_of ea
        obtain ⟨xb, rfl⟩ := tup_of eb
        obtain ⟨xc, rfl⟩ := tup_of ec
        have e : evE (callF T (n - 1)) (.gc (.cmp .eq (.lc [2] (.val (.var 0)) (.nm 2) (.bl true) (.blt .len (.cons (.var 2) .nil))) (.var 1))) [some (.tup [.tup xa, .tup xb, .tup xc]), some (.ref r), none] S = .ok (.bl (decide ([(xa.length : Int), (xb.length : Int), (xc.length : Int)] = [2, 2, (nd : Int)]))) S := by
          refine gc_by (v := .bl (decide ([(xa.length : Int), (xb.length : Int), (xc.length : Int)] = [2, 2, (nd : Int)]))) (S1 := S.new (.lst ([(xa.length : Int), (xb.length : Int), (xc.length : Int)].map Val.int))) ?_ ?_
          · rw [ev_cmp, lc_map (src := .val (.tup [.tup xa, .tup xb, .tup xc])) (xs := [.tup xa, .tup xb, .tup xc]) (f := fun v => .int (lenV v)) (by simp) gives_tup (by simp) (fun x hx => by
              simp only [List.mem_cons, List.not_mem_nil, or_false] at hx
              rcases hx with rfl | rfl | rfl <;> simp [lcTurn_eq, wipe, lenV])]
            simp [lenV]
            have e2 := cop_eq_lst (S := S.new (.lst ([(xa.length : Int), (xb.length : Int), (xc.length : Int)].map Val.int))) (r := S.n) (q := r) (xs := [(xa.length : Int), (xb.length : Int), (xc.length : Int)].map Val.int) (ys := [2, 2, (nd : Int)].map Val.int)
              ug_new (by rw [ug_old (ugt hr)]; exact hr) (key_ints _) (key_ints _)
            rw [veqs_ints] at e2
            simp only [List.map_cons, List.map_nil] at e2
            rw [e2]
            simp
          · exact gcf1 rfl hS rfl
        simp [e, hS, partsV, isTupB, lenV]
        refine Bool.eq_iff_iff.mpr ?_
        simp only [Bool.and_eq_true, decide_eq_true_eq]
        constructor
        · rintro ⟨q1, q2, q3⟩
          exact ⟨decide_eq_true (by omega), decide_eq_true (by omega), decide_eq_true (by omega)⟩
        · rintro ⟨q1, q2, q3⟩
          have q1 := of_decide_eq_true q1
          have q2 := of_decide_eq_true q2
          have q3 := of_decide_eq_true q3
          exact ⟨by omega, by omega, by omega⟩
    · have h4 : ((xs.length : Int) = 3) = False := by simp; omega
      simp [d_are_parts, h4, partsV_len h3, hS]
  | _ => simp [d_are_parts, ty_tup hv, isTupB, partsV, hS]
end
def standV2 (rooms : Int) (nd : Nat) : Val → Bool
  | .tup [.tup a, .tup b, .tup c] => decide (a.length = 2) && (decide (b.length = 2) && (decide (c.length = nd) && ((a.all fun r => amongV r 0 (rooms - 1)) && keysV (nd + 2) (.tup (b ++ c)))))
  | _ => false
theorem stand_parts {rooms : Int} {nd : Nat} (e : partsV nd v = false) : standV2 rooms nd v = false := by
  unfold standV2
  split
  · rename_i a b c
    simp only [partsV, isTupB, lenV, Bool.true_and, Bool.and_eq_false_iff, decide_eq_false_iff_not] at e
    rcases e with e | e | e <;> (have e := of_decide_eq_false e; simp [e])
  · rfl
section
variable [Has T F_is_whole d_is_whole] [Has T F_is_among d_is_among] [Has T F_are_keys d_are_keys] [Has T F_keys_of d_keys_of] [Has T F_counts_of d_counts_of] [Has T F_are_parts d_are_parts] [Has T F_is_stand_of_two d_is_stand_of_two]
theorem sp_is_stand_of_two (hn : 3 ≤ n) (hS : S.wf) (hv : okH S v = true) {i : Int} {doors : List Val} (hd : doors.length < 50) : callF T n F_is_stand_of_two [.tup [.int i, .tup doors], v] S = .ok (.bl (standV2 i doors.length v)) S := by
  rw [call_eq (by omega) _ rfl]
  have e1 : evE (callF T (n - 1)) (.gc (.call F_are_parts (.cons (.var 1) (.cons (.call F_counts_of (.cons (.var 0) .nil)) .nil)))) [some (.tup [.int i, .tup doors]), some v, none] S = .ok (.bl (partsV doors.length v)) S := by
    refine gc_by (v := .bl (partsV doors.length v)) (S1 := S.new (.lst [.int 2, .int 2, .int (doors.length : Int)])) ?_ (gcf1 rfl hS rfl)
    simp [sp_counts_of (T := T) (n := n - 1) (by omega) hS]
    exact sp_are_parts (by omega) (by simp [hS]) (okH_new hv) ug_new
  simp [d_is_stand_of_two, e1]
  cases ep : partsV doors.length v with
  | false => simp [stand_parts ep, hS]
  | true =>
    have ep2 := ep
    unfold partsV at ep
    split at ep
    · rename_i a b c
      simp only [Bool.and_eq_true, decide_eq_true_eq] at ep
      obtain ⟨ha, hb, hc, l1, l2, l3⟩ := ep
      obtain ⟨xa, rfl⟩ := tup_of ha
      obtain ⟨xb, rfl⟩ := tup_of hb
      obtain ⟨xc, rfl⟩ := tup_of hc
      simp only [lenV] at l1 l2 l3
      simp only [okH, okHs, Bool.and_eq_true, decide_eq_true_eq, and_true] at hv
      obtain ⟨_, ⟨h1, h2⟩, ⟨h3, h4⟩, ⟨h5, h6⟩⟩ := hv
      simp
      rw [gc_all (src := .val (.tup xa)) (xs := xa) (f := fun r => amongV r 0 (i - 1)) hS (by simp) gives_tup (by omega) (fun x hx => by
        simp [lcTurn_eq, wipe, sp_is_among (T := T) (n := n - 1) (by omega) hS (okHs_all.mp h2 x hx)])]
      cases ef : (xa.all fun r => amongV r 0 (i - 1)) with
      | false => simp [standV2, ef, hS]
      | true =>
        have e4 := sp_are_keys (T := T) (n := n - 1) (S := S) (v := .tup (xb ++ xc)) (by omega) hS (by
          simp only [okH, Bool.and_eq_true, decide_eq_true_eq, List.length_append]
          exact ⟨by omega, okHs_all.mpr fun x hx => by
            rcases List.mem_append.mp hx with z | z
            · exact okHs_all.mp h4 x z
            · exact okHs_all.mp h6 x z⟩) (m := doors.length + 2) (by omega)
        have hcat : xb.length + xc.length ≤ 1000000 := by omega
        simp [bop_cat hcat, sp_keys_of (T := T) (n := n - 1) (by omega) hS]
        simp only [Int.natCast_add] at e4
        simp at e4
        rw [e4]
        simp [standV2, ef, l1, l2, l3, hS]
    · cases ep
variable [Has T F_rises d_rises] [Has T F_is_door_of d_is_door_of] [Has T F_is_house_of d_is_house_of] [Has T F_is_pair_house d_is_pair_house] [Has T F_need_pair_house d_need_pair_house] [Has T F_is_pair_stand d_is_pair_stand]
theorem sp_is_pair_stand (hn : 7 ≤ n) (hS : S.wf) (hv : okH S v = true) {i : Int} {doors : List Val} (hok : okH S (.tup [.int i, .tup doors]) = true) (hh : houseV 3 2 (.tup [.int i, .tup doors]) = true) (hd : doors.length < 50) :
    callF T n F_is_pair_stand [.tup [.int i, .tup doors], v] S = .ok (.bl (standV2 i doors.length v)) S := by
  rw [call_eq (by omega) _ rfl]
  simp [d_is_pair_stand, sp_need_pair_house (T := T) (n := n - 1) (by omega) hS hok hh, sp_is_stand_of_two (T := T) (n := n - 1) (by omega) hS hv hd, hS]
end
end Mp

set_option Elab.async false
set_option linter.all false
set_option maxRecDepth 100000
set_option maxHeartbeats 800000
/-! drawing from a box. -/
namespace Mp
open PySem
variable {T : Nat → Option MDef} {n : Nat} {S : Sto} {r : Nat}
abbrev boxL (a b : Int) : SO := .lst [.int a, .int b]
def BoxAt (S : Sto) (r : Nat) : Prop := ∃ a b, S.get r = some (boxL a b) ∧ 0 ≤ b ∧ b < 2147483647
section
variable [Has T F_k49_more d_k49_more]
theorem sp_more (hn : 1 ≤ n) {a b : Int} (hg : S.get r = some (boxL a b)) (hb : 0 ≤ b ∧ b < 2147483647) :
    ∃ x b', (0 ≤ b' ∧ b' < 2147483647) ∧ callF T n F_k49_more [.ref r] S = .ok (.int x) (S.put r (boxL a b')) := by
  rw [call_eq (by omega) _ rfl]
  simp [d_k49_more, es_for, range1]
  have loop := for_next (cf := callF T (n - 1)) (k := S.n) (g := .nm 2) (src := .val (.rng 0 12)) (xs := rngL 0 12) (env := [some (.ref r), some (.int 0), none]) (S := S)
    (p := B_k49_more_0)
    (fun i env S' => ∃ num b' o, env = [some (.ref r), some (.int num), o] ∧ S' = S.put r (boxL a b') ∧ 0 ≤ b' ∧ b' < 2147483647)
    (by decide) (fun i env S' _ => gives_rng (by decide) i) ?_ ⟨0, b, none, rfl, (up_self hg).symm, hb⟩
  · obtain ⟨env', S', e, num, b', o, rfl, rfl, h1, h2⟩ := loop
    refine ⟨num, b', ⟨h1, h2⟩, ?_⟩
    rw [e]
    simp
  · rintro i x env S' hx ⟨num, b', o, rfl, rfl, h1, h2⟩
    have e3 : ∀ z, (S.put r (boxL a z)).get r = some (boxL a z) := fun z => ug_put hg
    have e1 := e3 b'
    refine ⟨[some (.ref r), some (.int (num * 65521 + (b' * 48271 + 30269) % 2147483647 / 7 % 65521)), some x], S.put r (boxL a ((b' * 48271 + 30269) % 2147483647)), ?_, _, _, _, rfl, rfl, by omega, by omega⟩
    simp [B_k49_more_0, getIx_lst e1, bop_mul (mul_r (i := b') (j := 48271) (by decide) (by decide)), bop_mod, setIx_lst1 e1, getIx_lst (e3 _), bop_mul (mul_r (i := num) (j := 65521) (by decide) (by decide)), bop_fdiv]
end
section
variable [Has T F_k49_more d_k49_more] [Has T F_k49_take d_k49_take]
theorem sp_take0 (hn : 2 ≤ n) (hr : BoxAt S r) {c : Int} (hc : 0 < c) (hc2 : c < 1000000) :
    ∃ d a' b', (0 ≤ d ∧ d < c) ∧ (0 ≤ b' ∧ b' < 2147483647) ∧ callF T n F_k49_take [.ref r, .int c] S = .ok (.int d) (S.put r (boxL a' b')) := by
  obtain ⟨a, b, hg, hb⟩ := hr
  have hg' : S.get r = some (.lst [.int a, .int b]) := hg
  rw [call_eq (by omega) _ rfl]
  have e3 : ∀ z w, (S.put r (boxL z w)).get r = some (boxL z w) := fun z w => ug_put hg
  by_cases h0 : 0 ≤ a ∧ a < c
  · obtain ⟨x, b', hb', em⟩ := sp_more (T := T) (n := n - 1) (by omega) hg hb
    refine ⟨(a + c * x) % c, (a + c * x) / c, b', ⟨Int.emod_nonneg _ (by omega), Int.emod_lt_of_pos _ hc⟩, hb', ?_⟩
    simp [d_k49_take, getIx_lst hg', h0.1, h0.2, em, bop_mul (mul_l (i := c) (j := x) (by omega) (by omega)), setIx_lst0 (e3 _ _), getIx_lst (e3 _ _), divmod_int hc (show c < 1073741824 by omega)]
  · refine ⟨a % c, a / c, b, ⟨Int.emod_nonneg _ (by omega), Int.emod_lt_of_pos _ hc⟩, hb, ?_⟩
    by_cases h1 : 0 ≤ a
    · have h2 : ¬ a < c := fun z => h0 ⟨h1, z⟩
      simp [d_k49_take, getIx_lst hg', h1, h2, divmod_int hc (show c < 1073741824 by omega), setIx_lst0 hg']
    · simp [d_k49_take, getIx_lst hg', h1, divmod_int hc (show c < 1073741824 by omega), setIx_lst0 hg']
theorem sp_take (hn : 2 ≤ n) (hS : S.wf) (hr : BoxAt S r) {c : Int} (hc : 0 < c) (hc2 : c < 1000000) :
    ∃ d a' b', (0 ≤ d ∧ d < c) ∧ (0 ≤ b' ∧ b' < 2147483647) ∧ callF T n F_k49_take [.ref r, .int c] S = .ok (.int d) (S.put r (boxL a' b')) := sp_take0 hn hr hc hc2
end
end Mp

set_option Elab.async false
set_option linter.all false
set_option maxRecDepth 100000
set_option maxHeartbeats 800000
/-! Mp, part U5: more rules. -/
namespace Mp
open PySem
section
variable {cf : Nat → List Val → Sto → R Val} {env : Env} {S : Sto} {a b c e : ME} {g : MG} {own : List Nat} {s : MI} {src : Src} {xs : List Val}
/-- a comprehension by what holds between two turns -/
theorem lc_inv (I : Nat → List Val → Sto → Prop) (hl : xs.length < 100000) (hg : ∀ i acc S, I i acc S → nextAt S i src = some (xs[i]?))
    (ht : ∀ i x acc S, xs[i]? = some x → I i acc S → ∃ o S', lcTurn cf own g c e env x S = .ok o S' ∧ I (i + 1) (match o with | some y => acc ++ [y] | none => acc) S') (h0 : I 0 [] S) :
    ∃ acc S', lcS cf own g c e src env S = .ok acc S' ∧ I xs.length acc S' :=
  lcLoop_inv I hg ht lim 0 [] S (by rw [lim_eq]; omega) (Nat.zero_le _) h0
end
theorem rngL_len {lo hi : Int} : (rngL lo hi).length = (hi - lo).toNat := by unfold rngL; simp
theorem rngL_get {lo hi : Int} {i : Nat} {x : Val} (h : (rngL lo hi)[i]? = some x) : x = .int (lo + (i : Int)) ∧ lo + (i : Int) < hi := by
  unfold rngL at h
  rw [List.getElem?_map] at h
  by_cases hi2 : i < (hi - lo).toNat
  · rw [List.getElem?_range hi2] at h
    simp only [Option.map_some, Option.some.injEq] at h
    exact ⟨h.symm, by omega⟩
  · rw [List.getElem?_eq_none (by simpa using hi2)] at h
    cases h
/-- two ordered rows of the same numbers are one -/
theorem perm_sorted_eq : ∀ {a b : List Int}, a.Pairwise (· ≤ ·) → b.Pairwise (· ≤ ·) → a.Perm b → a = b
  | [], b, _, _, h => (List.Perm.nil_eq h)
  | x :: a, [], _, _, h => by have := h.length_eq; simp at this
  | x :: a, y :: b, ha, hb, h => by
    have ha2 := List.pairwise_cons.mp ha
    have hb2 := List.pairwise_cons.mp hb
    have e : x = y := by
      have h1 : x ∈ y :: b := h.mem_iff.mp (List.mem_cons_self ..)
      have h2 : y ∈ x :: a := h.mem_iff.mpr (List.mem_cons_self ..)
      rcases List.mem_cons.mp h1 with q | q
      · exact q
      · rcases List.mem_cons.mp h2 with r | r
        · exact r.symm
        · have := ha2.1 y r
          have := hb2.1 x q
          omega
    subst e
    rw [perm_sorted_eq ha2.2 hb2.2 (List.Perm.cons_inv h)]
theorem cons_erase_perm {α : Type} : ∀ {l : List α} {k : Nat} (h : k < l.length), (l[k] :: l.eraseIdx k).Perm l
  | [], _, h => by simp at h
  | x :: l, 0, _ => by simp
  | x :: l, k + 1, h => by
    simp only [List.getElem_cons_succ, List.eraseIdx_cons_succ]
    exact (List.Perm.swap x _ _).trans (List.Perm.cons x (cons_erase_perm (by simpa using h)))
end Mp

set_option Elab.async false
set_option linter.all false
set_option maxRecDepth 100000
set_option maxHeartbeats 1600000
/-! houses and stands of two that are drawn. -/
namespace Mp
open PySem
variable {T : Nat → Option MDef} {n : Nat} {S : Sto} {r : Nat}
theorem BoxAt.lt (h : BoxAt S r) : r < S.n := by obtain ⟨a, b, hg, _⟩ := h; exact ugt hg
theorem BoxAt.get (h : BoxAt S r) {a b : Int} : (S.put r (boxL a b)).get r = some (boxL a b) := by obtain ⟨a, b, hg, _⟩ := h; exact ug_put hg
theorem BoxAt.put (h : BoxAt S r) {a b : Int} (hb : 0 ≤ b ∧ b < 2147483647) : BoxAt (S.put r (boxL a b)) r := ⟨a, b, h.get, hb⟩
theorem BoxAt.wf (h : BoxAt S r) (hS : S.wf) {a b : Int} : (S.put r (boxL a b)).wf := wf_put hS h.lt (by simp)
theorem BoxAt.new (h : BoxAt S r) {o : SO} : BoxAt (S.new o) r := by
  obtain ⟨a, b, hg, hb⟩ := h
  exact ⟨a, b, by rw [ug_old (ugt hg)]; exact hg, hb⟩
section
variable [Has T F_k49_more d_k49_more] [Has T F_k49_take d_k49_take]
theorem take0 (hn : 2 ≤ n) (hS : S.wf) (hr : BoxAt S r) {a b c : Int} (hb : 0 ≤ b ∧ b < 2147483647) (hc : 0 < c) (hc2 : c < 1000000) :
    ∃ d a' b', (0 ≤ d ∧ d < c) ∧ (0 ≤ b' ∧ b' < 2147483647) ∧ callF T n F_k49_take [.ref r, .int c] (S.put r (boxL a b)) = .ok (.int d) (S.put r (boxL a' b')) := by
  obtain ⟨d, a', b', h1, h2, e⟩ := sp_take (T := T) hn (hr.wf hS) (hr.put (a := a) hb) hc hc2
  exact ⟨d, a', b', h1, h2, by rw [e, up_up]⟩
theorem take1 (hn : 2 ≤ n) (hS : S.wf) (hr : BoxAt S r) {a b c : Int} (hb : 0 ≤ b ∧ b < 2147483647) (hc : 0 < c) (hc2 : c < 1000000) {o : SO} (ho : o.rlt S.n = true) :
    ∃ d a' b', (0 ≤ d ∧ d < c) ∧ (0 ≤ b' ∧ b' < 2147483647) ∧ callF T n F_k49_take [.ref r, .int c] ((S.put r (boxL a b)).new o) = .ok (.int d) ((S.put r (boxL a' b')).new o) := by
  obtain ⟨d, a', b', h1, h2, e⟩ := sp_take (T := T) (S := (S.put r (boxL a b)).new o) hn (by simp [hr.wf hS, ho]) ((hr.put (a := a) hb).new) hc hc2
  exact ⟨d, a', b', h1, h2, by rw [e, up_old (by simpa using hr.lt), up_up]⟩
theorem take2 (hn : 2 ≤ n) (hS : S.wf) (hr : BoxAt S r) {a b c : Int} (hb : 0 ≤ b ∧ b < 2147483647) (hc : 0 < c) (hc2 : c < 1000000) {o o2 : SO} (ho : o.rlt S.n = true) (ho2 : o2.rlt (S.n + 1) = true) :
    ∃ d a' b', (0 ≤ d ∧ d < c) ∧ (0 ≤ b' ∧ b' < 2147483647) ∧ callF T n F_k49_take [.ref r, .int c] (((S.put r (boxL a b)).new o).new o2) = .ok (.int d) (((S.put r (boxL a' b')).new o).new o2) := by
  obtain ⟨d, a', b', h1, h2, e⟩ := sp_take (T := T) (S := ((S.put r (boxL a b)).new o).new o2) hn (by simp [hr.wf hS, ho, ho2]) ((hr.put (a := a) hb).new.new) hc hc2
  have := hr.lt
  exact ⟨d, a', b', h1, h2, by rw [e, up_old (by simp; omega), up_old (by simpa using hr.lt), up_up]⟩
end
theorem riseB_cons {x : Int} : ∀ {ns : List Int}, riseB ns = true → (∀ y ∈ ns, x < y) → riseB (x :: ns) = true
  | [], _, _ => rfl
  | y :: r, h, hx => by
    simp only [riseB, Bool.and_eq_true, decide_eq_true_eq]
    exact ⟨hx y (List.mem_cons_self ..), h⟩
theorem riseB_of : ∀ {ns : List Int}, ns.Pairwise (· < ·) → riseB ns = true
  | [], _ => rfl
  | x :: ns, h => by
    have h2 := List.pairwise_cons.mp h
    exact riseB_cons (riseB_of h2.2) h2.1
theorem amongs_of {lo hi : Int} : ∀ {ns : List Int}, (∀ i ∈ ns, lo ≤ i ∧ i ≤ hi) → ((ns.map Val.int).all fun v => amongV v lo hi) = true := by
  intro ns h
  rw [List.all_map, List.all_eq_true]
  intro i hi
  simp [amongV, h i hi]
theorem map_intV (ns : List Int) : (ns.map Val.int).map intV = ns := by
  rw [List.map_map]
  have : (intV ∘ Val.int) = id := by funext i; rfl
  rw [this, List.map_id]
/-- a drawn house -/
structure Drawn2 (most : Int) (i : Int) (doors : List Val) : Prop where
  house : houseV 3 2 (.tup [.int i, .tup doors]) = true
  pure : pureVs doors = true
  le : i ≤ most
  few : ∀ d ∈ doors, ∃ (a b : Int) (ns : List Int), d = .tup [.int a, .int b, .tup (ns.map Val.int)] ∧ ns.length ≤ 5
theorem door_ok {rooms keys a b : Int} {ns : List Int} (h1 : 0 ≤ a) (h2 : a < b) (h3 : b < rooms) (h4 : ns.Pairwise (· < ·)) (h5 : ∀ k ∈ ns, 0 ≤ k ∧ k < keys) : doorV rooms keys (.tup [.int a, .int b, .tup (ns.map Val.int)]) = true := by
  have e1 : amongV (.int a) 0 (rooms - 1) = true := by simp [amongV]; omega
  have e2 : amongV (.int b) 0 (rooms - 1) = true := by simp [amongV]; omega
  have e3 := amongs_of (lo := 0) (hi := keys - 1) (ns := ns) fun i hi => by have := h5 i hi; omega
  have e4 := riseB_of h4
  simp only [doorV, e1, e2, e3, map_intV, e4, ltI, intV, h2, decide_true, Bool.and_self]
section
variable [Has T F_k49_more d_k49_more] [Has T F_k49_take d_k49_take] [Has T F_k49_house d_k49_house]
theorem sp_house2 (hn : 3 ≤ n) (hS : S.wf) (hr : BoxAt S r) {most : Int} (hm : 1 ≤ most) (hm2 : most ≤ 6) :
    ∃ i doors a' b', Drawn2 most i doors ∧ (0 ≤ b' ∧ b' < 2147483647) ∧ callF T n F_k49_house [.ref r, .int most] S = .ok (.tup [.int i, .tup doors]) (S.put r (boxL a' b')) := by
  have hlt := hr.lt
  obtain ⟨d1, a1, b1, hd1, hb1, e1⟩ := sp_take (T := T) (n := n - 1) (by omega) hS hr (c := most) (by omega) (by omega)
  obtain ⟨d2, a2, b2, hd2, hb2, e2⟩ := take1 (T := T) (n := n - 1) (by omega) hS hr (a := a1) hb1 (c := 4) (by omega) (by omega) (o := .lst []) rfl
  obtain ⟨d3, a3, b3, hd3, hb3, e3⟩ := take1 (T := T) (n := n - 1) (by omega) hS hr (a := a2) hb2 (c := 2) (by omega) (by omega) (o := .lst []) rfl
  have hm1 : mulOk d2 (if 1 < 1 + d1 then 1 else 0) = true := mul_l (by omega) (by omega)
  have hM : ∃ M : Nat, d2 * (if 1 < 1 + d1 then 1 else 0) = (M : Int) ∧ M ≤ 3 ∧ (0 < M → 1 ≤ d1) := by
    by_cases h : 1 < 1 + d1
    · rw [if_pos h]
      exact ⟨d2.toNat, by omega, by omega, fun _ => by omega⟩
    · rw [if_neg h]
      exact ⟨0, by omega, by omega, fun h => by omega⟩
  obtain ⟨M, eM, hM3, hMd⟩ := hM
  have hw : ∀ a b, (S.put r (boxL a b)).wf := fun a b => hr.wf hS
  have loop := for_next (cf := callF T (n - 1)) (k := S.n + 1) (g := .nm 4) (src := .val (.rng 0 (M : Int))) (xs := rngL 0 (M : Int)) (env := [some (.ref r), some (.int most), some (.int (M : Int)), some (.bl (decide (d3 = 0))), none, some (.int (1 + d1)), some (.ref S.n), none, none, none, none]) (S := (S.put r (boxL a3 b3)).new (.lst []))
    (p := B_k49_house_0)
    (fun i env S' => ∃ a b ds o4 o7 o8 o9 o10, env = [some (.ref r), some (.int most), some (.int (M : Int)), some (.bl (decide (d3 = 0))), o4, some (.int (1 + d1)), some (.ref S.n), o7, o8, o9, o10] ∧ S' = (S.put r (boxL a b)).new (.lst ds) ∧ (0 ≤ b ∧ b < 2147483647) ∧ ds.length = i ∧
      ∀ d ∈ ds, ∃ (x y : Int) (ns : List Int), d = .tup [.int x, .int y, .tup (ns.map Val.int)] ∧ ns.length ≤ 5 ∧ doorV (1 + d1) ((M : Int) + 2) d = true)
    (by rw [rngL_len]; omega) (fun i env S' _ => gives_rng (rgOk_of (by omega) (by omega) (by omega) (by omega) (by omega)) i) ?_ ⟨a3, b3, [], none, none, none, none, none, rfl, rfl, hb3, rfl, fun d h => by cases h⟩
  · obtain ⟨env', S', e, a', b', ds, o4, o7, o8, o9, o10, rfl, rfl, hb', hlen, hds⟩ := loop
    have hlM : ds.length = M := by rw [hlen, rngL_len]; omega
    refine ⟨1 + d1, ds, a', b', ⟨?_, ?_, by omega, fun d hd => ?_⟩, hb', ?_⟩
    · have e1 : amongV (.int (1 + d1)) 1 6 = true := by simp [amongV]; omega
      have e2 : ds.all (doorV (1 + d1) ((ds.length : Int) + 2)) = true := by
        rw [List.all_eq_true, hlM]
        intro d hd
        obtain ⟨x, y, ns, _, _, h⟩ := hds d hd
        exact h
      simp only [houseV, e1, intV, e2, Bool.and_true, Bool.true_and, decide_eq_true_eq]
      omega
    · rw [pureVs_all]
      intro d hd
      obtain ⟨x, y, ns, rfl, _, _⟩ := hds d hd
      simp [pureV, pureVs]
    · obtain ⟨x, y, ns, h1, h2, _⟩ := hds d hd
      exact ⟨x, y, ns, h1, h2⟩
    · rw [call_eq (by omega) _ rfl]
      simp [d_k49_house, e1, e2, e3, cap_eq, bop_mul hm1, es_for, eM, range1 (show -(2 ^ 62) ≤ (M : Int) by omega) (show (M : Int) < 2 ^ 62 by omega)]
      rw [e]
      have hp : pureVs ds = true := by
        rw [pureVs_all]
        intro d hd
        obtain ⟨x, y, ns, rfl, _, _⟩ := hds d hd
        simp [pureV, pureVs]
      have g1 : ((S.put r (boxL a' b')).new (.lst ds)).get S.n = some (.lst ds) := ug_new' (by simp)
      simp [tuple_lst g1, cap_eq, hw, pures_nrs ds hp]
  · rintro i x env S' hx ⟨a, b, ds, o4, o7, o8, o9, o10, rfl, rfl, hb, hlen, hds⟩
    obtain ⟨rfl, hi⟩ := rngL_get hx
    have hp : pureVs ds = true := by
      rw [pureVs_all]
      intro d hd
      obtain ⟨x, y, ns, rfl, _, _⟩ := hds d hd
      simp [pureV, pureVs]
    have ho : ∀ k, SO.rlt k (.lst ds) = true := fun k => pures_rlt ds hp
    have hM0 := hMd (by omega)
    obtain ⟨one, a1', b1', ho1, hb1', f1⟩ := take1 (T := T) (n := n - 1) (by omega) hS hr (a := a) hb (c := 1 + d1 - 1) (by omega) (by omega) (o := .lst ds) (ho _)
    obtain ⟨two, a2', b2', ho2, hb2', f2⟩ := take1 (T := T) (n := n - 1) (by omega) hS hr (a := a1') hb1' (c := 1 + d1 - 1 - one) (by omega) (by omega) (o := .lst ds) (ho _)
    have lc := lc_inv (cf := callF T (n - 1)) (own := [10]) (g := .nm 10) (c := (.or (.var 3) (.cmp .gt (.call F_k49_take (.cons (.var 0) (.cons (.int 4) .nil))) (.int 0)))) (e := .var 10) (src := .val (.rng 0 ((M : Int) + 2))) (xs := rngL 0 ((M : Int) + 2))
      (env := [some (.ref r), some (.int most), some (.int (M : Int)), some (.bl (decide (d3 = 0))), some (.int (0 + (i : Int))), some (.int (1 + d1)), some (.ref S.n), some (.int one), some (.int (one + 1 + two)), o9, o10]) (S := (S.put r (boxL a2' b2')).new (.lst ds))
      (fun j acc S' => ∃ a b ks, S' = (S.put r (boxL a b)).new (.lst ds) ∧ (0 ≤ b ∧ b < 2147483647) ∧ acc = ks.map Val.int ∧ ks.Pairwise (· < ·) ∧ (∀ k ∈ ks, 0 ≤ k ∧ k < (j : Int)) ∧ ks.length ≤ j)
      (by rw [rngL_len]; omega) (fun j acc S' _ => gives_rng (rgOk_of (by omega) (by omega) (by omega) (by omega) (by omega)) j) ?_ ⟨a2', b2', [], rfl, hb2', rfl, List.Pairwise.nil, fun k h => (by cases h), Nat.zero_le _⟩
    · obtain ⟨acc, S', e5, a5, b5, ks, rfl, hb5, rfl, hk1, hk2, hk3⟩ := lc
      rw [rngL_len] at hk2 hk3
      have eg : evE (callF T (n - 1)) (.gc (.blt .tuple (.cons (.lc [10] (.val (.blt .range (.cons (.bin .add (.var 2) (.int 2)) .nil))) (.nm 10) (.or (.var 3) (.cmp .gt (.call F_k49_take (.cons (.var 0) (.cons (.int 4) .nil))) (.int 0))) (.var 10)) .nil))) [some (.ref r), some (.int most), some (.int (M : Int)), some (.bl (decide (d3 = 0))), some (.int (0 + (i : Int))), some (.int (1 + d1)), some (.ref S.n), some (.int one), some (.int (one + 1 + two)), o9, o10] ((S.put r (boxL a2' b2')).new (.lst ds))
          = .ok (.tup (ks.map Val.int)) ((S.put r (boxL a5 b5)).new (.lst ds)) := by
        refine gc_by (v := .tup (ks.map Val.int)) (S1 := ((S.put r (boxL a5 b5)).new (.lst ds)).new (.lst (ks.map Val.int))) ?_ ?_
        · simp [ev_lc, range1 (show -(2 ^ 62) ≤ (M : Int) + 2 by omega) (show (M : Int) + 2 < 2 ^ 62 by omega)]
          simp at e5
          rw [e5]
          have g1 : (((S.put r (boxL a5 b5)).new (.lst ds)).new (.lst (ks.map Val.int))).get (S.n + 1) = some (.lst (ks.map Val.int)) := ug_new' (by simp)
          simp [tuple_lst g1]
        · exact gcf1 (by simp) (by simp [hw]; exact pures_rlt ds hp) (by simp)
      have g1 : ((S.put r (boxL a5 b5)).new (.lst ds)).get S.n = some (.lst ds) := ug_new' (by simp)
      refine ⟨[some (.ref r), some (.int most), some (.int (M : Int)), some (.bl (decide (d3 = 0))), some (.int (0 + (i : Int))), some (.int (1 + d1)), some (.ref S.n), some (.int one), some (.int (one + 1 + two)), some (.tup (ks.map Val.int)), o10], (S.put r (boxL a5 b5)).new (.lst (ds ++ [.tup [.int one, .int (one + 1 + two), .tup (ks.map Val.int)]])), ?_,
        a5, b5, _, _, _, _, _, _, rfl, rfl, hb5, by simp [hlen], ?_⟩
      · have hl6 : ds.length < 1000000 := by omega
        simp only [Int.zero_add] at eg
        simp [B_k49_house_0, f1, f2, eg, recv_append g1, append_lst g1 hl6, cap_eq]
      · intro d hd
        rcases List.mem_append.mp hd with z | z
        · exact hds d z
        · rw [List.mem_singleton.mp z]
          refine ⟨_, _, _, rfl, by omega, door_ok ho1.1 (by omega) (by omega) hk1 fun k hk => ?_⟩
          have := hk2 k hk
          omega
    · rintro j x acc S' hx ⟨a5, b5, ks, rfl, hb5, rfl, hk1, hk2, hk3⟩
      obtain ⟨rfl, hj⟩ := rngL_get hx
      have add : ∀ a6 b6 : Int, (0 ≤ b6 ∧ b6 < 2147483647) → ∃ (a b : Int) (ks' : List Int), (S.put r (boxL a6 b6)).new (.lst ds) = (S.put r (boxL a b)).new (.lst ds) ∧ (0 ≤ b ∧ b < 2147483647) ∧ ks.map Val.int ++ [.int (0 + (j : Int))] = ks'.map Val.int ∧ ks'.Pairwise (· < ·) ∧ (∀ k ∈ ks', 0 ≤ k ∧ k < ((j + 1 : Nat) : Int)) ∧ ks'.length ≤ j + 1 := fun a6 b6 h6 => by
        refine ⟨a6, b6, ks ++ [(j : Int)], rfl, h6, by simp, ?_, ?_, by simp; omega⟩
        · rw [List.pairwise_append]
          refine ⟨hk1, List.pairwise_singleton _ _, fun k hk z hz => ?_⟩
          rw [List.mem_singleton.mp hz]
          exact (hk2 k hk).2
        · intro k hk
          rcases List.mem_append.mp hk with z | z
          · have := hk2 k z
            omega
          · rw [List.mem_singleton.mp z]
            omega
      by_cases hf : d3 = 0
      · refine ⟨some (.int (0 + (j : Int))), _, ?_, add a5 b5 hb5⟩
        simp [lcTurn_eq, wipe, hf]
      · obtain ⟨q, a6, b6, hq, hb6, f6⟩ := take1 (T := T) (n := n - 1) (by omega) hS hr (a := a5) hb5 (c := 4) (by omega) (by omega) (o := .lst ds) (ho _)
        by_cases hq0 : 0 < q
        · refine ⟨some (.int (0 + (j : Int))), _, ?_, add a6 b6 hb6⟩
          simp [lcTurn_eq, wipe, hf, f6, hq0]
        · refine ⟨none, (S.put r (boxL a6 b6)).new (.lst ds), ?_, a6, b6, ks, rfl, hb6, rfl, hk1, fun k hk => by have := hk2 k hk; omega, by omega⟩
          simp [lcTurn_eq, wipe, hf, f6, hq0]
end
end Mp

set_option Elab.async false
set_option linter.all false
set_option maxRecDepth 100000
set_option maxHeartbeats 1600000
/-! the first family's drawing: a state of two numbers. -/
namespace Mp
open PySem
variable {T : Nat → Option MDef} {n : Nat} {S : Sto} {r : Nat}
section
variable [Has T F_k01_take d_k01_take]
/-- what is drawn lies below the bound; the state stays one -/
theorem sq_take (hn : 1 ≤ n) (hr : BoxAt S r) {c : Int} (hc : 0 < c) (hc2 : c < 1000000) :
    ∃ d a' b', (0 ≤ d ∧ d < c) ∧ (0 ≤ b' ∧ b' < 2147483647) ∧ callF T n F_k01_take [.ref r, .int c] S = .ok (.int d) (S.put r (boxL a' b')) := by
  obtain ⟨a, b, hg, hb⟩ := hr
  have hg' : S.get r = some (.lst [.int a, .int b]) := hg
  have e3 : ∀ z w, (S.put r (boxL z w)).get r = some (boxL z w) := fun z w => ug_put hg
  rw [call_eq (by omega) _ rfl]
  by_cases h0 : 0 < a
  · refine ⟨a % c, a / c, b, ⟨Int.emod_nonneg _ (by omega), Int.emod_lt_of_pos _ hc⟩, hb, ?_⟩
    simp [d_k01_take, getIx_lst hg', h0, bop_mod hc, bop_fdiv hc (show c < 1073741824 by omega), setIx_lst0 hg']
  · have m1 := Int.emod_nonneg (b * 48271 + 29) (show (2147483647 : Int) ≠ 0 by decide)
    have m2 := Int.emod_lt_of_pos (b * 48271 + 29) (show (0 : Int) < 2147483647 by decide)
    generalize hq : (b * 48271 + 29) % 2147483647 = q at m1 m2
    have m3 := Int.emod_nonneg (q * q + 39373 * q + 7) (show (2147483629 : Int) ≠ 0 by decide)
    have m4 := Int.emod_lt_of_pos (q * q + 39373 * q + 7) (show (0 : Int) < 2147483629 by decide)
    refine ⟨((((q * q + 39373 * q + 7) % 2147483629) * ((q * q + 39373 * q + 7) % 2147483629) + 16807 * ((q * q + 39373 * q + 7) % 2147483629)) % 2147483587) / 8 % c, a, q, ⟨Int.emod_nonneg _ (by omega), Int.emod_lt_of_pos _ hc⟩, ⟨m1, m2⟩, ?_⟩
    simp [d_k01_take, getIx_lst hg', h0, bop_mul (mul_r (i := b) (j := 48271) (by decide) (by decide)), bop_mod, setIx_lst1 hg', hq, getIx_lst (e3 _ _), bop_mul (mul_l (i := q) (j := q) (by omega) (by omega)),
      bop_mul (mul_l (i := 39373) (j := q) (by decide) (by decide)), bop_mul (mul_l (i := (q * q + 39373 * q + 7) % 2147483629) (j := (q * q + 39373 * q + 7) % 2147483629) (by omega) (by omega)),
      bop_mul (mul_l (i := 16807) (j := (q * q + 39373 * q + 7) % 2147483629) (by decide) (by decide)), bop_fdiv, bop_mod hc]
end
end Mp

set_option Elab.async false
set_option linter.all false
set_option maxRecDepth 100000
set_option maxHeartbeats 1600000
/-! stands of two that are drawn; boxes. -/
namespace Mp
open PySem
variable {T : Nat → Option MDef} {n : Nat} {S : Sto} {r : Nat}
theorem rangeI_len (m : Nat) : (rangeI m).length = m := by simp [rangeI]
theorem rangeI_sorted (m : Nat) : (rangeI m).Pairwise (· ≤ ·) := by
  unfold rangeI
  rw [List.pairwise_map]
  exact (List.pairwise_lt_range (n := m)).imp fun h => by omega
theorem rangeI_mem {m : Nat} {k : Int} : k ∈ rangeI m ↔ 0 ≤ k ∧ k < (m : Int) := by
  unfold rangeI
  simp only [List.mem_map, List.mem_range]
  constructor
  · rintro ⟨a, h1, rfl⟩; omega
  · rintro ⟨h1, h2⟩; exact ⟨k.toNat, by omega, by omega⟩
theorem sort_perm {m : Nat} {ks : List Int} (h : ks.Perm (rangeI m)) : sortI ks = rangeI m := perm_sorted_eq (sortI_sorted ks) (rangeI_sorted m) ((sortI_perm ks).trans h)
theorem keysV_perm {m : Nat} {ks : List Int} (h : ks.Perm (rangeI m)) : keysV m (.tup (ks.map Val.int)) = true := by
  have e : (ks.map Val.int).all isIntB = true := by
    rw [List.all_eq_true]
    intro v hv
    obtain ⟨i, _, rfl⟩ := List.mem_map.mp hv
    rfl
  simp only [keysV, e, map_intV, sort_perm h, decide_true, Bool.and_self]
theorem take_ints (k : Nat) (ns : List Int) : (ns.map Val.int).take k = (ns.take k).map Val.int := by rw [List.map_take]
theorem drop_ints (k : Nat) (ns : List Int) : (ns.map Val.int).drop k = (ns.drop k).map Val.int := by rw [List.map_drop]
theorem erase_ints : ∀ (k : Nat) (ns : List Int), (ns.map Val.int).eraseIdx k = (ns.eraseIdx k).map Val.int
  | _, [] => by simp
  | 0, x :: ns => by simp
  | k + 1, x :: ns => by simp [erase_ints k ns]
/-- a drawn stand: rooms x, y, keys ks -/
def stand2 (x y : Int) (ks : List Int) : Val := .tup [.tup [.int x, .int y], .tup ((ks.take 2).map Val.int), .tup ((ks.drop 2).map Val.int)]
section
variable [Has T F_k49_more d_k49_more] [Has T F_k49_take d_k49_take] [Has T F_k49_stand d_k49_stand]
theorem sp_stand2 (hn : 3 ≤ n) (hS : S.wf) (hr : BoxAt S r) {i : Int} {doors : List Val} (hi : 1 ≤ i) (hi6 : i ≤ 6) (hd : doors.length ≤ 3) :
    ∃ x y ks a' b', (0 ≤ x ∧ x < i) ∧ (0 ≤ y ∧ y < i) ∧ ks.Perm (rangeI (doors.length + 2)) ∧ (0 ≤ b' ∧ b' < 2147483647) ∧
      callF T n F_k49_stand [.ref r, .tup [.int i, .tup doors]] S = .ok (stand2 x y ks) (S.put r (boxL a' b')) := by
  have hlt := hr.lt
  obtain ⟨a0, b0, hg, hb0⟩ := id hr
  have hw : ∀ a b, (S.put r (boxL a b)).wf := fun a b => hr.wf hS
  have loop := whl_rule (cf := callF T (n - 1)) (k := S.n) (c := (.gc (.cmp .ne (.var 3) (.lst .nil))))
    (p := B_k49_stand_0)
    (env := [some (.ref r), some (.tup [.int i, .tup doors]), none, some (.ref S.n), some (.ref (S.n + 1))]) (S := ((S.put r (boxL a0 b0)).new (.lst ((rangeI (doors.length + 2)).map Val.int))).new (.lst []))
    (fun m env S' => ∃ (a b : Int) (left found : List Int), env = [some (.ref r), some (.tup [.int i, .tup doors]), none, some (.ref S.n), some (.ref (S.n + 1))] ∧ S' = ((S.put r (boxL a b)).new (.lst (left.map Val.int))).new (.lst (found.map Val.int)) ∧ (0 ≤ b ∧ b < 2147483647) ∧
      left.length = m ∧ (found ++ left).Perm (rangeI (doors.length + 2)))
    (fun fl env S' => ∃ (a b : Int) (found : List Int), fl = .next ∧ env = [some (.ref r), some (.tup [.int i, .tup doors]), none, some (.ref S.n), some (.ref (S.n + 1))] ∧ S' = ((S.put r (boxL a b)).new (.lst [])).new (.lst (found.map Val.int)) ∧ (0 ≤ b ∧ b < 2147483647) ∧ found.Perm (rangeI (doors.length + 2)))
    ?_ (m := doors.length + 2) (by omega) ⟨a0, b0, rangeI (doors.length + 2), [], rfl, rfl, hb0, rangeI_len _, by simp⟩
  · obtain ⟨fl, env', S', e, a1, b1, found, rfl, rfl, rfl, hb1, hp⟩ := loop
    obtain ⟨x, a2, b2, hx, hb2, e2⟩ := take2 (T := T) (n := n - 1) (by omega) hS hr (a := a1) hb1 (c := i) (by omega) (by omega) (o := .lst []) (o2 := .lst (found.map Val.int)) rfl (by simp)
    obtain ⟨y, a3, b3, hy, hb3, e3⟩ := take2 (T := T) (n := n - 1) (by omega) hS hr (a := a2) hb2 (c := i) (by omega) (by omega) (o := .lst []) (o2 := .lst (found.map Val.int)) rfl (by simp)
    refine ⟨x, y, found, a3, b3, hx, hy, hp, hb3, ?_⟩
    rw [call_eq (by omega) _ rfl]
    have hself := up_self hg
    have hrg : rgOk 0 ((doors.length : Int) + 2) = true := rgOk_of (by omega) (by omega) (by omega) (by omega) (by omega)
    have erng : rngL 0 ((doors.length : Int) + 2) = (rangeI (doors.length + 2)).map Val.int := by
      have := rngL_ints (m := doors.length + 2)
      simpa using this
    rw [hself] at e
    have wf2 : ∀ X : SO, X.rlt (S.n + 2) = true → ((((S.put r (boxL a3 b3)).new (.lst [])).new (.lst (found.map Val.int))).new X).wf := fun X hX => by simp [hw, hX]
    have eg1 : evE (callF T (n - 1)) (.gc (.blt .tuple (.cons (.sl (.var 4) .non (.int 2)) .nil))) [some (.ref r), some (.tup [.int i, .tup doors]), some (.tup [.int x, .int y]), some (.ref S.n), some (.ref (S.n + 1))] (((S.put r (boxL a3 b3)).new (.lst [])).new (.lst (found.map Val.int)))
        = .ok (.tup ((found.take 2).map Val.int)) (((S.put r (boxL a3 b3)).new (.lst [])).new (.lst (found.map Val.int))) := by
      refine gc_by (v := .tup ((found.take 2).map Val.int)) (S1 := (((S.put r (boxL a3 b3)).new (.lst [])).new (.lst (found.map Val.int))).new (.lst ((found.take 2).map Val.int))) ?_ (gcf1 rfl (by simp [hw]) nrss_ints)
      have g1 : (((S.put r (boxL a3 b3)).new (.lst [])).new (.lst (found.map Val.int))).get (S.n + 1) = some (.lst (found.map Val.int)) := ug_new' (by simp)
      have g2 : ((((S.put r (boxL a3 b3)).new (.lst [])).new (.lst (found.map Val.int))).new (.lst ((found.take 2).map Val.int))).get (S.n + 2) = some (.lst ((found.take 2).map Val.int)) := ug_new' (by simp)
      simp only [ev_blt, ea_cons, ev_sl, ev_var, varR_succ, varR_zero, bind_ok_, ev_non, ev_int, partOf_non, partOf_lit, getSl_lst g1, cut_to2, take_ints, ea_nil, n_new, n_put]
      exact tuple_lst g2
    have eg2 : evE (callF T (n - 1)) (.gc (.blt .tuple (.cons (.sl (.var 4) (.int 2) .non) .nil))) [some (.ref r), some (.tup [.int i, .tup doors]), some (.tup [.int x, .int y]), some (.ref S.n), some (.ref (S.n + 1))] (((S.put r (boxL a3 b3)).new (.lst [])).new (.lst (found.map Val.int)))
        = .ok (.tup ((found.drop 2).map Val.int)) (((S.put r (boxL a3 b3)).new (.lst [])).new (.lst (found.map Val.int))) := by
      refine gc_by (v := .tup ((found.drop 2).map Val.int)) (S1 := (((S.put r (boxL a3 b3)).new (.lst [])).new (.lst (found.map Val.int))).new (.lst ((found.drop 2).map Val.int))) ?_ (gcf1 rfl (by simp [hw]) nrss_ints)
      have g1 : (((S.put r (boxL a3 b3)).new (.lst [])).new (.lst (found.map Val.int))).get (S.n + 1) = some (.lst (found.map Val.int)) := ug_new' (by simp)
      have g2 : ((((S.put r (boxL a3 b3)).new (.lst [])).new (.lst (found.map Val.int))).new (.lst ((found.drop 2).map Val.int))).get (S.n + 2) = some (.lst ((found.drop 2).map Val.int)) := ug_new' (by simp)
      simp only [ev_blt, ea_cons, ev_sl, ev_var, varR_succ, varR_zero, bind_ok_, ev_non, ev_int, partOf_non, partOf_lit, getSl_lst g1, cut_from2, drop_ints, ea_nil, n_new, n_put]
      exact tuple_lst g2
    simp [-List.map_take, -List.map_drop, d_k49_stand, range1 (show -(2 ^ 62) ≤ (doors.length : Int) + 2 by omega) (show (doors.length : Int) + 2 < 2 ^ 62 by omega), list_rng hrg, erng, cap_eq, es_whl, e, e2, e3, eg1, eg2]
    rw [gcf2 (by simp) (hw a3 b3) (by simp only [nrs_tup, nrss_cons, nrs_int, nrss_nil, nrss_ints, List.append_nil])]
    exact ⟨rfl, rfl⟩
  · rintro m env S' ⟨a, b, left, found, rfl, rfl, hb, rfl, hp⟩
    have g1 : (((S.put r (boxL a b)).new (.lst (left.map Val.int))).new (.lst (found.map Val.int))).get S.n = some (.lst (left.map Val.int)) := by simp
    have g2 : (((S.put r (boxL a b)).new (.lst (left.map Val.int))).new (.lst (found.map Val.int))).get (S.n + 1) = some (.lst (found.map Val.int)) := ug_new' (by simp)
    refine ⟨.bl (!(left.map Val.int).isEmpty), gc_ne_nil (by simp [hw]) (by simp) g1, ?_⟩
    cases left with
    | nil => exact .inl ⟨rfl, a, b, found, rfl, rfl, rfl, hb, by simpa using hp⟩
    | cons z left =>
      refine .inr ⟨rfl, .next, [some (.ref r), some (.tup [.int i, .tup doors]), none, some (.ref S.n), some (.ref (S.n + 1))], ?_⟩
      generalize hl : z :: left = L at *
      have hL : 0 < L.length := by rw [← hl]; simp
      have hLM : (found ++ L).length = doors.length + 2 := by rw [hp.length_eq, rangeI_len]
      rw [List.length_append] at hLM
      obtain ⟨d, a2, b2, hd2, hb2, e2⟩ := take2 (T := T) (n := n - 1) (by omega) hS hr (a := a) hb (c := (L.length : Int)) (by omega) (by omega) (o := .lst (L.map Val.int)) (o2 := .lst (found.map Val.int)) (by simp) (by simp)
      obtain ⟨k, rfl⟩ : ∃ k : Nat, d = (k : Int) := ⟨d.toNat, by omega⟩
      have hk : k < L.length := by omega
      have g3 : (((S.put r (boxL a2 b2)).new (.lst (L.map Val.int))).new (.lst (found.map Val.int))).get S.n = some (.lst (L.map Val.int)) := by simp
      have g4 : (((S.put r (boxL a2 b2)).new (.lst ((L.eraseIdx k).map Val.int))).new (.lst (found.map Val.int))).get (S.n + 1) = some (.lst (found.map Val.int)) := ug_new' (by simp)
      have hk2 : (L.map Val.int)[k]? = some (.int L[k]) := by rw [List.getElem?_map, List.getElem?_eq_getElem hk]; rfl
      have pp := pop_lst g3 hk2 (by simp; omega)
      rw [erase_ints] at pp
      refine ⟨((S.put r (boxL a2 b2)).new (.lst ((L.eraseIdx k).map Val.int))).new (.lst ((found ++ [L[k]]).map Val.int)), ?_, (L.eraseIdx k).length, ?_, a2, b2, L.eraseIdx k, found ++ [L[k]], rfl, rfl, hb2, rfl, ?_⟩
      · have hf : (found.map Val.int).length < 1000000 := by simp; omega
        simp [B_k49_stand_0, recv_append g2, recv_pop g1, len_lst g1, e2, pp, append_lst g4 hf]
      · rw [List.length_eraseIdx_of_lt hk]
        omega
      · refine List.Perm.trans ?_ hp
        rw [List.append_assoc]
        exact List.Perm.append_left _ (cons_erase_perm hk)
end
section
variable [Has T F_k49_box d_k49_box]
theorem sp_box (hn : 1 ≤ n) (hS : S.wf) {ns : List Int} {k : Nat} (hk : k < 1000) :
    ∃ a b, (0 ≤ b ∧ b < 2147483647) ∧ callF T n F_k49_box [.fl (ns.map Val.int), .int (k : Int)] S = .ok (.ref S.n) (S.new (boxL a b)) := by
  have hM : ∀ x : Int, 0 ≤ x % 2147483647 ∧ x % 2147483647 < 2147483647 := fun x => by omega
  obtain ⟨h, eh⟩ : ∃ h : Int, (if (k : Int) < (ns.length : Int) then ns[k]? = some h else h = 7919 * (k : Int) + 13) := by
    by_cases hlt : k < ns.length
    · exact ⟨ns[k], by rw [if_pos (by omega)]; exact List.getElem?_eq_getElem hlt⟩
    · exact ⟨7919 * (k : Int) + 13, by rw [if_neg (by omega)]⟩
  have hm1 : mulOk 7919 (k : Int) = true := mul_l (by omega) (by omega)
  have first : ∀ p : MB, evB (callF T (n - 1)) S.n (.cons (.asg (.nm 2) (.bin .add (.bin .mul (.int 7919) (.var 1)) (.int 13))) (.cons (.ifs (.cmp .lt (.var 1) (.blt .len (.cons (.var 0) .nil))) (.cons (.asg (.nm 2) (.ix (.var 0) (.var 1))) .nil) .nil) p)) [some (.fl (ns.map Val.int)), some (.int (k : Int)), none, none, none, none] S
      = evB (callF T (n - 1)) S.n p [some (.fl (ns.map Val.int)), some (.int (k : Int)), some (.int h), none, none, none] S := by
    intro p
    by_cases hlt : (k : Int) < (ns.length : Int)
    · rw [if_pos hlt] at eh
      simp [bop_mul hm1, hlt, itemAt_nat, eh]
    · rw [if_neg hlt] at eh
      simp [bop_mul hm1, hlt, eh]
  by_cases h2 : h % 2 = 0
  · refine ⟨h / 2, (if h < 0 then -h else h) % 2147483647, hM _, ?_⟩
    rw [call_eq (by omega) _ rfl]
    simp only [d_k49_box, List.map_cons, List.map_nil, List.length_cons, List.length_nil, List.replicate, List.cons_append, List.nil_append]
    rw [first]
    simp [bop_mod, bop_fdiv, h2, cap_eq, hS]
  · have loop := for_next (cf := callF T (n - 1)) (k := S.n) (g := .nm 4) (src := .val (.rng 0 16)) (xs := rngL 0 16) (env := [some (.fl (ns.map Val.int)), some (.int (k : Int)), some (.int h), some (.int 0), none, none]) (S := S)
      (p := B_k49_box_0)
      (fun i env S' => ∃ num o4 o5, env = [some (.fl (ns.map Val.int)), some (.int (k : Int)), some (.int h), some (.int num), o4, o5] ∧ S' = S)
      (by decide) (fun i env S' _ => gives_rng (by decide) i) ?_ ⟨0, none, none, rfl, rfl⟩
    · obtain ⟨env', S', e, num, o4, o5, rfl, rfl⟩ := loop
      refine ⟨num, (if h < 0 then -h else h) % 2147483647, hM _, ?_⟩
      rw [call_eq (by omega) _ rfl]
      simp only [d_k49_box, List.map_cons, List.map_nil, List.length_cons, List.length_nil, List.replicate, List.cons_append, List.nil_append]
      rw [first]
      simp [bop_mod, h2, es_for, range1, e, cap_eq, hS]
    · rintro i x env S' hx ⟨num, o4, o5, rfl, rfl⟩
      obtain ⟨rfl, hi⟩ := rngL_get hx
      have q1 := hM h
      have q2 := hM (h % 2147483647 * 48271 + 7919 * (0 + (i : Int)) + 1)
      generalize e1 : (h % 2147483647 * 48271 + 7919 * (0 + (i : Int)) + 1) % 2147483647 = p1 at q2
      have q3 : 0 ≤ p1 * p1 % 2147483629 ∧ p1 * p1 % 2147483629 < 2147483629 := by omega
      generalize e2 : p1 * p1 % 2147483629 = p2 at q3
      refine ⟨[some (.fl (ns.map Val.int)), some (.int (k : Int)), some (.int h), some (.int (num * 2147483647 + p2 * (p2 + 13) % 2147483647)), some (.int (0 + (i : Int))), some (.int p2)], S', ?_, _, _, _, rfl, rfl⟩
      simp only [Int.zero_add] at e1
      simp [B_k49_box_0, bop_mod, bop_mul (mul_r (i := h % 2147483647) (j := 48271) (by decide) (by decide)), bop_mul (mul_l (i := 7919) (j := (i : Int)) (by decide) (by decide)), e1, bop_mul (mul_l (i := p1) (j := p1) (by omega) (by omega)), e2, bop_mul (mul_r (i := num) (j := 2147483647) (by decide) (by decide)), bop_mul (mul_l (i := p2) (j := p2 + 13) (by omega) (by omega))]
end
end Mp

set_option Elab.async false
set_option linter.all false
set_option maxRecDepth 100000
set_option maxHeartbeats 1600000
/-! law k49: its own looks. -/
namespace Mp
open PySem
variable {T : Nat → Option MDef} {n : Nat} {S : Sto} {v : Val}
theorem rise_pw : ∀ {ns : List Int}, riseB ns = true → ns.Pairwise (· < ·)
  | [], _ => List.Pairwise.nil
  | [x], _ => List.pairwise_singleton _ _
  | x :: y :: r, h => by
    simp only [riseB, Bool.and_eq_true, decide_eq_true_eq] at h
    have h2 := rise_pw h.2
    have h3 := List.pairwise_cons.mp h2
    refine List.pairwise_cons.mpr ⟨fun z hz => ?_, h2⟩
    rcases List.mem_cons.mp hz with e | e
    · rw [e]; exact h.1
    · have := h3.1 z e
      omega
theorem rise_sortU (ns : List Int) : decide (ns = sortU ns) = riseB ns := by
  refine Bool.eq_iff_iff.mpr ⟨fun h => ?_, fun h => ?_⟩
  · have h := of_decide_eq_true h
    rw [h]
    exact riseB_of (sortU_sorted ns)
  · exact decide_eq_true (rise_eq (rise_pw h) (sortU_sorted ns) fun k => by rw [sortU_mem])
theorem sorts_tup {ns : List Int} (h : ns.length < 64) : sortSet (.tup (ns.map Val.int)) S = .ok (.ref S.n) (S.new (.lst ((sortU ns).map Val.int))) := by
  simp only [sortSet, ints_map, decide_eq_true h, if_true]
section
variable [Has T F_k49_whole d_k49_whole]
theorem sp_k49_whole (hn : 1 ≤ n) (hS : S.wf) (hv : okH S v = true) {hi : Int} : callF T n F_k49_whole [v, .int hi] S = .ok (.bl (amongV v 0 hi)) S := by
  rw [call_eq (by omega) _ rfl]
  simp [d_k49_whole, ty_int hv, ty_bool hv]
  cases v with
  | int i => by_cases h : 0 ≤ i <;> simp [isIntB, isBlB, amongV, h, hS]
  | _ => simp [isIntB, isBlB, amongV, hS]
variable [Has T F_k49_is_house d_k49_is_house]
theorem sp_k49_is_house (hn : 2 ≤ n) (hS : S.wf) (hv : okH S v = true) : callF T n F_k49_is_house [v] S = .ok (.bl (houseV 3 2 v)) S := by
  rw [call_eq (by omega) _ rfl]
  cases v with
  | tup xs =>
    simp only [okH, Bool.and_eq_true, decide_eq_true_eq] at hv
    by_cases h2 : xs.length = 2
    · obtain ⟨a, b, rfl⟩ := two_of h2
      simp only [okHs, Bool.and_eq_true, and_true] at hv
      obtain ⟨_, ha, hb⟩ := hv
      have ea' := sp_k49_whole (T := T) (n := n - 1) (by omega) hS ha (hi := 6)
      simp [d_k49_is_house, ea']
      cases ea : amongV a 0 6 with
      | false =>
        have : amongV a 1 6 = false := by
          cases a with
          | int i => simp [amongV] at ea ⊢; omega
          | _ => rfl
        cases b <;> simp [houseV, this, hS]
      | true =>
        obtain ⟨i, rfl, hi⟩ := among_int ea
        by_cases h0 : i = 0
        · have : amongV (.int i) 1 6 = false := by simp [amongV]; omega
          subst h0
          cases b <;> simp [houseV, this, hS]
        · have e16 : amongV (.int i) 1 6 = true := by simp [amongV]; omega
          simp [ty_tup hb, h0]
          cases b with
          | tup doors =>
            simp only [okH, Bool.and_eq_true, decide_eq_true_eq] at hb
            simp [isTupB]
            by_cases hm : 3 < (doors.length : Int)
            · have h3 : ¬ (doors.length : Int) ≤ 3 := by omega
              simp [hm, houseV, h3, hS]
            · have h3 : (doors.length : Int) ≤ 3 := by omega
              simp [hm, es_for]
              have loop := for_rule (cf := callF T (n - 1)) (k := S.n) (g := .nm 1) (src := .val (.tup doors)) (xs := doors) (env := [some (.tup [.int i, .tup doors]), none, none]) (S := S)
                (p := B_k49_is_house_0)
                (fun j env S' => ∃ o1, env = [some (.tup [.int i, .tup doors]), o1, none] ∧ S' = S ∧ ∀ k d, k < j → doors[k]? = some d → doorV i ((doors.length : Int) + 2) d = true)
                (fun w env S' => w = .bl false ∧ S' = S ∧ doors.all (doorV i ((doors.length : Int) + 2)) = false)
                (by omega) (fun j env S' _ => gives_tup j) ?_ ⟨none, rfl, rfl, fun k d h => by omega⟩
              · obtain ⟨fl, env', S', e, h⟩ := loop
                rw [e]
                cases fl with
                | next =>
                  obtain ⟨o1, rfl, rfl, hall⟩ := h
                  have e7 : doors.all (doorV i ((doors.length : Int) + 2)) = true := by
                    rw [List.all_eq_true]
                    intro d hd
                    obtain ⟨k, hk⟩ := List.getElem?_of_mem hd
                    exact hall k d (List.getElem?_eq_some_iff.mp hk).1 hk
                  simp only [houseV, e16, e7, intV, decide_eq_true h3, Bool.and_self]
                  simp [hS]
                | ret w =>
                  obtain ⟨rfl, rfl, hall⟩ := h
                  simp only [houseV, hall, intV, Bool.and_false]
                  simp [hS]
              · rintro j x env S' hx ⟨o1, rfl, rfl, hall⟩
                have hxm := List.mem_of_getElem? hx
                have hxo := okHs_all.mp hb.2 x hxm
                -- what a turn says
                have turn : ∀ t : Bool, doorV i ((doors.length : Int) + 2) x = t → (∃ fl env' S1, ((asG (callF T (n - 1)) (.nm 1) x [some (.tup [.int i, .tup doors]), o1, none] S').bind fun env2 S3 => evB (callF T (n - 1)) S'.n B_k49_is_house_0 env2 S3) = .ok (fl, env') S1 ∧ fl = (if t then .next else .ret (.bl false)) ∧ env' = [some (.tup [.int i, .tup doors]), some x, none] ∧ S1 = S') := by
                  intro t ht
                  refine ⟨_, _, _, ?_, rfl, rfl, rfl⟩
                  subst ht
                  unfold B_k49_is_house_0
                  cases x with
                  | tup ys =>
                    simp only [okH, Bool.and_eq_true, decide_eq_true_eq] at hxo
                    by_cases h3 : ys.length = 3
                    · obtain ⟨p, q, c, rfl⟩ := three_of h3
                      simp only [okHs, Bool.and_eq_true, and_true] at hxo
                      obtain ⟨_, hp, hq, hc⟩ := hxo
                      simp [ty_tup hc]
                      cases c with
                      | tup fits =>
                        simp only [okH, Bool.and_eq_true, decide_eq_true_eq] at hc
                        have ep' := sp_k49_whole (T := T) (n := n - 1) (by omega) hS hp (hi := i - 1)
                        have eq' := sp_k49_whole (T := T) (n := n - 1) (by omega) hS hq (hi := i - 1)
                        simp [isTupB, ep', eq']
                        cases ep : amongV p 0 (i - 1) with
                        | false => simp [doorV, ep]
                        | true =>
                          cases eq : amongV q 0 (i - 1) with
                          | false => simp [doorV, ep, eq, eq']
                          | true =>
                            obtain ⟨p1, rfl, hp1⟩ := among_int ep
                            obtain ⟨q1, rfl, hq1⟩ := among_int eq
                            by_cases hpq : q1 ≤ p1
                            · have : ¬ p1 < q1 := by omega
                              simp [hpq, doorV, ltI, intV, this, eq', eq]
                            · have h2 : p1 < q1 := by omega
                              simp [hpq, eq', eq]
                              rw [gc_all (src := .val (.tup fits)) (xs := fits) (f := fun k => amongV k 0 ((doors.length : Int) + 1)) hS (by simp) gives_tup (by omega) (fun x hx => by
                                simp [lcTurn_eq, wipe, sp_k49_whole (T := T) (n := n - 1) (by omega) hS (okHs_all.mp hc.2 x hx)])]
                              have e8 : (doors.length : Int) + 2 - 1 = (doors.length : Int) + 1 := by omega
                              cases ef : (fits.all fun k => amongV k 0 ((doors.length : Int) + 1)) with
                              | false => simp only [doorV, e8, ef, Bool.false_and, Bool.and_false]; simp
                              | true =>
                                obtain ⟨h4, h5⟩ := among_ints ef
                                have eg : evE (callF T (n - 1)) (.gc (.cmp .ne (.blt .list (.cons (.ix (.var 1) (.int 2)) .nil)) (.sorts (.ix (.var 1) (.int 2))))) [some (.tup [.int i, .tup doors]), some (.tup [.int p1, .int q1, .tup fits]), none] S' = .ok (.bl (!riseB (fits.map intV))) S' := by
                                  refine gc_by (v := .bl (!riseB (fits.map intV))) (S1 := (S'.new (.lst fits)).new (.lst ((sortU (fits.map intV)).map Val.int))) ?_ (gcf2 rfl hS rfl)
                                  have e9 := sorts_tup (S := S'.new (.lst fits)) (ns := fits.map intV) (by simp; omega)
                                  rw [← h4] at e9
                                  simp [e9]
                                  have e10 := cop_ne_lst (S := (S'.new (.lst fits)).new (.lst ((sortU (fits.map intV)).map Val.int))) (r := S'.n) (q := S'.n + 1) (xs := (fits.map intV).map Val.int) (ys := (sortU (fits.map intV)).map Val.int)
                                    (by rw [← h4]; simp) (ug_new' (by simp)) (key_ints _) (key_ints _)
                                  rw [e10, veqs_ints, rise_sortU]
                                have ep2 : amongV (.int p1) 0 (i - 1) = true := ep
                                simp only [doorV, e8, ef, ep, eq, ltI, intV, decide_eq_true h2, Bool.true_and]
                                cases er : riseB (fits.map intV) <;> simp [eg, er, h2]
                      | _ => simp [isTupB, doorV]
                    · have h4 : ((ys.length : Int) = 3) = False := by simp; omega
                      simp [h4, doorV_len h3]
                  | _ => simp [ty_tup hxo, isTupB, doorV]
                cases ht : doorV i ((doors.length : Int) + 2) x with
                | true =>
                  obtain ⟨fl, env', S1, e, rfl, rfl, rfl⟩ := turn true ht
                  refine ⟨_, _, _, e, some x, rfl, rfl, fun k d hk hd => ?_⟩
                  by_cases hkj : k = j
                  · subst hkj
                    rw [hx] at hd
                    cases hd
                    exact ht
                  · exact hall k d (by omega) hd
                | false =>
                  obtain ⟨fl, env', S1, e, rfl, rfl, rfl⟩ := turn false ht
                  refine ⟨_, _, _, e, rfl, rfl, ?_⟩
                  rw [List.all_eq_false]
                  exact ⟨x, hxm, by rw [ht]; simp⟩
          | _ => simp [isTupB, houseV, hS]
    · have h4 : ((xs.length : Int) = 2) = False := by simp; omega
      simp [d_k49_is_house, h4, houseV_len h2, hS]
  | _ => simp [d_k49_is_house, ty_tup hv, isTupB, houseV, hS]
end
end Mp

set_option Elab.async false
set_option linter.all false
set_option maxRecDepth 100000
set_option maxHeartbeats 1600000
/-! law k01: looks at houses. -/
namespace Mp
open PySem
section
variable {cf : Nat → List Val → Sto → R Val} {env : Env} {S : Sto} {c e : ME} {g : MG} {own : List Nat} {s : MI} {src : Src} {xs : List Val}
theorem out_empty {f : Val → Bool} : ∀ {xs : List Val}, (xs.filterMap fun x => if f x then none else some x).isEmpty = xs.all f
  | [] => rfl
  | x :: xs => by
    rw [List.filterMap_cons, List.all_cons]
    cases f x <;> simp [out_empty (f := f) (xs := xs)]
/-- [x for x in xs if not f(x)] == [] -/
theorem gc_none {f : Val → Bool} (hS : S.wf) (hs : evI cf s env S = .ok src S) (hg : Gives S src xs) (hl : xs.length < 100000) (ht : ∀ x ∈ xs, lcTurn cf own g c e env x S = .ok (if f x then none else some x) S) :
    evE cf (.gc (.cmp .eq (.lc own s g c e) (.lst .nil))) env S = .ok (.bl (xs.all f)) S := by
  rw [ev_gc, ev_cmp, lc_fil hs hg hl ht, bind_ok_, ev_lst, ea_nil, bind_ok_, if_pos (by simp [cap_eq]), bind_ok_, cop_eq_nil (xs := xs.filterMap fun x => if f x then none else some x) (by rw [ug_old (by simp)]; exact ug_new) ug_new, bind_ok_, gcf2 rfl hS (by rfl), out_empty]
theorem gc_some {f : Val → Bool} (hS : S.wf) (hs : evI cf s env S = .ok src S) (hg : Gives S src xs) (hl : xs.length < 100000) (ht : ∀ x ∈ xs, lcTurn cf own g c e env x S = .ok (if f x then none else some x) S) :
    evE cf (.gc (.cmp .ne (.lc own s g c e) (.lst .nil))) env S = .ok (.bl (!xs.all f)) S := by
  rw [ev_gc, ev_cmp, lc_fil hs hg hl ht, bind_ok_, ev_lst, ea_nil, bind_ok_, if_pos (by simp [cap_eq]), bind_ok_, cop_ne_nil (xs := xs.filterMap fun x => if f x then none else some x) (by rw [ug_old (by simp)]; exact ug_new) ug_new, bind_ok_, gcf2 rfl hS (by rfl), out_empty]
end
variable {T : Nat → Option MDef} {n : Nat} {S : Sto} {v : Val}
section
variable [Has T F_k01_number d_k01_number]
theorem sq_number (hn : 1 ≤ n) (hS : S.wf) (hv : okH S v = true) {lo hi : Int} : callF T n F_k01_number [v, .int lo, .int hi] S = .ok (.bl (amongV v lo hi)) S := by
  rw [call_eq (by omega) _ rfl]
  simp [d_k01_number, ty_int hv, ty_bool hv]
  cases v with
  | int i => by_cases h : lo ≤ i <;> simp [isIntB, isBlB, amongV, h, hS]
  | _ => simp [isIntB, isBlB, amongV, hS]
variable [Has T F_k01_is_door d_k01_is_door]
theorem sq_is_door (hn : 2 ≤ n) (hS : S.wf) (hv : okH S v = true) {rooms keys : Int} : callF T n F_k01_is_door [v, .int rooms, .int keys] S = .ok (.bl (doorV rooms keys v)) S := by
  rw [call_eq (by omega) _ rfl]
  cases v with
  | tup xs =>
    simp only [okH, Bool.and_eq_true, decide_eq_true_eq] at hv
    by_cases h3 : xs.length = 3
    · obtain ⟨a, b, c, rfl⟩ := three_of h3
      simp only [okHs, Bool.and_eq_true, and_true] at hv
      obtain ⟨_, ha, hb, hc⟩ := hv
      simp [d_k01_is_door, ty_tup hc]
      cases c with
      | tup fits =>
        simp only [okH, Bool.and_eq_true, decide_eq_true_eq] at hc
        have ea' := sq_number (T := T) (n := n - 1) (by omega) hS ha (lo := 0) (hi := rooms - 1)
        have eb' := sq_number (T := T) (n := n - 1) (by omega) hS hb (lo := 0) (hi := rooms - 1)
        simp [isTupB, ea', eb']
        cases ea : amongV a 0 (rooms - 1) with
        | false => simp [doorV, ea, hS]
        | true =>
          cases eb : amongV b 0 (rooms - 1) with
          | false => simp [doorV, ea, eb, eb', hS]
          | true =>
            obtain ⟨i, rfl, hi⟩ := among_int ea
            obtain ⟨j, rfl, hj⟩ := among_int eb
            by_cases hij : j ≤ i
            · have : ¬ i < j := by omega
              simp [hij, doorV, ltI, intV, this, hS, eb', eb]
            · have h2 : i < j := by omega
              simp [hij, eb', eb]
              rw [gc_some (src := .val (.tup fits)) (xs := fits) (f := fun k => amongV k 0 (keys - 1)) hS (by simp) gives_tup (by omega) (fun x hx => by
                simp [lcTurn_eq, wipe, sq_number (T := T) (n := n - 1) (by omega) hS (okHs_all.mp hc.2 x hx)]
                cases amongV x 0 (keys - 1) <;> simp)]
              cases ef : (fits.all fun k => amongV k 0 (keys - 1)) with
              | false => simp [doorV, ef, hS]
              | true =>
                obtain ⟨h4, h5⟩ := among_ints ef
                have hl : (fits.map intV).length < 64 := by simp; omega
                have e7 : evE (callF T (n - 1)) (.gc (.cmp .eq (.blt .list (.cons (.ix (.var 0) (.int 2)) .nil)) (.sorts (.ix (.var 0) (.int 2))))) [some (.tup [.int i, .int j, .tup fits]), some (.int rooms), some (.int keys), none] S = .ok (.bl (riseB (fits.map intV))) S := by
                  refine gc_by (S1 := (S.new (.lst fits)).new (.lst ((sortU (fits.map intV)).map Val.int))) (v := .bl (riseB (fits.map intV))) ?_ (gcf2 rfl hS (by rfl))
                  have e8 := sorts_tup (S := S.new (.lst fits)) hl
                  rw [← h4] at e8
                  have hk : fits.all (keyOk 11) = true := by rw [h4]; exact key_ints _
                  have e9 : veqs fits ((sortU (fits.map intV)).map Val.int) = riseB (fits.map intV) := by
                    have := veqs_ints (fits.map intV) (sortU (fits.map intV))
                    rw [← h4] at this
                    rw [this, rise_sortU]
                  have e10 := cop_eq_lst (S := (S.new (.lst fits)).new (.lst ((sortU (fits.map intV)).map Val.int))) (r := S.n) (q := S.n + 1) (xs := fits) (ys := (sortU (fits.map intV)).map Val.int) ((ug_old (show S.n < (S.new _).n by simp)).trans ug_new) ug_new hk (key_ints _)
                  simp [e8, e10, e9]
                simp [e7, doorV, ea, eb, ltI, intV, h2, hS, ef]
      | _ => simp [isTupB, doorV, hS]
    · have h4 : ((xs.length : Int) = 3) = False := by simp; omega
      simp [d_k01_is_door, h4, doorV_len h3, hS]
  | _ => simp [d_k01_is_door, ty_tup hv, isTupB, doorV, hS]
variable [Has T F_k01_is_house d_k01_is_house]
theorem sq_is_house (hn : 3 ≤ n) (hS : S.wf) (hv : okH S v = true) : callF T n F_k01_is_house [v] S = .ok (.bl (houseV 7 1 v)) S := by
  rw [call_eq (by omega) _ rfl]
  cases v with
  | tup xs =>
    simp only [okH, Bool.and_eq_true, decide_eq_true_eq] at hv
    by_cases h2 : xs.length = 2
    · obtain ⟨a, b, rfl⟩ := two_of h2
      simp only [okHs, Bool.and_eq_true, and_true] at hv
      obtain ⟨_, ha, hb⟩ := hv
      have ea' := sq_number (T := T) (n := n - 1) (by omega) hS ha (lo := 1) (hi := 6)
      simp [d_k01_is_house, ea']
      cases ea : amongV a 1 6 with
      | false => cases b <;> simp [houseV, ea, hS]
      | true =>
        obtain ⟨i, rfl, hi⟩ := among_int ea
        simp [ty_tup hb]
        cases b with
        | tup doors =>
          simp only [okH, Bool.and_eq_true, decide_eq_true_eq] at hb
          simp [isTupB]
          by_cases hm : 7 < (doors.length : Int)
          · have h3 : ¬ (doors.length : Int) ≤ 7 := by omega
            simp [hm, houseV, h3, hS]
          · have h3 : (doors.length : Int) ≤ 7 := by omega
            simp [hm]
            rw [gc_none (src := .val (.tup doors)) (xs := doors) (f := doorV i ((doors.length : Int) + 1)) hS (by simp) gives_tup (by omega) (fun x hx => by
              simp [lcTurn_eq, wipe, sq_is_door (T := T) (n := n - 1) (by omega) hS (okHs_all.mp hb.2 x hx)]
              cases doorV i ((doors.length : Int) + 1) x <;> simp)]
            simp [houseV, ea, h3, hS, intV]
        | _ => simp [isTupB, houseV, hS]
    · have h4 : ((xs.length : Int) = 2) = False := by simp; omega
      simp [d_k01_is_house, h4, houseV_len h2, hS]
  | _ => simp [d_k01_is_house, ty_tup hv, isTupB, houseV, hS]
end
section
variable [Has T F_is_whole d_is_whole] [Has T F_is_among d_is_among] [Has T F_rises d_rises] [Has T F_is_door_of d_is_door_of] [Has T F_is_house_of d_is_house_of] [Has T F_is_house d_is_house]
theorem sp_is_house (hn : 5 ≤ n) (hS : S.wf) (hv : okH S v = true) : callF T n F_is_house [v] S = .ok (.bl (houseV 7 1 v)) S := by
  rw [call_eq (by omega) _ rfl]
  simp [d_is_house, sp_is_house_of (T := T) (n := n - 1) (by omega) hS hv, hS]
variable [Has T F_need_house d_need_house]
theorem sp_need_house (hn : 6 ≤ n) (hS : S.wf) (hv : okH S v = true) (hh : houseV 7 1 v = true) : callF T n F_need_house [v] S = .ok .non S := by
  rw [call_eq (by omega) _ rfl]
  simp [d_need_house, sp_is_house (T := T) (n := n - 1) (by omega) hS hv, hh, hS]
end
end Mp

set_option Elab.async false
set_option linter.all false
set_option maxRecDepth 100000
set_option maxHeartbeats 1600000
/-! the first family's drawing: keys that fit, an order. -/
namespace Mp
open PySem
variable {T : Nat → Option MDef} {n : Nat} {S : Sto} {r : Nat}
section
variable [Has T F_k01_take d_k01_take]
theorem sq_takeP (hn : 1 ≤ n) (hr : BoxAt S r) {a b c : Int} (hb : 0 ≤ b ∧ b < 2147483647) (hc : 0 < c) (hc2 : c < 1000000) :
    ∃ d a' b', (0 ≤ d ∧ d < c) ∧ (0 ≤ b' ∧ b' < 2147483647) ∧ callF T n F_k01_take [.ref r, .int c] (S.put r (boxL a b)) = .ok (.int d) (S.put r (boxL a' b')) := by
  obtain ⟨d, a', b', h1, h2, e⟩ := sq_take (T := T) (n := n) hn (hr.put (a := a) hb) hc hc2
  exact ⟨d, a', b', h1, h2, by rw [e, up_up]⟩
theorem sq_take1 (hn : 1 ≤ n) (hr : BoxAt S r) {a b c : Int} (hb : 0 ≤ b ∧ b < 2147483647) (hc : 0 < c) (hc2 : c < 1000000) {o : SO} :
    ∃ d a' b', (0 ≤ d ∧ d < c) ∧ (0 ≤ b' ∧ b' < 2147483647) ∧ callF T n F_k01_take [.ref r, .int c] ((S.put r (boxL a b)).new o) = .ok (.int d) ((S.put r (boxL a' b')).new o) := by
  obtain ⟨d, a', b', h1, h2, e⟩ := sq_take (T := T) (n := n) hn ((hr.put (a := a) hb).new (o := o)) hc hc2
  have := hr.lt
  exact ⟨d, a', b', h1, h2, by rw [e, up_old (by simpa using this), up_up]⟩
theorem sq_take2 (hn : 1 ≤ n) (hr : BoxAt S r) {a b c : Int} (hb : 0 ≤ b ∧ b < 2147483647) (hc : 0 < c) (hc2 : c < 1000000) {o u : SO} :
    ∃ d a' b', (0 ≤ d ∧ d < c) ∧ (0 ≤ b' ∧ b' < 2147483647) ∧ callF T n F_k01_take [.ref r, .int c] (((S.put r (boxL a b)).new o).new u) = .ok (.int d) (((S.put r (boxL a' b')).new o).new u) := by
  obtain ⟨d, a', b', h1, h2, e⟩ := sq_take (T := T) (n := n) hn (((hr.put (a := a) hb).new (o := o)).new (o := u)) hc hc2
  have := hr.lt
  exact ⟨d, a', b', h1, h2, by rw [e, up_old (by simp; omega), up_old (by simpa using this), up_up]⟩
variable [Has T F_k01_mixed d_k01_mixed]
theorem pure_perm {xs ys : List Val} (h : ys.Perm xs) (hp : pureVs xs = true) : pureVs ys = true := by
  rw [pureVs_all] at hp ⊢
  exact fun v hv => hp v (h.subset hv)
/-- the same things, in an order -/
theorem sq_mixed (hn : 2 ≤ n) (hS : S.wf) (hr : BoxAt S r) {q : Nat} {xs : List Val} (hq : S.get q = some (.lst xs)) (hp : pureVs xs = true) (hl : xs.length < 1000) :
    ∃ ys a' b', ys.Perm xs ∧ (0 ≤ b' ∧ b' < 2147483647) ∧ callF T n F_k01_mixed [.ref r, .ref q] S = .ok (.ref S.n) ((S.put r (boxL a' b')).new (.lst ys)) := by
  have hlt := hr.lt
  obtain ⟨a0, b0, hg, hb0⟩ := id hr
  have hw : ∀ a b, (S.put r (boxL a b)).wf := fun a b => hr.wf hS
  have loop := whl_rule (cf := callF T (n - 1)) (k := S.n) (c := (.gc (.cmp .ne (.var 2) (.lst .nil)))) (p := B_k01_mixed_0) (env := [some (.ref r), some (.ref q), some (.ref S.n), some (.ref (S.n + 1))]) (S := ((S.put r (boxL a0 b0)).new (.lst xs)).new (.lst []))
    (fun m env S' => ∃ (a b : Int) (left found : List Val), env = [some (.ref r), some (.ref q), some (.ref S.n), some (.ref (S.n + 1))] ∧ S' = ((S.put r (boxL a b)).new (.lst left)).new (.lst found) ∧ (0 ≤ b ∧ b < 2147483647) ∧ left.length = m ∧ (found ++ left).Perm xs)
    (fun fl env S' => ∃ (a b : Int) (found : List Val), fl = .next ∧ env = [some (.ref r), some (.ref q), some (.ref S.n), some (.ref (S.n + 1))] ∧ S' = ((S.put r (boxL a b)).new (.lst [])).new (.lst found) ∧ (0 ≤ b ∧ b < 2147483647) ∧ found.Perm xs)
    ?_ (m := xs.length) (by omega) ⟨a0, b0, xs, [], rfl, rfl, hb0, rfl, by simp⟩
  · obtain ⟨fl, env', S', e, a1, b1, found, rfl, rfl, rfl, hb1, hpm⟩ := loop
    refine ⟨found, a1, b1, hpm, hb1, ?_⟩
    rw [up_self hg] at e
    rw [call_eq (by omega) _ rfl]
    simp [d_k01_mixed, list_lst hq, cap_eq, es_whl, e]
    have fin := gcr2_1 (S := S.put r (boxL a1 b1)) (k := S.n) (r := S.n + 1) (a := .lst []) (b := .lst found) (by simp) (hw a1 b1) rfl (pures_rlt _ (pure_perm hpm hp))
    rw [fin]
    exact ⟨rfl, rfl⟩
  · rintro m env S' ⟨a, b, left, found, rfl, rfl, hb, rfl, hpm⟩
    have hpa := pure_perm hpm hp
    rw [pureVs_append, Bool.and_eq_true] at hpa
    have g1 : (((S.put r (boxL a b)).new (.lst left)).new (.lst found)).get S.n = some (.lst left) := by simp
    have g2 : (((S.put r (boxL a b)).new (.lst left)).new (.lst found)).get (S.n + 1) = some (.lst found) := ug_new' (by simp)
    refine ⟨.bl (!left.isEmpty), gc_ne_nil (by simp [hw, pures_rlt _ hpa.1, pures_rlt _ hpa.2]) (by simp) g1, ?_⟩
    cases left with
    | nil => exact .inl ⟨rfl, a, b, found, rfl, rfl, rfl, hb, by simpa using hpm⟩
    | cons z left =>
      refine .inr ⟨rfl, .next, [some (.ref r), some (.ref q), some (.ref S.n), some (.ref (S.n + 1))], ?_⟩
      generalize hL' : z :: left = L at *
      have hL : 0 < L.length := by rw [← hL']; simp
      have hLM := hpm.length_eq
      rw [List.length_append] at hLM
      obtain ⟨d, a2, b2, hd2, hb2, e2⟩ := sq_take2 (T := T) (n := n - 1) (by omega) hr (a := a) hb (c := (L.length : Int)) (by omega) (by omega) (o := .lst L) (u := .lst found)
      obtain ⟨k, rfl⟩ : ∃ k : Nat, d = (k : Int) := ⟨d.toNat, by omega⟩
      have hk : k < L.length := by omega
      have g3 : (((S.put r (boxL a2 b2)).new (.lst L)).new (.lst found)).get S.n = some (.lst L) := by simp
      have g4 : (((S.put r (boxL a2 b2)).new (.lst (L.eraseIdx k))).new (.lst found)).get (S.n + 1) = some (.lst found) := ug_new' (by simp)
      have pp := pop_lst g3 (List.getElem?_eq_getElem hk) (by omega)
      refine ⟨((S.put r (boxL a2 b2)).new (.lst (L.eraseIdx k))).new (.lst (found ++ [L[k]])), ?_, (L.eraseIdx k).length, ?_, a2, b2, L.eraseIdx k, found ++ [L[k]], rfl, rfl, hb2, rfl, ?_⟩
      · have hf : found.length < 1000000 := by omega
        simp [B_k01_mixed_0, recv_append g2, recv_pop g1, len_lst g1, e2, pp, append_lst g4 hf]
      · rw [List.length_eraseIdx_of_lt hk]
        omega
      · refine List.Perm.trans ?_ hpm
        rw [List.append_assoc]
        exact List.Perm.append_left _ (cons_erase_perm hk)
variable [Has T F_k01_fits d_k01_fits]
/-- rising keys below a number -/
theorem sq_fits (hn : 2 ≤ n) (hS : S.wf) (hr : BoxAt S r) {m : Nat} {w : Int} (hm : m < 100) (hw0 : 0 ≤ w) (hw9 : w < 1000) :
    ∃ (ks : List Int) (a' b' : Int), ks.Pairwise (· < ·) ∧ (∀ k ∈ ks, 0 ≤ k ∧ k < (m : Int)) ∧ ks.length ≤ m ∧ (0 ≤ b' ∧ b' < 2147483647) ∧ callF T n F_k01_fits [.ref r, .int (m : Int), .int w] S = .ok (.tup (ks.map Val.int)) (S.put r (boxL a' b')) := by
  have hlt := hr.lt
  obtain ⟨a0, b0, hg, hb0⟩ := id hr
  have hwf : ∀ a b, (S.put r (boxL a b)).wf := fun a b => hr.wf hS
  have hrg : rgOk 0 (m : Int) = true := rgOk_of (by omega) (by omega) (by omega) (by omega) (by omega)
  by_cases hz : w = 0
  · refine ⟨rangeI m, a0, b0, ?_, fun k hk => rangeI_mem.mp hk, Nat.le_of_eq (rangeI_len m), hb0, ?_⟩
    · unfold rangeI
      rw [List.pairwise_map]
      exact List.pairwise_lt_range.imp fun h => by omega
    · rw [call_eq (by omega) _ rfl, up_self hg]
      simp [d_k01_fits, hz, range1 (show -(2 ^ 62) ≤ (m : Int) by omega) (show (m : Int) < 2 ^ 62 by omega), tuple_rng hrg, rngL_ints]
  · have lc := lc_inv (cf := callF T (n - 1)) (own := [3]) (g := .nm 3) (c := .cmp .gt (.call F_k01_take (.cons (.var 0) (.cons (.bin .add (.var 2) (.int 1)) .nil))) (.int 0)) (e := .var 3) (src := .val (.rng 0 (m : Int))) (xs := rngL 0 (m : Int))
      (env := [some (.ref r), some (.int (m : Int)), some (.int w), none]) (S := S)
      (fun j acc S' => ∃ a b ks, S' = S.put r (boxL a b) ∧ (0 ≤ b ∧ b < 2147483647) ∧ acc = ks.map Val.int ∧ ks.Pairwise (· < ·) ∧ (∀ k ∈ ks, 0 ≤ k ∧ k < (j : Int)) ∧ ks.length ≤ j)
      (by rw [rngL_len]; omega) (fun j acc S' _ => gives_rng hrg j) ?_ ⟨a0, b0, [], (up_self hg).symm, hb0, rfl, List.Pairwise.nil, fun k h => (by cases h), Nat.zero_le _⟩
    · obtain ⟨acc, S', e5, a5, b5, ks, rfl, hb5, rfl, hk1, hk2, hk3⟩ := lc
      rw [rngL_len] at hk2 hk3
      refine ⟨ks, a5, b5, hk1, fun k hk => by have := hk2 k hk; omega, by omega, hb5, ?_⟩
      have eg : evE (callF T (n - 1)) (.gc (.blt .tuple (.cons (.lc [3] (.val (.blt .range (.cons (.var 1) .nil))) (.nm 3) (.cmp .gt (.call F_k01_take (.cons (.var 0) (.cons (.bin .add (.var 2) (.int 1)) .nil))) (.int 0)) (.var 3)) .nil))) [some (.ref r), some (.int (m : Int)), some (.int w), none] S = .ok (.tup (ks.map Val.int)) (S.put r (boxL a5 b5)) := by
        refine gc_by (v := .tup (ks.map Val.int)) (S1 := (S.put r (boxL a5 b5)).new (.lst (ks.map Val.int))) ?_ (gcf1 (by simp) (hwf _ _) (by simp))
        have g1 : ((S.put r (boxL a5 b5)).new (.lst (ks.map Val.int))).get S.n = some (.lst (ks.map Val.int)) := ug_new' (by simp)
        simp [ev_lc, range1 (show -(2 ^ 62) ≤ (m : Int) by omega) (show (m : Int) < 2 ^ 62 by omega), e5, tuple_lst g1]
      rw [call_eq (by omega) _ rfl]
      simp [d_k01_fits, hz, eg]
    · rintro j x acc S' hx ⟨a, b, ks, rfl, hb, rfl, hk1, hk2, hk3⟩
      obtain ⟨rfl, hi⟩ := rngL_get hx
      obtain ⟨d, a2, b2, hd, hb2, e2⟩ := sq_takeP (T := T) (n := n - 1) (by omega) hr (a := a) hb (c := w + 1) (by omega) (by omega)
      by_cases h0 : 0 < d
      · refine ⟨some (.int (0 + (j : Int))), S.put r (boxL a2 b2), by simp [lcTurn_eq, wipe, e2, h0], a2, b2, ks ++ [(j : Int)], rfl, hb2, by simp, ?_, fun k hk => ?_, by simp; omega⟩
        · rw [List.pairwise_append]
          refine ⟨hk1, List.pairwise_singleton _ _, fun x hx y hy => ?_⟩
          rw [List.mem_singleton.mp hy]
          exact (hk2 x hx).2
        · rcases List.mem_append.mp hk with h | h
          · have := hk2 k h; omega
          · rw [List.mem_singleton.mp h]; omega
      · exact ⟨none, S.put r (boxL a2 b2), by simp [lcTurn_eq, wipe, e2, h0], a2, b2, ks, rfl, hb2, rfl, hk1, fun k hk => by have := hk2 k hk; omega, by omega⟩
end
end Mp

set_option Elab.async false
set_option linter.all false
set_option maxRecDepth 100000
set_option maxHeartbeats 3200000
/-! the first family's houses. -/
namespace Mp
open PySem
variable {T : Nat → Option MDef} {n : Nat} {S : Sto} {r : Nat}
def encP (p : Int × Int) : Val := .tup [.int p.1, .int p.2]
def Ends (many : Int) (ps : List (Int × Int)) : Prop := ∀ p ∈ ps, 0 ≤ p.1 ∧ p.1 < p.2 ∧ p.2 < many
theorem encP_pure (ps : List (Int × Int)) : pureVs (ps.map encP) = true := by
  rw [pureVs_all]
  intro v hv
  obtain ⟨p, _, rfl⟩ := List.mem_map.mp hv
  rfl
theorem perm_enc {ys : List Val} {ps : List (Int × Int)} (h : ys.Perm (ps.map encP)) : ∃ qs : List (Int × Int), ys = qs.map encP ∧ qs.Perm ps := by
  have hall : ∀ y ∈ ys, ∃ p, y = encP p := fun y hy => by
    obtain ⟨p, _, rfl⟩ := List.mem_map.mp (h.subset hy)
    exact ⟨p, rfl⟩
  have : ∃ qs : List (Int × Int), ys = qs.map encP := by
    clear h
    induction ys with
    | nil => exact ⟨[], rfl⟩
    | cons y ys ih =>
      obtain ⟨p, rfl⟩ := hall y (List.mem_cons_self ..)
      obtain ⟨qs, rfl⟩ := ih fun z hz => hall z (List.mem_cons_of_mem _ hz)
      exact ⟨p :: qs, rfl⟩
  obtain ⟨qs, rfl⟩ := this
  refine ⟨qs, rfl, ?_⟩
  have inj : ∀ a b : Int × Int, encP a = encP b → a = b := fun a b e => by
    simp only [encP, Val.tup.injEq, List.cons.injEq, Val.int.injEq, and_true] at e
    exact Prod.ext e.1 e.2
  have back := h.map fun v => match v with
    | .tup [.int x, .int y] => (x, y)
    | _ => ((0 : Int), (0 : Int))
  rw [List.map_map, List.map_map] at back
  have id' : ((fun v => match v with
    | Val.tup [.int x, .int y] => (x, y)
    | _ => ((0 : Int), (0 : Int))) ∘ encP) = id := by funext p; rfl
  rw [id', List.map_id, List.map_id] at back
  exact back
/-- a drawn house -/
structure Drawn1 (i : Int) (doors : List Val) : Prop where
  lo : 1 ≤ i
  hi : i ≤ 6
  len : doors.length ≤ 7
  each : ∀ d ∈ doors, ∃ (a b : Int) (ns : List Int), d = .tup [.int a, .int b, .tup (ns.map Val.int)] ∧ 0 ≤ a ∧ a < b ∧ b < i ∧ ns.Pairwise (· < ·) ∧ (∀ k ∈ ns, 0 ≤ k ∧ k < (doors.length : Int) + 1) ∧ ns.length ≤ doors.length + 1
theorem Drawn1.house {i : Int} {doors : List Val} (h : Drawn1 i doors) : houseV 7 1 (.tup [.int i, .tup doors]) = true := by
  have e1 : amongV (.int i) 1 6 = true := by simp [amongV]; exact ⟨h.lo, h.hi⟩
  have e2 : doors.all (doorV i ((doors.length : Int) + 1)) = true := by
    rw [List.all_eq_true]
    intro d hd
    obtain ⟨a, b, ns, rfl, h1, h2, h3, h4, h5, _⟩ := h.each d hd
    exact door_ok h1 h2 h3 h4 h5
  have e3 : (doors.length : Int) ≤ 7 := by have := h.len; omega
  simp only [houseV, e1, intV, e2, decide_eq_true e3, Bool.and_self]
theorem Drawn1.pure {i : Int} {doors : List Val} (h : Drawn1 i doors) : pureVs doors = true := by
  rw [pureVs_all]
  intro d hd
  obtain ⟨a, b, ns, rfl, _⟩ := h.each d hd
  simp [pureV, pureVs]
section
variable [Has T F_k01_take d_k01_take] [Has T F_k01_mixed d_k01_mixed] [Has T F_k01_fits d_k01_fits]
abbrev hEnv (r : Nat) (rooms doors many : Int) (q : Val) (o5 o6 o7 o8 o9 : Option Val) : Env := [some (.ref r), some (.int rooms), some (.int doors), some (.int many), some q, o5, o6, o7, o8, o9]
/-- more doors, in turns -/
theorem house_loop (hn : 2 ≤ n) (hr : BoxAt S r) {rooms many a b : Int} {N : Nat} {k : Nat} {ps : List (Int × Int)} {o5 o6 o7 o8 o9 : Option Val} (hm : 1 ≤ many) (hm6 : many ≤ 6) (hN : N ≤ 7) (hb : 0 ≤ b ∧ b < 2147483647) (he : Ends many ps) (hl : ps.length ≤ 7) :
    ∃ a' b' ps' p5 p8 p9, (0 ≤ b' ∧ b' < 2147483647) ∧ Ends many ps' ∧ ps'.length ≤ 7 ∧
      forS (callF T (n - 1)) k (.nm 5) B_k01_house_0 (.val (.rng 0 (N : Int))) (hEnv r rooms 7 many (.ref S.n) o5 o6 o7 o8 o9) ((S.put r (boxL a b)).new (.lst (ps.map encP))) = .ok (.next, hEnv r rooms 7 many (.ref S.n) p5 o6 o7 p8 p9) ((S.put r (boxL a' b')).new (.lst (ps'.map encP))) := by
  have hlt := hr.lt
  have loop := for_next (cf := callF T (n - 1)) (k := k) (g := .nm 5) (src := .val (.rng 0 (N : Int))) (xs := rngL 0 (N : Int)) (env := hEnv r rooms 7 many (.ref S.n) o5 o6 o7 o8 o9) (S := (S.put r (boxL a b)).new (.lst (ps.map encP))) (p := B_k01_house_0)
    (fun i env S' => ∃ a b ps p5 p8 p9, env = hEnv r rooms 7 many (.ref S.n) p5 o6 o7 p8 p9 ∧ S' = (S.put r (boxL a b)).new (.lst (ps.map encP)) ∧ (0 ≤ b ∧ b < 2147483647) ∧ Ends many ps ∧ ps.length ≤ 7)
    (by rw [rngL_len]; omega) (fun i env S' _ => gives_rng (rgOk_of (by omega) (by omega) (by omega) (by omega) (by omega)) i) ?_ ⟨a, b, ps, o5, o8, o9, rfl, rfl, hb, he, hl⟩
  · obtain ⟨env', S', e, a', b', ps', p5, p8, p9, rfl, rfl, hb', he', hl'⟩ := loop
    exact ⟨a', b', ps', p5, p8, p9, hb', he', hl', e⟩
  · rintro i x env S' hx ⟨a, b, ps, p5, p8, p9, rfl, rfl, hb, he, hl⟩
    obtain ⟨x1, a1, b1, hx1, hb1, e1⟩ := sq_take1 (T := T) (n := n - 1) (by omega) hr (a := a) hb (c := many) (by omega) (by omega) (o := .lst (ps.map encP))
    obtain ⟨x2, a2, b2, hx2, hb2, e2⟩ := sq_take1 (T := T) (n := n - 1) (by omega) hr (a := a1) hb1 (c := many) (by omega) (by omega) (o := .lst (ps.map encP))
    have g1 : ((S.put r (boxL a2 b2)).new (.lst (ps.map encP))).get S.n = some (.lst (ps.map encP)) := ug_new' (by simp)
    by_cases hne : x1 = x2
    · exact ⟨_, _, by simp [B_k01_house_0, e1, e2, hne], a2, b2, ps, some x, some (.int x2), some (.int x2), rfl, rfl, hb2, he, hl⟩
    · by_cases h7 : (ps.length : Int) < 7
      · refine ⟨hEnv r rooms 7 many (.ref S.n) (some x) o6 o7 (some (.int x1)) (some (.int x2)), (S.put r (boxL a2 b2)).new (.lst ((ps ++ [(if x2 < x1 then x2 else x1, if x2 > x1 then x2 else x1)]).map encP)), ?_, a2, b2, _, _, _, _, rfl, rfl, hb2, fun p hp => ?_, by simp; omega⟩
        · have hf : (ps.map encP).length < 1000000 := by simp; omega
          simp [B_k01_house_0, e1, e2, hne, len_lst g1, h7, recv_append g1, append_lst g1 hf, encP, cap_eq]
        · rcases List.mem_append.mp hp with h | h
          · exact he p h
          · rw [List.mem_singleton.mp h]
            dsimp only
            split <;> split <;> omega
      · exact ⟨hEnv r rooms 7 many (.ref S.n) (some x) o6 o7 (some (.int x1)) (some (.int x2)), (S.put r (boxL a2 b2)).new (.lst (ps.map encP)), by simp [B_k01_house_0, e1, e2, hne, len_lst g1, h7], a2, b2, ps, _, _, _, rfl, rfl, hb2, he, hl⟩
end
end Mp

set_option Elab.async false
set_option linter.all false
set_option maxRecDepth 100000
set_option maxHeartbeats 3200000
/-! the first family's houses: the end of the drawing. -/
namespace Mp
open PySem
variable {T : Nat → Option MDef} {n : Nat} {S : Sto} {r : Nat}
def meMix : ME := .gc (.call F_k01_mixed (.cons (.var 0) (.cons (.sl (.var 4) .non (.var 2)) .nil)))
def meWay : ME := .gc (.ix (.lst (.cons (.int 0) (.cons (.int 0) (.cons (.int 3) (.cons (.int 1) .nil))))) (.call F_k01_take (.cons (.var 0) (.cons (.int 4) .nil))))
def meDoors : ME := .gc (.blt .tuple (.cons (.lc [8, 9] (.val (.var 4)) (.tup (.cons (.nm 8) (.cons (.nm 9) .nil))) (.bl true) (.tup (.cons (.var 8) (.cons (.var 9) (.cons (.call F_k01_fits (.cons (.var 0) (.cons (.bin .add (.blt .len (.cons (.var 4) .nil)) (.int 1)) (.cons (.var 6) .nil)))) .nil))))) .nil))
theorem cut_all {xs : List Val} (h : xs.length ≤ 7) : cut xs none (some 7) = xs := by
  have e0 : HT.sIx xs.length 0 none = 0 := rfl
  have e1 : xs.length ≤ HT.sIx xs.length xs.length (some 7) := by
    unfold HT.sIx
    simp
    omega
  unfold cut
  rw [e0, List.drop_zero, Nat.sub_zero, List.take_of_length_le e1]
section
variable [Has T F_k01_take d_k01_take] [Has T F_k01_mixed d_k01_mixed] [Has T F_k01_fits d_k01_fits]
theorem house_mix (hn : 3 ≤ n) (hS : S.wf) (hr : BoxAt S r) {rooms many a b : Int} {ps : List (Int × Int)} {o5 o6 o7 o8 o9 : Option Val} (hb : 0 ≤ b ∧ b < 2147483647) (he : Ends many ps) (hl : ps.length ≤ 7) :
    ∃ qs a' b', Ends many qs ∧ qs.length = ps.length ∧ (0 ≤ b' ∧ b' < 2147483647) ∧ evE (callF T (n - 1)) meMix (hEnv r rooms 7 many (.ref S.n) o5 o6 o7 o8 o9) ((S.put r (boxL a b)).new (.lst (ps.map encP))) = .ok (.ref (S.n + 1)) (((S.put r (boxL a' b')).new (.lst (ps.map encP))).new (.lst (qs.map encP))) := by
  have hlt := hr.lt
  have hp := encP_pure ps
  have hw : ∀ a b, (S.put r (boxL a b)).wf := fun a b => hr.wf hS
  have g1 : ((S.put r (boxL a b)).new (.lst (ps.map encP))).get S.n = some (.lst (ps.map encP)) := ug_new' (by simp)
  have wfX : (((S.put r (boxL a b)).new (.lst (ps.map encP))).new (.lst (ps.map encP))).wf := by simp [hw, pures_rlt _ hp]
  have bX : BoxAt (((S.put r (boxL a b)).new (.lst (ps.map encP))).new (.lst (ps.map encP))) r := ((hr.put (a := a) hb).new).new
  obtain ⟨ys, a2, b2, hperm, hb2, em⟩ := sq_mixed (T := T) (n := n - 1) (by omega) wfX bX (q := S.n + 1) (xs := ps.map encP) (ug_new' (by simp)) hp (by simp; omega)
  obtain ⟨qs, rfl, hq⟩ := perm_enc hperm
  rw [up_old (by simp; omega), up_old (by simpa using hlt), up_up] at em
  refine ⟨qs, a2, b2, fun p h => he p (hq.subset h), hq.length_eq, hb2, gc_by (v := .ref (S.n + 2)) (S1 := (((S.put r (boxL a2 b2)).new (.lst (ps.map encP))).new (.lst (ps.map encP))).new (.lst (qs.map encP))) ?_ ?_⟩
  · simp only [ev_call, ea_cons, ev_var, varR_zero, varR_succ, bind_ok_, ev_sl, ev_non, partOf_non, hEnv, ea_nil]
    rw [show partOf (.var 2) (.int 7) = some (some 7) from rfl, getSl_lst g1, cut_all (by simpa using hl)]
    simp only [bind_ok_, n_new, n_put]
    simpa using em
  · have := gcr2_1 (S := (S.put r (boxL a2 b2)).new (.lst (ps.map encP))) (k := S.n + 1) (r := S.n + 2) (a := .lst (ps.map encP)) (b := .lst (qs.map encP)) (by simp) (by simp [hw, pures_rlt _ hp]) rfl (pures_rlt _ (encP_pure qs))
    simpa using this
theorem house_way (hn : 2 ≤ n) (hS : S.wf) (hr : BoxAt S r) {env : Env} {a b : Int} {A B : List (Int × Int)} (he : varR env 0 = fun S => .ok (.ref r) S) (hb : 0 ≤ b ∧ b < 2147483647) :
    ∃ w a' b', (0 ≤ w ∧ w ≤ 3) ∧ (0 ≤ b' ∧ b' < 2147483647) ∧ evE (callF T (n - 1)) meWay env (((S.put r (boxL a b)).new (.lst (A.map encP))).new (.lst (B.map encP))) = .ok (.int w) (((S.put r (boxL a' b')).new (.lst (A.map encP))).new (.lst (B.map encP))) := by
  have hlt := hr.lt
  have hw : ∀ a b, (S.put r (boxL a b)).wf := fun a b => hr.wf hS
  have bX : BoxAt ((((S.put r (boxL a b)).new (.lst (A.map encP))).new (.lst (B.map encP))).new (.lst [.int 0, .int 0, .int 3, .int 1])) r := (((hr.put (a := a) hb).new).new).new
  obtain ⟨d, a2, b2, hd, hb2, e⟩ := sq_take (T := T) (n := n - 1) (by omega) bX (c := 4) (by omega) (by omega)
  rw [up_old (by simp; omega), up_old (by simp; omega), up_old (by simpa using hlt), up_up] at e
  have wf2 : (((S.put r (boxL a2 b2)).new (.lst (A.map encP))).new (.lst (B.map encP))).wf := by simp [hw, pures_rlt _ (encP_pure A), pures_rlt _ (encP_pure B)]
  have g : ((((S.put r (boxL a2 b2)).new (.lst (A.map encP))).new (.lst (B.map encP))).new (.lst [.int 0, .int 0, .int 3, .int 1])).get (S.n + 2) = some (.lst [.int 0, .int 0, .int 3, .int 1]) := ug_new' (by simp)
  have pick : ∃ w : Int, (0 ≤ w ∧ w ≤ 3) ∧ itemAt [.int 0, .int 0, .int 3, .int 1] d = some (.int w) := by
    rcases (show d = 0 ∨ d = 1 ∨ d = 2 ∨ d = 3 by omega) with rfl | rfl | rfl | rfl
    · exact ⟨0, by omega, rfl⟩
    · exact ⟨0, by omega, rfl⟩
    · exact ⟨3, by omega, rfl⟩
    · exact ⟨1, by omega, rfl⟩
  obtain ⟨w, hw3, ew⟩ := pick
  refine ⟨w, a2, b2, hw3, hb2, gc_by (v := .int w) (S1 := (((S.put r (boxL a2 b2)).new (.lst (A.map encP))).new (.lst (B.map encP))).new (.lst [.int 0, .int 0, .int 3, .int 1])) ?_ (gcf1 (by simp) wf2 rfl)⟩
  simp only [ev_ix, ev_lst, ea_cons, ea_nil, ev_int, bind_ok_, ev_call, ev_var, he, cap_eq, List.length_cons, List.length_nil, n_new, n_put]
  simp [e, getIx_lst g, ew]
theorem house_doors (hn : 3 ≤ n) (hS : S.wf) (hr : BoxAt S r) {rooms many a b w : Int} {A qs : List (Int × Int)} {o5 o7 o8 o9 : Option Val} (hm : 1 ≤ many) (hm6 : many ≤ 6) (hw0 : 0 ≤ w ∧ w ≤ 3) (hb : 0 ≤ b ∧ b < 2147483647) (he : Ends many qs) (hl : qs.length ≤ 7) :
    ∃ doors a' b', Drawn1 many doors ∧ (0 ≤ b' ∧ b' < 2147483647) ∧ evE (callF T (n - 1)) meDoors (hEnv r rooms 7 many (.ref (S.n + 1)) o5 (some (.int w)) o7 o8 o9) (((S.put r (boxL a b)).new (.lst (A.map encP))).new (.lst (qs.map encP)))
      = .ok (.tup doors) (((S.put r (boxL a' b')).new (.lst (A.map encP))).new (.lst (qs.map encP))) := by
  have hlt := hr.lt
  have hw : ∀ a b, (S.put r (boxL a b)).wf := fun a b => hr.wf hS
  have wf2 : ∀ a b, (((S.put r (boxL a b)).new (.lst (A.map encP))).new (.lst (qs.map encP))).wf := fun a b => by simp [hw, pures_rlt _ (encP_pure A), pures_rlt _ (encP_pure qs)]
  have g : ∀ a b, (((S.put r (boxL a b)).new (.lst (A.map encP))).new (.lst (qs.map encP))).get (S.n + 1) = some (.lst (qs.map encP)) := fun a b => ug_new' (by simp)
  have lc := lc_inv (cf := callF T (n - 1)) (own := [8, 9]) (g := .tup (.cons (.nm 8) (.cons (.nm 9) .nil))) (c := .bl true) (e := .tup (.cons (.var 8) (.cons (.var 9) (.cons (.call F_k01_fits (.cons (.var 0) (.cons (.bin .add (.blt .len (.cons (.var 4) .nil)) (.int 1)) (.cons (.var 6) .nil)))) .nil))))
    (src := .val (.ref (S.n + 1))) (xs := qs.map encP) (env := hEnv r rooms 7 many (.ref (S.n + 1)) o5 (some (.int w)) o7 o8 o9) (S := ((S.put r (boxL a b)).new (.lst (A.map encP))).new (.lst (qs.map encP)))
    (fun j acc S' => ∃ a b, S' = ((S.put r (boxL a b)).new (.lst (A.map encP))).new (.lst (qs.map encP)) ∧ (0 ≤ b ∧ b < 2147483647) ∧ acc.length = j ∧
      ∀ d ∈ acc, ∃ (x y : Int) (ns : List Int), d = .tup [.int x, .int y, .tup (ns.map Val.int)] ∧ 0 ≤ x ∧ x < y ∧ y < many ∧ ns.Pairwise (· < ·) ∧ (∀ k ∈ ns, 0 ≤ k ∧ k < (qs.length : Int) + 1) ∧ ns.length ≤ qs.length + 1)
    (by simp; omega) (fun j acc S' ⟨a, b, e, _⟩ => by subst e; exact gives_ref (g a b) j) ?_ ⟨a, b, rfl, hb, rfl, fun d h => by cases h⟩
  · obtain ⟨doors, S', e5, a5, b5, rfl, hb5, hlen, hds⟩ := lc
    rw [List.length_map] at hlen
    have D : Drawn1 many doors := ⟨hm, hm6, by omega, fun d hd => by
      obtain ⟨x, y, ns, h1, h2, h3, h4, h5, h6, h7⟩ := hds d hd
      exact ⟨x, y, ns, h1, h2, h3, h4, h5, by rw [hlen]; exact h6, by rw [hlen]; exact h7⟩⟩
    refine ⟨doors, a5, b5, D, hb5, gc_by (v := .tup doors) (S1 := (((S.put r (boxL a5 b5)).new (.lst (A.map encP))).new (.lst (qs.map encP))).new (.lst doors)) ?_ (gcf1 (by simp) (wf2 a5 b5) (by rw [nrs_tup]; exact pures_nrs _ D.pure))⟩
    have g1 : ((((S.put r (boxL a5 b5)).new (.lst (A.map encP))).new (.lst (qs.map encP))).new (.lst doors)).get (S.n + 2) = some (.lst doors) := ug_new' (by simp)
    simp only [ev_blt, ea_cons, ea_nil, ev_lc, ei_val, ev_var, varR_succ, varR_zero, bind_ok_, hEnv] at e5 ⊢
    rw [e5]
    simp [tuple_lst g1]
  · rintro j x acc S' hx ⟨a, b, rfl, hb, hlen, hds⟩
    rw [List.getElem?_map] at hx
    obtain ⟨p, hp, rfl⟩ := Option.map_eq_some_iff.mp hx
    obtain ⟨h1, h2, h3⟩ := he p (List.mem_of_getElem? hp)
    have bX : BoxAt (((S.put r (boxL a b)).new (.lst (A.map encP))).new (.lst (qs.map encP))) r := ((hr.put (a := a) hb).new).new
    obtain ⟨ks, a2, b2, k1, k2, k3, hb2, ef⟩ := sq_fits (T := T) (n := n - 1) (by omega) (wf2 a b) bX (m := qs.length + 1) (w := w) (by omega) hw0.1 (by omega)
    rw [up_old (by simp; omega), up_old (by simpa using hlt), up_up] at ef
    have ef' : callF T (n - 1) F_k01_fits [.ref r, .int ((qs.length : Int) + 1), .int w] (((S.put r (boxL a b)).new (.lst (A.map encP))).new (.lst (qs.map encP))) = .ok (.tup (ks.map Val.int)) (((S.put r (boxL a2 b2)).new (.lst (A.map encP))).new (.lst (qs.map encP))) := by simpa using ef
    refine ⟨some (.tup [.int p.1, .int p.2, .tup (ks.map Val.int)]), ((S.put r (boxL a2 b2)).new (.lst (A.map encP))).new (.lst (qs.map encP)), ?_, a2, b2, rfl, hb2, by simp [hlen], fun d hd => ?_⟩
    · simp [lcTurn_eq, wipe, encP, hEnv, len_lst (g a b), ef', cap_eq]
    · rcases List.mem_append.mp hd with h | h
      · exact hds d h
      · rw [List.mem_singleton.mp h]
        exact ⟨p.1, p.2, ks, rfl, h1, h2, h3, k1, fun k hk => by have := k2 k hk; omega, by omega⟩
end
end Mp

set_option Elab.async false
set_option linter.all false
set_option maxRecDepth 100000
set_option maxHeartbeats 3200000
/-! the first family's houses, drawn. -/
namespace Mp
open PySem
variable {T : Nat → Option MDef} {n : Nat} {S : Sto} {r : Nat}
def mbRest : MB := .cons (.for_ (.val (.blt .range (.cons (.call F_k01_take (.cons (.var 0) (.cons (.bin .add (.var 2) (.int 1)) .nil))) .nil))) (.nm 5) B_k01_house_0)
  (.cons (.asg (.tup (.cons (.nm 4) (.cons (.nm 6) .nil))) (.tup (.cons meMix (.cons meWay .nil)))) (.cons (.ret (.tup (.cons (.var 3) (.cons meDoors .nil)))) .nil))
def msCut : MS := .ifs (.and (.cmp .gt (.blt .len (.cons (.var 4) .nil)) (.int 1)) (.cmp .eq (.call F_k01_take (.cons (.var 0) (.cons (.int 6) .nil))) (.int 0))) (.cons (.asg (.nm 4) (.sl (.var 4) (.int 1) .non)) .nil) .nil
def meEnds : ME := .lc [7] (.val (.blt .range (.cons (.int 1) (.cons (.var 3) .nil)))) (.nm 7) (.bl true) (.tup (.cons (.call F_k01_take (.cons (.var 0) (.cons (.var 7) .nil))) (.cons (.var 7) .nil)))
theorem house_body : d_k01_house.body = .cons (.asg (.nm 3) (.bin .add (.int 1) (.call F_k01_take (.cons (.var 0) (.cons (.var 1) .nil))))) (.cons (.asg (.nm 4) meEnds) (.cons msCut mbRest)) := rfl
section
variable [Has T F_k01_take d_k01_take] [Has T F_k01_mixed d_k01_mixed] [Has T F_k01_fits d_k01_fits]
theorem house_rest (hn : 3 ≤ n) (hS : S.wf) (hr : BoxAt S r) {rooms many a b : Int} {k : Nat} {ps : List (Int × Int)} {o5 o6 o7 o8 o9 : Option Val} (hm : 1 ≤ many) (hm6 : many ≤ 6) (hb : 0 ≤ b ∧ b < 2147483647) (he : Ends many ps) (hl : ps.length ≤ 7) :
    ∃ (doors : List Val) (a' b' : Int) (A B : List (Int × Int)) (env' : Env), Drawn1 many doors ∧ (0 ≤ b' ∧ b' < 2147483647) ∧ evB (callF T (n - 1)) k mbRest (hEnv r rooms 7 many (.ref S.n) o5 o6 o7 o8 o9) ((S.put r (boxL a b)).new (.lst (ps.map encP)))
      = .ok (.ret (.tup [.int many, .tup doors]), env') (((S.put r (boxL a' b')).new (.lst (A.map encP))).new (.lst (B.map encP))) := by
  obtain ⟨d, a1, b1, hd, hb1, e1⟩ := sq_take1 (T := T) (n := n - 1) (by omega) hr (a := a) hb (c := 8) (by omega) (by omega) (o := .lst (ps.map encP))
  obtain ⟨N, rfl⟩ : ∃ N : Nat, d = (N : Int) := ⟨d.toNat, by omega⟩
  obtain ⟨a2, b2, ps2, p5, p8, p9, hb2, he2, hl2, e2⟩ := house_loop (T := T) (n := n) (by omega) hr (rooms := rooms) (many := many) (a := a1) (N := N) (k := S.n + 1) (o5 := o5) (o6 := o6) (o7 := o7) (o8 := o8) (o9 := o9) hm hm6 (by omega) hb1 he hl
  obtain ⟨qs, a3, b3, he3, hl3, hb3, e3⟩ := house_mix (T := T) (n := n) hn hS hr (rooms := rooms) (many := many) (a := a2) (o5 := p5) (o6 := o6) (o7 := o7) (o8 := p8) (o9 := p9) hb2 he2 hl2
  obtain ⟨w, a4, b4, hw, hb4, e4⟩ := house_way (T := T) (n := n) (by omega) hS hr (env := hEnv r rooms 7 many (.ref S.n) p5 o6 o7 p8 p9) (a := a3) (A := ps2) (B := qs) (by funext S; rfl) hb3
  obtain ⟨doors, a5, b5, D, hb5, e5⟩ := house_doors (T := T) (n := n) hn hS hr (rooms := rooms) (many := many) (a := a4) (w := w) (A := ps2) (o5 := p5) (o7 := o7) (o8 := p8) (o9 := p9) hm hm6 hw hb4 he3 (by omega)
  refine ⟨doors, a5, b5, ps2, qs, hEnv r rooms 7 many (.ref (S.n + 1)) p5 (some (.int w)) o7 p8 p9, D, hb5, ?_⟩
  unfold mbRest
  simp only [eb_cons, es_for, ei_val, ev_blt, ea_cons, ea_nil, ev_call, ev_var, hEnv, varR_zero, varR_succ, bind_ok_, ev_bin, ev_int, bop_add]
  rw [show (7 : Int) + 1 = 8 from rfl, e1]
  simp only [bind_ok_, range1 (show -(2 ^ 62) ≤ (N : Int) by omega) (show (N : Int) < 2 ^ 62 by omega), n_new, n_put]
  simp only [hEnv] at e2 e3 e4 e5
  rw [e2]
  simp only [bind_ok_, then_next, eb_cons, es_asg, ev_tup, ea_cons, ea_nil]
  rw [e3]
  simp only [bind_ok_]
  rw [e4]
  simp only [bind_ok_, List.length_cons, List.length_nil, cap_eq, show (0 + 1 + 1 ≤ 1000000) = True by simp, if_true, ag_tup, ags_cons, ag_nm, ags_nil, List.set_cons_succ, List.set_cons_zero, then_next, eb_cons, es_ret, ev_tup, ea_cons, ea_nil, ev_var, varR_succ, varR_zero]
  rw [e5]
  simp [cap_eq]
variable [Has T F_k01_house d_k01_house]
/-- a house of up to six rooms and seven doors -/
theorem sq_house (hn : 4 ≤ n) (hS : S.wf) (hr : BoxAt S r) :
    ∃ i doors a' b', Drawn1 i doors ∧ (0 ≤ b' ∧ b' < 2147483647) ∧ callF T n F_k01_house [.ref r, .int 6, .int 7] S = .ok (.tup [.int i, .tup doors]) (S.put r (boxL a' b')) := by
  have hlt := hr.lt
  have hw : ∀ a b, (S.put r (boxL a b)).wf := fun a b => hr.wf hS
  obtain ⟨d1, a1, b1, hd1, hb1, e1⟩ := sq_take (T := T) (n := n - 1) (by omega) hr (c := 6) (by omega) (by omega)
  have hrg : rgOk 1 (1 + d1) = true := rgOk_of (by omega) (by omega) (by omega) (by omega) (by omega)
  -- the first ends
  have ends : ∃ ps a b, Ends (1 + d1) ps ∧ ps.length ≤ 5 ∧ (0 ≤ b ∧ b < 2147483647) ∧ evE (callF T (n - 1)) meEnds [some (.ref r), some (.int 6), some (.int 7), some (.int (1 + d1)), none, none, none, none, none, none] (S.put r (boxL a1 b1)) = .ok (.ref S.n) ((S.put r (boxL a b)).new (.lst (ps.map encP))) := by
    have lc := lc_inv (cf := callF T (n - 1)) (own := [7]) (g := .nm 7) (c := .bl true) (e := .tup (.cons (.call F_k01_take (.cons (.var 0) (.cons (.var 7) .nil))) (.cons (.var 7) .nil))) (src := .val (.rng 1 (1 + d1))) (xs := rngL 1 (1 + d1))
      (env := [some (.ref r), some (.int 6), some (.int 7), some (.int (1 + d1)), none, none, none, none, none, none]) (S := S.put r (boxL a1 b1))
      (fun j acc S' => ∃ a b ps, S' = S.put r (boxL a b) ∧ (0 ≤ b ∧ b < 2147483647) ∧ acc = ps.map encP ∧ Ends (1 + d1) ps ∧ ps.length = j)
      (by rw [rngL_len]; omega) (fun j acc S' _ => gives_rng hrg j) ?_ ⟨a1, b1, [], rfl, hb1, rfl, fun p h => (by cases h), rfl⟩
    · obtain ⟨acc, S', e, a, b, ps, rfl, hb, rfl, he, hl⟩ := lc
      rw [rngL_len] at hl
      refine ⟨ps, a, b, he, by omega, hb, ?_⟩
      unfold meEnds
      simp only [ev_lc, ei_val, ev_blt, ea_cons, ea_nil, ev_int, ev_var, varR_succ, varR_zero, bind_ok_, range2 (show -(2 ^ 62) ≤ (1 : Int) by omega) (show (1 : Int) < 2 ^ 62 by omega) (show -(2 ^ 62) ≤ 1 + d1 by omega) (show 1 + d1 < 2 ^ 62 by omega)]
      rw [e]
      simp
    · rintro j x acc S' hx ⟨a, b, ps, rfl, hb, rfl, he, hl⟩
      obtain ⟨rfl, hi⟩ := rngL_get hx
      obtain ⟨d, a2, b2, hd, hb2, e2⟩ := sq_takeP (T := T) (n := n - 1) (by omega) hr (a := a) hb (c := 1 + (j : Int)) (by omega) (by omega)
      refine ⟨some (encP (d, 1 + (j : Int))), S.put r (boxL a2 b2), by simp [lcTurn_eq, wipe, e2, encP, cap_eq], a2, b2, ps ++ [(d, 1 + (j : Int))], rfl, hb2, by simp, fun p hp => ?_, by simp [hl]⟩
      rcases List.mem_append.mp hp with h | h
      · exact he p h
      · rw [List.mem_singleton.mp h]
        exact ⟨hd.1, hd.2, hi⟩
  obtain ⟨ps, a2, b2, he, hl, hb2, e2⟩ := ends
  -- the rest, over the store as it is behind the cut
  have fin : ∀ {S1 : Sto} {a b : Int} {qs : List (Int × Int)}, S1.wf → BoxAt S1 r → S.n ≤ S1.n → (∀ a b, (S1.put r (boxL a b)).old S.n = (S.put r (boxL a b)).l) → (0 ≤ b ∧ b < 2147483647) → Ends (1 + d1) qs → qs.length ≤ 7 →
      evS (callF T (n - 1)) S.n msCut [some (.ref r), some (.int 6), some (.int 7), some (.int (1 + d1)), some (.ref S.n), none, none, none, none, none] ((S.put r (boxL a2 b2)).new (.lst (ps.map encP))) = .ok (.next, hEnv r 6 7 (1 + d1) (.ref S1.n) none none none none none) ((S1.put r (boxL a b)).new (.lst (qs.map encP))) →
      ∃ i doors a' b', Drawn1 i doors ∧ (0 ≤ b' ∧ b' < 2147483647) ∧ callF T n F_k01_house [.ref r, .int 6, .int 7] S = .ok (.tup [.int i, .tup doors]) (S.put r (boxL a' b')) := by
    intro S1 a b qs hS1 hr1 hle hold hb heq hlq ecut
    obtain ⟨doors, a5, b5, A, B, env', D, hb5, e5⟩ := house_rest (T := T) (n := n) (S := S1) (by omega) hS1 hr1 (rooms := 6) (many := 1 + d1) (a := a) (k := S.n) (o5 := none) (o6 := none) (o7 := none) (o8 := none) (o9 := none) (by omega) (by omega) hb heq hlq
    refine ⟨1 + d1, doors, a5, b5, D, hb5, ?_⟩
    rw [call_eq (by omega) _ rfl, house_body]
    simp only [eb_cons, es_asg, ev_bin, ev_int, ev_call, ea_cons, ea_nil, ev_var, List.map_cons, List.map_nil, List.length_cons, List.length_nil, d_k01_house, List.cons_append, List.nil_append, List.replicate, varR_zero, varR_succ, bind_ok_, e1, bop_add, ag_nm, List.set_cons_succ, List.set_cons_zero, then_next]
    simp only [e2, bind_ok_, List.set_cons_succ, List.set_cons_zero, then_next]
    rw [eb_cons, ecut, bind_ok_, then_next, e5, bind_ok_, ret_ret]
    have hv : nrs S.n (.tup [.int (1 + d1), .tup doors]) = [] := by simp [pures_nrs _ D.pure]
    have gg := gc_flat (S := S.put r (boxL a5 b5)) (k := S.n) (v := .tup [.int (1 + d1), .tup doors]) (S1 := ((S1.put r (boxL a5 b5)).new (.lst (A.map encP))).new (.lst (B.map encP))) (by simp) (hw a5 b5) (by simp; omega) (by rw [old_new (by simp; omega), old_new (by simpa using hle)]; exact hold a5 b5) hv
    rw [gg]
  have old0 : ∀ a b, (S.put r (boxL a b)).old S.n = (S.put r (boxL a b)).l := fun a b => by simpa using old_self (S := S.put r (boxL a b)) (hw a b)
  have g1 : ((S.put r (boxL a2 b2)).new (.lst (ps.map encP))).get S.n = some (.lst (ps.map encP)) := ug_new' (by simp)
  by_cases h1 : 1 < (ps.length : Int)
  · obtain ⟨d, a3, b3, hd, hb3, e3⟩ := sq_take1 (T := T) (n := n - 1) (by omega) hr (a := a2) hb2 (c := 6) (by omega) (by omega) (o := .lst (ps.map encP))
    by_cases h0 : d = 0
    · have hp := encP_pure ps
      have g3 : ((S.put r (boxL a3 b3)).new (.lst (ps.map encP))).get S.n = some (.lst (ps.map encP)) := ug_new' (by simp)
      refine fin (S1 := S.new (.lst (ps.map encP))) (a := a3) (b := b3) (qs := ps.tail) (by simp [hS, pures_rlt _ hp]) hr.new (by simp) (fun a b => ?_) hb3 (fun p h => he p (List.mem_of_mem_tail h)) (by simp; omega) ?_
      · rw [up_old hlt, old_new (by simp)]; exact old0 a b
      · rw [up_old hlt]
        unfold msCut
        simp [len_lst g1, h1, e3, h0, getSl_lst g3, hEnv, List.map_tail]
    · refine fin (S1 := S) (a := a3) (b := b3) (qs := ps) hS hr (Nat.le_refl _) old0 hb3 he (by omega) ?_
      unfold msCut
      simp [len_lst g1, h1, e3, h0, hEnv]
  · refine fin (S1 := S) (a := a2) (b := b2) (qs := ps) hS hr (Nat.le_refl _) old0 hb2 he (by omega) ?_
    unfold msCut
    simp [len_lst g1, h1, hEnv]
end
end Mp

set_option Elab.async false
set_option linter.all false
set_option maxRecDepth 100000
set_option maxHeartbeats 1600000
/-! the third family's drawing: a pen of three numbers. -/
namespace Mp
open PySem
variable {T : Nat → Option MDef} {n : Nat} {S : Sto} {r : Nat}
abbrev penL (a f b : Int) : SO := .lst [.int a, .int f, .int b]
def PenAt (S : Sto) (r : Nat) : Prop := ∃ a f b, S.get r = some (penL a f b)
theorem PenAt.lt (h : PenAt S r) : r < S.n := by obtain ⟨a, f, b, hg⟩ := h; exact ugt hg
theorem PenAt.put (h : PenAt S r) {a f b : Int} : PenAt (S.put r (penL a f b)) r := by obtain ⟨_, _, _, hg⟩ := h; exact ⟨a, f, b, ug_put hg⟩
theorem PenAt.wf (h : PenAt S r) (hS : S.wf) {a f b : Int} : (S.put r (penL a f b)).wf := wf_put hS h.lt (by simp)
theorem PenAt.new (h : PenAt S r) {o : SO} : PenAt (S.new o) r := by obtain ⟨a, f, b, hg⟩ := h; exact ⟨a, f, b, by rw [ug_old (ugt hg)]; exact hg⟩
section
variable [Has T F_k27_next d_k27_next]
theorem sr_next (hn : 1 ≤ n) {x : Int} : ∃ y, callF T n F_k27_next [.int x] S = .ok (.int y) S := by
  have m1 := Int.emod_nonneg (x + 7919) (show (2147483647 : Int) ≠ 0 by decide)
  have m2 := Int.emod_lt_of_pos (x + 7919) (show (0 : Int) < 2147483647 by decide)
  generalize hq : (x + 7919) % 2147483647 = q at m1 m2
  refine ⟨(q * q + 48271 * q + 12345) % 2147483629, ?_⟩
  rw [call_eq (by omega) _ rfl]
  simp [d_k27_next, bop_mod, hq, bop_mul (mul_l (i := q) (j := q) (by omega) (by omega)), bop_mul (mul_l (i := 48271) (j := q) (by decide) (by decide))]
variable [Has T F_k27_draw d_k27_draw]
/-- what is drawn lies below the bound; the pen stays one -/
theorem sr_draw (hn : 2 ≤ n) (hr : PenAt S r) {c : Int} (hc : 0 < c) (hc2 : c < 1000000) :
    ∃ d a f b, (0 ≤ d ∧ d < c) ∧ callF T n F_k27_draw [.ref r, .int c] S = .ok (.int d) (S.put r (penL a f b)) := by
  obtain ⟨a, f, b, hg⟩ := hr
  have hg' : S.get r = some (.lst [.int a, .int f, .int b]) := hg
  have e3 : ∀ z w y, (S.put r (penL z w y)).get r = some (penL z w y) := fun z w y => ug_put hg
  by_cases h0 : f = 1 ∧ 0 < a
  · refine ⟨a % c, a / c, f, b, ⟨Int.emod_nonneg _ (by omega), Int.emod_lt_of_pos _ hc⟩, ?_⟩
    rw [call_eq (by omega) _ rfl]
    simp [d_k27_draw, getIx_lst hg', h0.1, h0.2, bop_mod hc, bop_fdiv hc (show c < 1073741824 by omega), setIx_lst0 hg']
  · obtain ⟨y, ey⟩ := sr_next (T := T) (n := n - 1) (S := S) (by omega) (x := b)
    obtain ⟨z, ez⟩ := sr_next (T := T) (n := n - 1) (S := S) (by omega) (x := y + 7)
    have set2 : setIx (.ref r) (.int 2) (.int z) S = .ok () (S.put r (penL a f z)) := setIx_lst (n := 2) hg' (by simp)
    refine ⟨z / 64 % c, a, f, z, ⟨Int.emod_nonneg _ (by omega), Int.emod_lt_of_pos _ hc⟩, ?_⟩
    rw [call_eq (by omega) _ rfl]
    have i2 : ∀ S' : Sto, S'.get r = some (penL a f z) → getIx (.ref r) (.int 2) S' = .ok (.int z) S' := fun S' h => by rw [getIx_lst (xs := [.int a, .int f, .int z]) h]; rfl
    have i2' : getIx (.ref r) (.int 2) S = .ok (.int b) S := by rw [getIx_lst hg']; rfl
    by_cases h1 : f = 1
    · have h2 : ¬ 0 < a := fun q => h0 ⟨h1, q⟩
      simp [d_k27_draw, getIx_lst hg', h1, h2, ey, ez, bop_mod hc, bop_fdiv, h1 ▸ set2, h1 ▸ i2 _ (e3 a f z)]
    · simp [d_k27_draw, getIx_lst hg', h1, ey, ez, bop_mod hc, bop_fdiv, set2, i2 _ (e3 a f z)]
end
theorem cop_ge18 {i : Int} : cop .ge (.int i) (.int 1000000000000000000) S = .ok (.bl (decide (1000000000000000000 ≤ i))) S := id rfl
section
variable [Has T F_k15_pen_of d_k15_pen_of]
theorem sr_pen (hn : 1 ≤ n) (hS : S.wf) {c : Int} : ∃ a f b, callF T n F_k15_pen_of [.int c] S = .ok (.ref S.n) (S.new (penL a f b)) := by
  have pw : ∀ S : Sto, bop .pow (.int 10) (.int 18) S = .ok (.int 1000000000000000000) S := fun S => rfl
  obtain ⟨m, hm⟩ : ∃ m, bapp .max [.int c, .int (-c)] S = .ok (.int m) S := ⟨_, max_int⟩
  obtain ⟨f, hf⟩ : ∃ f, bapp .int [.bl (decide (1000000000000000000 ≤ m))] S = .ok (.int f) S := ⟨_, int_bl⟩
  refine ⟨m, f, m % 1000003, ?_⟩
  have g := gcr1_0 (S := S) (k := S.n) (r := S.n) (a := penL m f (m % 1000003)) rfl hS rfl (by simp)
  rw [call_eq (by omega) _ rfl]
  simp [-max_int, -int_bl, d_k15_pen_of, hm, pw, hf, bop_mod, cap_eq]
  rw [g]
  exact ⟨rfl, rfl⟩
end
end Mp

set_option Elab.async false
set_option linter.all false
set_option maxRecDepth 100000
set_option maxHeartbeats 1600000
/-! law k49: its looks at stands. -/
namespace Mp
open PySem
variable {T : Nat → Option MDef} {n : Nat} {S : Sto} {v : Val}
theorem keys_look {m : Nat} {xs : List Val} : ((xs.all fun k => amongV k 0 ((m : Int) - 1)) && decide (sortI (xs.map intV) = rangeI m)) = keysV m (.tup xs) := by
  simp only [keysV]
  refine Bool.eq_iff_iff.mpr ⟨fun h => ?_, fun h => ?_⟩
  · simp only [Bool.and_eq_true] at h ⊢
    refine ⟨?_, h.2⟩
    rw [List.all_eq_true]
    intro x hx
    obtain ⟨i, rfl, _⟩ := among_int (List.all_eq_true.mp h.1 x hx)
    rfl
  · simp only [Bool.and_eq_true] at h ⊢
    refine ⟨?_, h.2⟩
    have e := of_decide_eq_true h.2
    rw [List.all_eq_true]
    intro x hx
    have hx2 := List.all_eq_true.mp h.1 x hx
    cases x with
    | int i =>
      have h1 : i ∈ xs.map intV := List.mem_map.mpr ⟨_, hx, rfl⟩
      have h2 : i ∈ sortI (xs.map intV) := (sortI_perm _).mem_iff.mpr h1
      rw [e] at h2
      have := rangeI_mem.mp h2
      simp [amongV]
      omega
    | _ => simp [isIntB] at hx2
section
variable [Has T F_k49_whole d_k49_whole] [Has T F_k49_is_stand d_k49_is_stand]
theorem sp_k49_is_stand (hn : 2 ≤ n) (hS : S.wf) (hv : okH S v = true) {i : Int} {doors : List Val} (hd : doors.length < 50) : callF T n F_k49_is_stand [.tup [.int i, .tup doors], v] S = .ok (.bl (standV2 i doors.length v)) S := by
  rw [call_eq (by omega) _ rfl]
  cases v with
  | tup xs =>
    simp only [okH, Bool.and_eq_true, decide_eq_true_eq] at hv
    by_cases h3 : xs.length = 3
    · obtain ⟨a, b, c, rfl⟩ := three_of h3
      have hxs := okHs_all.mp hv.2
      simp [d_k49_is_stand]
      rw [gc_all (src := .val (.tup [a, b, c])) (xs := [a, b, c]) (f := isTupB) hS (by simp) gives_tup (by simp) (fun x hx => by
        simp [lcTurn_eq, wipe, ty_tup (hxs x hx)])]
      cases ef : [a, b, c].all isTupB with
      | false =>
        have : partsV doors.length (.tup [a, b, c]) = false := by
          simp only [List.all_cons, List.all_nil, Bool.and_true] at ef
          cases ea : isTupB a <;> cases eb : isTupB b <;> cases ec : isTupB c <;> simp [partsV, ea, eb, ec]
          simp [ea, eb, ec] at ef
        simp [hS, stand_parts this]
      | true =>
        simp only [List.all_cons, List.all_nil, Bool.and_true, Bool.and_eq_true] at ef
        obtain ⟨ea, eb, ec⟩ := ef
        obtain ⟨xa, rfl⟩ := tup_of ea
        obtain ⟨xb, rfl⟩ := tup_of eb
        obtain ⟨xc, rfl⟩ := tup_of ec
        simp only [okHs, okH, Bool.and_eq_true, decide_eq_true_eq, and_true] at hv
        obtain ⟨_, ⟨h1, h2⟩, ⟨h5, h4⟩, ⟨h7, h6⟩⟩ := hv
        have e : evE (callF T (n - 1)) (.gc (.cmp .ne (.lc [3] (.val (.var 1)) (.nm 3) (.bl true) (.blt .len (.cons (.var 3) .nil))) (.lst (.cons (.int 2) (.cons (.int 2) (.cons (.blt .len (.cons (.ix (.var 0) (.int 1)) .nil)) .nil)))))) [some (.tup [.int i, .tup doors]), some (.tup [.tup xa, .tup xb, .tup xc]), none, none, none, none] S
            = .ok (.bl (!decide ([(xa.length : Int), (xb.length : Int), (xc.length : Int)] = [2, 2, (doors.length : Int)]))) S := by
          refine gc_by (v := .bl (!decide ([(xa.length : Int), (xb.length : Int), (xc.length : Int)] = [2, 2, (doors.length : Int)]))) (S1 := (S.new (.lst ([(xa.length : Int), (xb.length : Int), (xc.length : Int)].map Val.int))).new (.lst ([2, 2, (doors.length : Int)].map Val.int))) ?_ (gcf2 rfl hS rfl)
          rw [ev_cmp, lc_map (src := .val (.tup [.tup xa, .tup xb, .tup xc])) (xs := [.tup xa, .tup xb, .tup xc]) (f := fun v => .int (lenV v)) (by simp) gives_tup (by simp) (fun x hx => by
            simp only [List.mem_cons, List.not_mem_nil, or_false] at hx
            rcases hx with rfl | rfl | rfl <;> simp [lcTurn_eq, wipe, lenV])]
          simp [lenV, cap_eq]
          have e2 := cop_ne_lst (S := (S.new (.lst ([(xa.length : Int), (xb.length : Int), (xc.length : Int)].map Val.int))).new (.lst ([2, 2, (doors.length : Int)].map Val.int))) (r := S.n) (q := S.n + 1) (xs := [(xa.length : Int), (xb.length : Int), (xc.length : Int)].map Val.int) (ys := [2, 2, (doors.length : Int)].map Val.int)
            (by simp) (ug_new' (by simp)) (key_ints _) (key_ints _)
          rw [veqs_ints] at e2
          simp only [List.map_cons, List.map_nil] at e2
          rw [e2]
          simp
        by_cases hl : xa.length = 2 ∧ xb.length = 2 ∧ xc.length = doors.length
        · obtain ⟨l1, l2, l3⟩ := hl
          have e' : decide ([(xa.length : Int), (xb.length : Int), (xc.length : Int)] = [2, 2, (doors.length : Int)]) = true := decide_eq_true (by rw [l1, l2, l3]; rfl)
          simp only [e', Bool.not_true] at e
          simp [e]
          rw [gc_all (src := .val (.tup xa)) (xs := xa) (f := fun r => amongV r 0 (i - 1)) hS (by simp) gives_tup (by omega) (fun x hx => by
            simp [lcTurn_eq, wipe, sp_k49_whole (T := T) (n := n - 1) (by omega) hS (okHs_all.mp h2 x hx)])]
          cases ef : (xa.all fun r => amongV r 0 (i - 1)) with
          | false => simp [standV2, ef, hS]
          | true =>
            have hcat : xb.length + xc.length ≤ 1000000 := by omega
            have hok : okHs S (xb ++ xc) = true := okHs_all.mpr fun x hx => by
              rcases List.mem_append.mp hx with z | z
              · exact okHs_all.mp h4 x z
              · exact okHs_all.mp h6 x z
            have hS1 : (S.new (.lst (xb ++ xc))).wf := by
              rw [wf_new]
              exact ⟨hS, okHs_rlt hok⟩
            have g1 : (S.new (.lst (xb ++ xc))).get S.n = some (.lst (xb ++ xc)) := ug_new
            have hlen : (xb ++ xc).length = doors.length + 2 := by rw [List.length_append]; omega
            simp [bop_cat hcat]
            rw [gc_all (src := .val (.ref S.n)) (xs := xb ++ xc) (f := fun r => amongV r 0 (((doors.length + 2 : Nat) : Int) - 1)) hS1 (by simp) (gives_ref g1) (by omega) (fun x hx => by
              have := sp_k49_whole (T := T) (n := n - 1) (by omega) hS1 (okH_new (okHs_all.mp hok x hx)) (hi := ((doors.length + 2 : Nat) : Int) - 1)
              simp only [lcTurn_eq, wipe, List.set_cons_succ, List.set_cons_zero, ag_nm, bind_ok_, ev_bl, tstO_bl, cond_true, ev_call, ea_cons, ev_var, varR_succ, varR_zero, ev_bin, ev_blt, ea_nil, len_lst g1, hlen, ev_int, bop_sub, this])]
            have hk := keys_look (m := doors.length + 2) (xs := xb ++ xc)
            cases eg : ((xb ++ xc).all fun k => amongV k 0 (((doors.length + 2 : Nat) : Int) - 1)) with
            | false =>
              rw [eg, Bool.false_and] at hk
              simp only [standV2, ← hk, Bool.and_false]
              simp [hS]
            | true =>
              rw [eg, Bool.true_and] at hk
              obtain ⟨h8, _⟩ := among_ints eg
              have hrg : rgOk 0 ((doors.length + 2 : Nat) : Int) = true := rgOk_of (by omega) (by omega) (by omega) (by omega) (by omega)
              have e9 : evE (callF T (n - 1)) (.gc (.cmp .eq (.blt .sorted (.cons (.var 2) .nil)) (.blt .list (.cons (.blt .range (.cons (.blt .len (.cons (.var 2) .nil)) .nil)) .nil)))) [some (.tup [.int i, .tup doors]), some (.tup [.tup xa, .tup xb, .tup xc]), some (.ref S.n), none, none, none] (S.new (.lst (xb ++ xc))) = .ok (.bl (keysV (doors.length + 2) (.tup (xb ++ xc)))) (S.new (.lst (xb ++ xc))) := by
                refine gc_by (v := .bl (keysV (doors.length + 2) (.tup (xb ++ xc)))) (S1 := ((S.new (.lst (xb ++ xc))).new (.lst ((sortI ((xb ++ xc).map intV)).map Val.int))).new (.lst ((rangeI (doors.length + 2)).map Val.int))) ?_ (gcf2 rfl hS1 rfl)
                have e1 : bapp .sorted [.ref S.n] (S.new (.lst (xb ++ xc))) = .ok (.ref (S.n + 1)) ((S.new (.lst (xb ++ xc))).new (.lst ((sortI ((xb ++ xc).map intV)).map Val.int))) :=
                  sorted_lstI (ns := (xb ++ xc).map intV) (by rw [← h8]; exact g1) (by simp; omega)
                have g2 : ((S.new (.lst (xb ++ xc))).new (.lst ((sortI ((xb ++ xc).map intV)).map Val.int))).get S.n = some (.lst (xb ++ xc)) := by rw [ug_old (by simp)]; exact g1
                simp only [ev_cmp, ev_blt, ea_cons, ev_var, varR_succ, varR_zero, bind_ok_, ea_nil, e1, len_lst g2, hlen, range1 (show -(2 ^ 62) ≤ ((doors.length + 2 : Nat) : Int) by omega) (show ((doors.length + 2 : Nat) : Int) < 2 ^ 62 by omega), list_rng hrg, rngL_ints, n_new]
                have e2 := cop_eq_lst (S := ((S.new (.lst (xb ++ xc))).new (.lst ((sortI ((xb ++ xc).map intV)).map Val.int))).new (.lst ((rangeI (doors.length + 2)).map Val.int))) (r := S.n + 1) (q := S.n + 1 + 1) (xs := (sortI ((xb ++ xc).map intV)).map Val.int) (ys := (rangeI (doors.length + 2)).map Val.int)
                  (by rw [ug_old (by simp)]; exact ug_new' (by simp)) (ug_new' (by simp)) (key_ints _) (key_ints _)
                rw [e2, veqs_ints, hk]
              simp [e9, standV2, ef, l1, l2, l3, hS]
        · have hp : partsV doors.length (.tup [.tup xa, .tup xb, .tup xc]) = false := by
            simp only [partsV, isTupB, lenV, Bool.true_and, Bool.and_eq_false_iff, decide_eq_false_iff_not]
            by_cases q1 : xa.length = 2
            · by_cases q2 : xb.length = 2
              · exact .inr (.inr (decide_eq_false fun q3 => hl ⟨q1, q2, q3⟩))
              · exact .inr (.inl (decide_eq_false q2))
            · exact .inl (decide_eq_false q1)
          have e' : decide ([(xa.length : Int), (xb.length : Int), (xc.length : Int)] = [2, 2, (doors.length : Int)]) = false := decide_eq_false fun z => by
            simp only [List.cons.injEq, and_true] at z
            exact hl ⟨by omega, by omega, by omega⟩
          simp only [e', Bool.not_false] at e
          simp [e, hS, stand_parts hp]
    · have h4 : ((xs.length : Int) = 3) = False := by simp; omega
      have hp : standV2 i doors.length (.tup xs) = false := stand_parts (partsV_len h3)
      simp [d_k49_is_stand, h4, hp, hS]
  | _ => simp [d_k49_is_stand, ty_tup hv, isTupB, standV2, hS]
end
end Mp

set_option Elab.async false
set_option linter.all false
set_option maxRecDepth 100000
set_option maxHeartbeats 800000
/-! Mp, part U6: repr is told of things that are not too large. -/
namespace Mp
open PySem
/-! ### how long texts are -/
mutual
def nd : PyData → Nat
  | .list xs => 1 + nds xs
  | .tuple xs => 1 + nds xs
  | .dict kvs => 1 + 120 * kvs.length
  | _ => 1
def nds : List PyData → Nat
  | [] => 0
  | x :: xs => nd x + nds xs
end
def strS (x : Str) : Bool := decide (x.length ≤ 10) && x.cps.toList.all fun c => decide (c < 16 ^ 8)
mutual
/-- small numbers and texts, empty dicts and {0: 1} -/
def smD : PyData → Bool
  | .int i => decide (i.natAbs < 10 ^ 30)
  | .str x => strS x
  | .list xs => smDs xs
  | .tuple xs => smDs xs
  | .dict [] => true
  | .dict [(.int 0, .int 1)] => true
  | .dict _ => false
  | _ => true
def smDs : List PyData → Bool
  | [] => true
  | x :: xs => smD x && smDs xs
end
theorem tf_le : ∀ (ts : List Str) (k : Nat) (acc : Str), (textFrom k acc ts).length ≤ acc.length + piled ts
  | [], k, acc => by simp [textFrom, piled]
  | t :: ts, k, acc => by
    have ih := tf_le ts (k + 1) (acc ++ (if k > 0 then ", " else "" : String) ++ t)
    simp only [textFrom]
    refine Nat.le_trans ih ?_
    rw [strLen_append, strLen_append, piled_cons]
    have : (((if k > 0 then ", " else "" : String) : Str)).length ≤ 2 := by split <;> decide
    omega
theorem lt_le (ts : List Str) : (listText ts).length ≤ piled ts + 2 := by
  unfold listText
  rw [strLen_append]
  have h := tf_le ts 0 "["
  have e1 : ((("[" : String) : Str)).length = 1 := rfl
  have e2 : ((("]" : String) : Str)).length = 1 := rfl
  rw [e1] at h
  rw [e2]
  omega
theorem tt_le (ts : List Str) : (tupleText ts).length ≤ piled ts + 3 := by
  unfold tupleText
  rw [strLen_append, strLen_append]
  have e1 : ((("(" : String) : Str)).length = 1 := rfl
  have e3 : (((if ts.length == 1 then ",)" else ")" : String) : Str)).length ≤ 2 := by split <;> decide
  rw [e1]
  by_cases h : ts = []
  · subst h
    have : (Str.join ", " []).length = 0 := rfl
    rw [this]
    omega
  · have := join_length_add ts h
    omega
theorem log_small {i : Int} (h : i.natAbs < 10 ^ 30) : i.natAbs.log2 < 1920 := by
  by_cases h0 : i.natAbs = 0
  · rw [h0]; decide
  · rw [Nat.log2_lt h0]
    refine Nat.lt_trans h ?_
    have : (10 : Nat) ^ 30 < 2 ^ 1920 := by
      have h1 : (10 : Nat) ^ 30 < 2 ^ 100 := by decide
      exact Nat.lt_trans h1 (Nat.pow_lt_pow_right (by omega) (by omega))
    exact this
mutual
theorem shown_le : ∀ d : PyData, smD d = true → d.showable = true ∧ d.shown.length + 2 ≤ 120 * nd d
  | .none, _ => ⟨rfl, by simp only [PyData.shown, nd]; decide⟩
  | .bool b, _ => ⟨rfl, by cases b <;> (simp only [PyData.shown, nd]; decide)⟩
  | .int i, h => by
    simp only [smD, decide_eq_true_eq] at h
    refine ⟨by simp only [PyData.showable, decide_eq_true_eq]; exact log_small h, ?_⟩
    have := int_text_length_le10 (k := 30) (by decide) h
    simp only [PyData.shown, nd]
    rw [PySem.ofString_length]
    omega
  | .str x, h => by
    simp only [smD, strS, Bool.and_eq_true, decide_eq_true_eq, List.all_eq_true] at h
    refine ⟨rfl, ?_⟩
    have := PySem.StrLaws.reprText_len x h.2
    simp only [PyData.shown, nd]
    omega
  | .list xs, h => by
    simp only [smD] at h
    obtain ⟨h1, h2⟩ := shown_les xs h
    refine ⟨by simp only [PyData.showable]; exact h1, ?_⟩
    have := lt_le (PyData.shownAll xs)
    simp only [PyData.shown, nd]
    omega
  | .tuple xs, h => by
    simp only [smD] at h
    obtain ⟨h1, h2⟩ := shown_les xs h
    refine ⟨by simp only [PyData.showable]; exact h1, ?_⟩
    have := tt_le (PyData.shownAll xs)
    simp only [PyData.shown, nd]
    omega
  | .dict kvs, h => by
    unfold smD at h
    split at h
    all_goals first
      | (rename_i e; exact (e _ rfl).elim)
      | (rename_i e; cases e; done)
      | (rename_i e; cases e; exact ⟨rfl, by simp only [PyData.shown, nd, PyData.shownKv]; decide⟩)
      | (rename_i e; cases e; exact ⟨by decide, by decide +kernel⟩)
      | (cases h; done)
theorem shown_les : ∀ xs : List PyData, smDs xs = true → PyData.showableAll xs = true ∧ piled (PyData.shownAll xs) ≤ 120 * nds xs
  | [], _ => ⟨rfl, by simp [PyData.shownAll, piled, nds]⟩
  | x :: xs, h => by
    simp only [smDs, Bool.and_eq_true] at h
    obtain ⟨h1, h2⟩ := shown_le x h.1
    obtain ⟨h3, h4⟩ := shown_les xs h.2
    refine ⟨by simp only [PyData.showableAll, h1, h3, Bool.and_self], ?_⟩
    simp only [PyData.shownAll, nds]
    rw [piled_cons]
    omega
end
theorem reprD_some {d : PyData} (h : smD d = true) (hn : nd d ≤ 8000) : reprD d = some d.shown := by
  obtain ⟨h1, h2⟩ := shown_le d h
  unfold reprD
  rw [h1, decide_eq_true (show d.shown.length ≤ cap by rw [cap_eq]; omega)]
  rfl
/-! ### things -/
def atomV : Val → Bool
  | .non => true
  | .bl _ => true
  | .int i => decide (i.natAbs < 10 ^ 30)
  | .str x => strS x
  | _ => false
/-- small values without objects, to a depth -/
def smV : Nat → Val → Bool
  | 0, _ => false
  | k + 1, v => match v with
    | .tup xs => xs.all (smV k)
    | v => atomV v
mutual
/-- how many parts -/
def nV : Val → Nat
  | .tup xs => 1 + nVs xs
  | _ => 1
def nVs : List Val → Nat
  | [] => 0
  | x :: xs => nV x + nVs xs
end
@[simp] theorem nVs_nil : nVs [] = 0 := id rfl
@[simp] theorem nVs_cons {x : Val} {xs : List Val} : nVs (x :: xs) = nV x + nVs xs := id rfl
@[simp] theorem nV_tup {xs : List Val} : nV (.tup xs) = 1 + nVs xs := id rfl
@[simp] theorem nV_int {i : Int} : nV (.int i) = 1 := id rfl
@[simp] theorem nV_non : nV .non = 1 := id rfl
@[simp] theorem nV_bl {b : Bool} : nV (.bl b) = 1 := id rfl
@[simp] theorem nV_str {x : Str} : nV (.str x) = 1 := id rfl
@[simp] theorem nV_ref {q : Nat} : nV (.ref q) = 1 := id rfl
@[simp] theorem nVs_append {a b : List Val} : nVs (a ++ b) = nVs a + nVs b := by
  induction a with
  | nil => simp
  | cons x xs ih => simp [ih]; omega
theorem nVs_take {k : Nat} {a : List Val} : nVs (a.take k) ≤ nVs a := by
  have := congrArg nVs (List.take_append_drop k a)
  rw [nVs_append] at this
  omega
theorem nVs_drop {k : Nat} {a : List Val} : nVs (a.drop k) ≤ nVs a := by
  have := congrArg nVs (List.take_append_drop k a)
  rw [nVs_append] at this
  omega
theorem nVs_mem {a : List Val} {v : Val} (h : v ∈ a) : nV v ≤ nVs a := by
  induction a with
  | nil => cases h
  | cons x xs ih =>
    rw [nVs_cons]
    rcases List.mem_cons.mp h with rfl | h
    · omega
    · have := ih h
      omega
theorem nVs_rev {a : List Val} : nVs a.reverse = nVs a := by
  induction a with
  | nil => rfl
  | cons x xs ih => simp [ih]; omega
@[simp] theorem nVs_ints {ns : List Int} : nVs (ns.map Val.int) = ns.length := by
  induction ns with
  | nil => rfl
  | cons x xs ih => simp [ih]; omega
theorem smV_up : ∀ (k j : Nat) (v : Val), k ≤ j → smV k v = true → smV j v = true
  | 0, _, v, _, h => by simp [smV] at h
  | k + 1, 0, v, hk, h => by omega
  | k + 1, j + 1, v, hk, h => by
    cases v with
    | tup xs =>
      simp only [smV, List.all_eq_true] at h ⊢
      exact fun x hx => smV_up k j x (by omega) (h x hx)
    | _ => exact h
theorem smV_dp : ∀ (k : Nat) (v : Val), smV k v = true → dpV k v = true
  | 0, v, h => by simp [smV] at h
  | k + 1, v, h => by
    cases v with
    | tup xs =>
      simp only [smV, List.all_eq_true] at h
      simp only [dpV, List.all_eq_true]
      exact fun x hx => smV_dp k x (h x hx)
    | non => rfl
    | bl b => rfl
    | int i => rfl
    | str x => rfl
    | fl xs => simp [smV, atomV] at h
    | rng a b => simp [smV, atomV] at h
    | ref r => simp [smV, atomV] at h
theorem smV_pure : ∀ (k : Nat) (v : Val), smV k v = true → pureV v = true
  | 0, v, h => by simp [smV] at h
  | k + 1, v, h => by
    cases v with
    | tup xs =>
      simp only [smV, List.all_eq_true] at h
      simp only [pureV, pureVs_all]
      exact fun x hx => smV_pure k x (h x hx)
    | non => rfl
    | bl b => rfl
    | int i => rfl
    | str x => rfl
    | fl xs => simp [smV, atomV] at h
    | rng a b => simp [smV, atomV] at h
    | ref r => simp [smV, atomV] at h
mutual
theorem smV_smD : ∀ (k : Nat) (v : Val), smV k v = true → smD (toD v) = true ∧ nd (toD v) = nV v
  | 0, v, h => by simp [smV] at h
  | k + 1, v, h => by
    cases v with
    | tup xs =>
      simp only [smV] at h
      simp only [toD, smD, nd, nV_tup]
      obtain ⟨h1, h2⟩ := smVs_smD k xs h
      exact ⟨h1, by rw [h2]⟩
    | non => exact ⟨rfl, rfl⟩
    | bl b => exact ⟨rfl, rfl⟩
    | int i => exact ⟨by simp only [smV, atomV] at h; simp only [toD, smD]; exact h, rfl⟩
    | str x => exact ⟨by simp only [smV, atomV] at h; simp only [toD, smD]; exact h, rfl⟩
    | fl xs => simp [smV, atomV] at h
    | rng a b => simp [smV, atomV] at h
    | ref r => simp [smV, atomV] at h
theorem smVs_smD : ∀ (k : Nat) (vs : List Val), vs.all (smV k) = true → smDs (toDs vs) = true ∧ nds (toDs vs) = nVs vs
  | k, [], _ => ⟨rfl, rfl⟩
  | k, v :: vs, h => by
    simp only [List.all_cons, Bool.and_eq_true] at h
    obtain ⟨h1, h2⟩ := smV_smD k v h.1
    obtain ⟨h3, h4⟩ := smVs_smD k vs h.2
    simp only [toDs, smDs, nds, nVs_cons, h1, h3, Bool.and_self, h2, h4, and_self]
end
section
variable {S : Sto} {v : Val}
theorem repr_pure (h : smV 12 v = true) (hn : nV v ≤ 8000) : reprOf S v = some (toD v).shown := by
  obtain ⟨h1, h2⟩ := smV_smD 12 v h
  unfold reprOf
  rw [show dat S deep v = some (toD v) from dat_toD 12 v (smV_dp 12 v h)]
  exact reprD_some h1 (by omega)
theorem repr_lst {q : Nat} {xs : List Val} (hq : S.get q = some (.lst xs)) (h : xs.all (smV 11) = true) (hn : nVs xs ≤ 7999) : reprOf S (.ref q) = some (PyData.list (toDs xs)).shown := by
  obtain ⟨h1, h2⟩ := smVs_smD 11 xs h
  have e1 : optAll (dat S 11) xs = some (toDs xs) := by
    rw [toDs_map]
    exact optAll_map fun x hx => dat_toD 11 x (smV_dp 11 x (List.all_eq_true.mp h x hx))
  unfold reprOf
  rw [show dat S deep (.ref q) = some (.list (toDs xs)) from dat_lst (n := 11) hq e1]
  exact reprD_some (by simp only [smD]; exact h1) (by simp only [nd]; omega)
@[simp] theorem bapp_repr : bapp .repr [v] S = R.of ((reprOf S v).map Val.str) S := id rfl
end
end Mp

set_option Elab.async false
set_option linter.all false
set_option maxRecDepth 100000
set_option maxHeartbeats 800000
/-! Mp, part U7: things of any kind, lists or empty dicts among their parts; what is dropped behind them. -/
namespace Mp
open PySem
mutual
/-- a thing of the store beside the object r: depth, value, how many parts (t: lists may be in it, else empty dicts) -/
inductive TV (t : Bool) (S : Sto) (r : Nat) : Nat → Val → Nat → Prop
  | atom {d : Nat} {v : Val} (h : atomV v = true) : TV t S r (d + 1) v 1
  | tup {d n : Nat} {xs : List Val} (h : TVs t S r d xs n) (hl : xs.length < 60) : TV t S r (d + 1) (.tup xs) (1 + n)
  | lst {d q : Nat} {xs : List Val} (ht : t = true) (hq : r < q) (hg : S.get q = some (.lst xs)) (hx : xs.all (smV d) = true) : TV t S r (d + 1) (.ref q) (1 + nVs xs)
  | dct {d q : Nat} (ht : t = false) (hq : r < q) (hg : S.get q = some (.dct [])) : TV t S r (d + 1) (.ref q) 1
  | dci {d q : Nat} (ht : t = false) (hq : r < q) (hg : S.get q = some (.dci [(0, .int 1)])) : TV t S r (d + 2) (.ref q) 121
inductive TVs (t : Bool) (S : Sto) (r : Nat) : Nat → List Val → Nat → Prop
  | nil {d : Nat} : TVs t S r d [] 0
  | cons {d n m : Nat} {x : Val} {xs : List Val} (h : TV t S r d x n) (hs : TVs t S r d xs m) : TVs t S r d (x :: xs) (n + m)
end
section
variable {t : Bool} {S S' : Sto} {r : Nat}
mutual
theorem TV.okH : ∀ {d n : Nat} {v : Val}, TV t S r d v n → okH S v = true
  | _, _, v, .atom h => by cases v <;> first | rfl | cases h
  | _, _, _, .tup h hl => by simp only [Mp.okH, decide_eq_true hl, TVs.okH h, Bool.and_self]
  | _, _, _, .lst ht hq hg hx => by simp only [Mp.okH, hg]
  | _, _, _, .dct ht hq hg => by simp only [Mp.okH, hg]
  | _, _, _, .dci ht hq hg => by simp only [Mp.okH, hg]
theorem TVs.okH : ∀ {d n : Nat} {vs : List Val}, TVs t S r d vs n → okHs S vs = true
  | _, _, _, .nil => rfl
  | _, _, _, .cons h hs => by simp only [Mp.okHs, TV.okH h, TVs.okH hs, Bool.and_self]
end
mutual
/-- the store changed elsewhere -/
theorem TV.on (hs : ∀ q o, r < q → S.get q = some o → S'.get q = some o) : ∀ {d n : Nat} {v : Val}, TV t S r d v n → TV t S' r d v n
  | _, _, v, .atom h => .atom h
  | _, _, _, .tup h hl => .tup (TVs.on hs h) hl
  | _, _, _, .lst ht hq hg hx => .lst ht hq (hs _ _ hq hg) hx
  | _, _, _, .dct ht hq hg => .dct ht hq (hs _ _ hq hg)
  | _, _, _, .dci ht hq hg => .dci ht hq (hs _ _ hq hg)
theorem TVs.on (hs : ∀ q o, r < q → S.get q = some o → S'.get q = some o) : ∀ {d n : Nat} {vs : List Val}, TVs t S r d vs n → TVs t S' r d vs n
  | _, _, _, .nil => .nil
  | _, _, _, .cons h h2 => .cons (TV.on hs h) (TVs.on hs h2)
end
theorem TV.new {d n : Nat} {v : Val} {o : SO} (h : TV t S r d v n) : TV t (S.new o) r d v n := h.on fun q u _ e => by rw [ug_old (ugt e)]; exact e
theorem TV.put {d n : Nat} {v : Val} {o : SO} (h : TV t S r d v n) (hr : r < S.n) : TV t (S.put r o) r d v n := h.on fun q u hq e => by rw [ug_ne (ugt e) hr (by omega)]; exact e
theorem TVs.app : ∀ {d n m : Nat} {xs ys : List Val}, TVs t S r d xs n → TVs t S r d ys m → TVs t S r d (xs ++ ys) (n + m)
  | _, _, _, _, _, .nil, h => by simpa using h
  | _, _, _, _, _, .cons h hs, h2 => by
    have := TVs.cons h (TVs.app hs h2)
    rw [← Nat.add_assoc] at this
    exact this
mutual
theorem TV.up : ∀ {d e n : Nat} {v : Val}, d ≤ e → TV t S r d v n → TV t S r e v n
  | _, e, _, v, he, .atom h => by obtain ⟨e, rfl⟩ : ∃ x, e = x + 1 := ⟨e - 1, by omega⟩; exact .atom h
  | _, e, _, _, he, .tup h hl => by obtain ⟨e, rfl⟩ : ∃ x, e = x + 1 := ⟨e - 1, by omega⟩; exact .tup (TVs.up (by omega) h) hl
  | _, e, _, _, he, .lst ht hq hg hx => by
    obtain ⟨e, rfl⟩ : ∃ x, e = x + 1 := ⟨e - 1, by omega⟩
    refine .lst ht hq hg ?_
    rw [List.all_eq_true] at hx ⊢
    exact fun v hv => smV_up _ _ v (by omega) (hx v hv)
  | _, e, _, _, he, .dct ht hq hg => by obtain ⟨e, rfl⟩ : ∃ x, e = x + 1 := ⟨e - 1, by omega⟩; exact .dct ht hq hg
  | _, e, _, _, he, .dci ht hq hg => by obtain ⟨e, rfl⟩ : ∃ x, e = x + 2 := ⟨e - 2, by omega⟩; exact .dci ht hq hg
theorem TVs.up : ∀ {d e n : Nat} {vs : List Val}, d ≤ e → TVs t S r d vs n → TVs t S r e vs n
  | _, _, _, _, he, .nil => .nil
  | _, _, _, _, he, .cons h hs => .cons (TV.up he h) (TVs.up he hs)
end
/-- short tuples alone -/
def lenOk : Nat → Val → Bool
  | 0, _ => true
  | k + 1, v => match v with
    | .tup xs => decide (xs.length < 60) && xs.all (lenOk k)
    | _ => true
theorem TV.pure : ∀ {d : Nat} {v : Val}, smV d v = true → (lenOk d v = true) → TV t S r d v (nV v)
  | 0, v, h, _ => by simp [smV] at h
  | d + 1, v, h, hl => by
    cases v with
    | tup xs =>
      simp only [smV] at h
      simp only [lenOk, Bool.and_eq_true, decide_eq_true_eq] at hl
      rw [nV_tup]
      refine .tup ?_ hl.1
      have : ∀ l : List Val, l.all (smV d) = true → l.all (lenOk d) = true → TVs t S r d l (nVs l) := by
        intro l
        induction l with
        | nil => intro _ _; exact .nil
        | cons x xs ih =>
          intro h1 h2
          simp only [List.all_cons, Bool.and_eq_true] at h1 h2
          exact .cons (TV.pure h1.1 h2.1) (ih h1.2 h2.2)
      exact this xs h hl.2
    | non => exact .atom rfl
    | bl b => exact .atom rfl
    | int i => exact .atom h
    | str x => exact .atom h
    | fl xs => simp [smV, atomV] at h
    | rng a b => simp [smV, atomV] at h
    | ref q => simp [smV, atomV] at h
/-! ### repr -/
mutual
theorem TV.dat : ∀ {d n : Nat} {v : Val}, TV true S r d v n → ∃ D, Mp.dat S d v = some D ∧ smD D = true ∧ nd D = n
  | _, _, v, .atom h => by
    cases v with
    | non => exact ⟨_, rfl, rfl, rfl⟩
    | bl b => exact ⟨_, rfl, rfl, rfl⟩
    | int i => exact ⟨_, rfl, h, rfl⟩
    | str x => exact ⟨_, rfl, h, rfl⟩
    | _ => cases h
  | _, _, _, .tup h hl => by
    obtain ⟨Ds, h1, h2, h3⟩ := TVs.dat h
    exact ⟨.tuple Ds, by simp only [Mp.dat, h1], by simp only [smD]; exact h2, by simp only [nd, h3]⟩
  | _, _, _, .lst (d := d) (xs := xs) ht hq hg hx => by
    have e1 : optAll (Mp.dat S d) xs = some (toDs xs) := by
      rw [toDs_map]
      exact optAll_map fun x hx2 => dat_toD d x (smV_dp d x (List.all_eq_true.mp hx x hx2))
    obtain ⟨h1, h2⟩ := smVs_smD d xs hx
    exact ⟨.list (toDs xs), dat_lst hg e1, by simp only [smD]; exact h1, by simp only [nd, h2]⟩
  | _, _, _, .dct ht hq hg => by cases ht
  | _, _, _, .dci ht hq hg => by cases ht
theorem TVs.dat : ∀ {d n : Nat} {vs : List Val}, TVs true S r d vs n → ∃ Ds, optAll (Mp.dat S d) vs = some Ds ∧ smDs Ds = true ∧ nds Ds = n
  | _, _, _, .nil => ⟨[], rfl, rfl, rfl⟩
  | _, _, _, .cons h hs => by
    obtain ⟨D, h1, h2, h3⟩ := TV.dat h
    obtain ⟨Ds, h4, h5, h6⟩ := TVs.dat hs
    exact ⟨D :: Ds, by simp only [optAll, h1, h4], by simp only [smDs, h2, h5, Bool.and_self], by simp only [nds, h3, h6]⟩
end
mutual
theorem TV.rdat : ∀ {d n : Nat} {v : Val}, TV false S r d v n → ∃ D, Mp.rdat S d v = some D ∧ smD D = true ∧ nd D = n
  | _, _, v, .atom h => by
    cases v with
    | non => exact ⟨_, rfl, rfl, rfl⟩
    | bl b => exact ⟨_, rfl, rfl, rfl⟩
    | int i => exact ⟨_, rfl, h, rfl⟩
    | str x => exact ⟨_, rfl, h, rfl⟩
    | _ => cases h
  | _, _, _, .tup h hl => by
    obtain ⟨Ds, h1, h2, h3⟩ := TVs.rdat h
    exact ⟨.tuple Ds, by simp only [Mp.rdat, h1], by simp only [smD]; exact h2, by simp only [nd, h3]⟩
  | _, _, _, .lst ht hq hg hx => by cases ht
  | _, _, _, .dct ht hq hg => by
    refine ⟨.dict [], ?_, rfl, rfl⟩
    simp only [Mp.rdat, hg, List.map_nil, optAll, List.zip_nil_right]
  | _, _, _, .dci ht hq hg => by
    refine ⟨.dict [(.int 0, .int 1)], ?_, rfl, rfl⟩
    simp only [Mp.rdat, hg, List.map_cons, List.map_nil, optAll, List.zip_cons_cons, List.zip_nil_right]
theorem TVs.rdat : ∀ {d n : Nat} {vs : List Val}, TVs false S r d vs n → ∃ Ds, optAll (Mp.rdat S d) vs = some Ds ∧ smDs Ds = true ∧ nds Ds = n
  | _, _, _, .nil => ⟨[], rfl, rfl, rfl⟩
  | _, _, _, .cons h hs => by
    obtain ⟨D, h1, h2, h3⟩ := TV.rdat h
    obtain ⟨Ds, h4, h5, h6⟩ := TVs.rdat hs
    exact ⟨D :: Ds, by simp only [optAll, h1, h4], by simp only [smDs, h2, h5, Bool.and_self], by simp only [nds, h3, h6]⟩
end
mutual
theorem TV.nd1 : ∀ {d n : Nat} {v : Val} {D : PyData}, TV false S r d v n → Mp.dat S d v = some D → ∃ D3, Mp.dat S d v = some D3 ∧ smD D3 = true ∧ nd D3 = n
  | _, _, v, _, .atom h, e => by
    cases v with
    | non => exact ⟨_, rfl, rfl, rfl⟩
    | bl b => exact ⟨_, rfl, rfl, rfl⟩
    | int i => exact ⟨_, rfl, h, rfl⟩
    | str x => exact ⟨_, rfl, h, rfl⟩
    | _ => cases h
  | _, _, _, _, .tup h hl, e => by
    simp only [Mp.dat] at e
    split at e
    · rename_i Ds hd
      obtain ⟨Ds3, h1, h2, h3⟩ := TVs.nd1 h hd
      exact ⟨.tuple Ds3, by simp only [Mp.dat, h1], by simp only [smD]; exact h2, by simp only [nd, h3]⟩
    · cases e
  | _, _, _, _, .lst ht hq hg hx, e => by cases ht
  | _, _, _, _, .dct ht hq hg, e => by
    simp only [Mp.dat, Sto.lst, hg] at e
    cases e
  | _, _, _, _, .dci ht hq hg, e => by
    simp only [Mp.dat, Sto.lst, hg] at e
    cases e
theorem TVs.nd1 : ∀ {d n : Nat} {vs : List Val} {Ds : List PyData}, TVs false S r d vs n → optAll (Mp.dat S d) vs = some Ds → ∃ Ds3, optAll (Mp.dat S d) vs = some Ds3 ∧ smDs Ds3 = true ∧ nds Ds3 = n
  | _, _, _, _, .nil, e => ⟨[], rfl, rfl, rfl⟩
  | _, _, _, _, .cons h hs, e => by
    simp only [optAll] at e
    split at e
    · rename_i D hD
      split at e
      · rename_i Ds2 hDs
        obtain ⟨D3, h1, h2, h3⟩ := TV.nd1 h hD
        obtain ⟨Ds3, h4, h5, h6⟩ := TVs.nd1 hs hDs
        exact ⟨D3 :: Ds3, by simp only [optAll, h1, h4], by simp only [smDs, h2, h5, Bool.and_self], by simp only [nds, h3, h6]⟩
      · cases e
    · cases e
end
/-- repr is told -/
theorem TV.repr {n : Nat} {v : Val} (h : TV t S r 12 v n) (hn : n ≤ 8000) : ∃ x, reprOf S v = some x := by
  cases t with
  | true =>
    obtain ⟨D, h1, h2, h3⟩ := h.dat
    refine ⟨D.shown, ?_⟩
    unfold reprOf
    rw [show Mp.dat S deep v = some D from h1]
    exact reprD_some h2 (by omega)
  | false =>
    obtain ⟨D, h1, h2, h3⟩ := h.rdat
    unfold reprOf
    cases e : Mp.dat S deep v with
    | some D2 =>
      -- data without dicts are the same data
      dsimp only
      have : ∃ D3, Mp.dat S deep v = some D3 ∧ smD D3 = true ∧ nd D3 = n := TV.nd1 h e
      obtain ⟨D3, q1, q2, q3⟩ := this
      rw [e] at q1
      cases q1
      exact ⟨_, reprD_some q2 (by omega)⟩
    | none =>
      rw [show Mp.rdat S deep v = some D from h1]
      exact ⟨_, reprD_some h2 (by omega)⟩
/-! ### what is dropped behind a thing -/
mutual
theorem TV.ren {k : Nat} {rs : List Nat} (hl : ∀ q o, q < k → r < q → S.get q = some o → S'.get q = some o) (hn : ∀ q o, q ∈ rs → S.get q = some o → S'.get (k + rs.idxOf q) = some o) (hk : r < k) : ∀ {d n : Nat} {v : Val}, TV t S r d v n → (∀ q ∈ nrs k v, q ∈ rs) → TV t S' r d (ren k rs v) n
  | _, _, v, .atom h, _ => by
    have : Mp.ren k rs v = v := by cases v <;> first | rfl | cases h
    rw [this]
    exact .atom h
  | _, _, _, .tup h hl2, hq => by
    simp only [Mp.ren]
    exact .tup (TVs.ren hl hn hk h (by simpa only [nrs] using hq)) (by rw [rens_length]; exact hl2)
  | _, _, _, .lst (q := q) ht hq hg hx, hm => by
    simp only [Mp.ren]
    cases e : Nat.blt q k with
    | true =>
      have hqk : q < k := by unfold Nat.blt at e; exact Nat.le_of_ble_eq_true e
      exact .lst ht hq (hl q _ hqk hq hg) hx
    | false =>
      have hm2 : q ∈ rs := hm q (by simp only [nrs, e]; simp)
      exact .lst ht (by omega) (hn q _ hm2 hg) hx
  | _, _, _, .dct (q := q) ht hq hg, hm => by
    simp only [Mp.ren]
    cases e : Nat.blt q k with
    | true =>
      have hqk : q < k := by unfold Nat.blt at e; exact Nat.le_of_ble_eq_true e
      exact .dct ht hq (hl q _ hqk hq hg)
    | false =>
      have hm2 : q ∈ rs := hm q (by simp only [nrs, e]; simp)
      exact .dct ht (by omega) (hn q _ hm2 hg)
  | _, _, _, .dci (q := q) ht hq hg, hm => by
    simp only [Mp.ren]
    cases e : Nat.blt q k with
    | true =>
      have hqk : q < k := by unfold Nat.blt at e; exact Nat.le_of_ble_eq_true e
      exact .dci ht hq (hl q _ hqk hq hg)
    | false =>
      have hm2 : q ∈ rs := hm q (by simp only [nrs, e]; simp)
      exact .dci ht (by omega) (hn q _ hm2 hg)
theorem TVs.ren {k : Nat} {rs : List Nat} (hl : ∀ q o, q < k → r < q → S.get q = some o → S'.get q = some o) (hn : ∀ q o, q ∈ rs → S.get q = some o → S'.get (k + rs.idxOf q) = some o) (hk : r < k) : ∀ {d n : Nat} {vs : List Val}, TVs t S r d vs n → (∀ q ∈ nrss k vs, q ∈ rs) → TVs t S' r d (rens k rs vs) n
  | _, _, _, .nil, _ => .nil
  | _, _, _, .cons h hs, hq => by
    simp only [nrss, List.mem_append] at hq
    simp only [Mp.rens]
    exact .cons (TV.ren hl hn hk h fun q z => hq q (.inl z)) (TVs.ren hl hn hk hs fun q z => hq q (.inr z))
theorem rens_length {k : Nat} {rs : List Nat} : ∀ {xs : List Val}, (rens k rs xs).length = xs.length
  | [] => rfl
  | x :: xs => by simp only [Mp.rens, List.length_cons, rens_length (xs := xs)]
end
end
end Mp

set_option Elab.async false
set_option linter.all false
set_option maxRecDepth 100000
set_option maxHeartbeats 1600000
/-! what is dropped behind a thing. -/
namespace Mp
open PySem
variable {T : Nat → Option MDef} {n : Nat} {S : Sto} {r : Nat}
/-- a later store: the box is there, and what was there behind it -/
structure Lat (r : Nat) (S S' : Sto) : Prop where
  wf : S'.wf
  box : BoxAt S' r
  le : S.n ≤ S'.n
  on : ∀ q o, r < q → S.get q = some o → S'.get q = some o
theorem Lat.trans {S1 S2 S3 : Sto} (h : Lat r S1 S2) (h2 : Lat r S2 S3) : Lat r S1 S3 := ⟨h2.wf, h2.box, Nat.le_trans h.le h2.le, fun q o hq e => h2.on q o hq (h.on q o hq e)⟩
theorem Lat.refl (h : S.wf) (hb : BoxAt S r) : Lat r S S := ⟨h, hb, Nat.le_refl _, fun q o _ e => e⟩
theorem Lat.new (h : S.wf) (hb : BoxAt S r) {o : SO} (ho : o.rlt S.n = true) : Lat r S (S.new o) := ⟨by simp [h, ho], hb.new, by simp, fun q u _ e => by rw [ug_old (ugt e)]; exact e⟩
theorem Lat.put (h : S.wf) (hr : BoxAt S r) {a b : Int} (hb : 0 ≤ b ∧ b < 2147483647) : Lat r S (S.put r (boxL a b)) := ⟨hr.wf h, hr.put hb, by simp, fun q u hq e => by rw [ug_ne (ugt e) hr.lt (by omega)]; exact e⟩
theorem mem_uniqN {q : Nat} : ∀ {l : List Nat}, q ∈ uniqN l ↔ q ∈ l
  | [] => by simp [uniqN]
  | x :: l => by
    simp only [uniqN, List.mem_cons, List.mem_filter, mem_uniqN (l := l), bne_iff_ne]
    by_cases h : q = x <;> simp [h]
theorem kept_old {k q : Nat} {l : List SO} {os : List SO} (h : q < k) (hl : l.length = k) : Sto.get ⟨k + os.length, os.reverse ++ l⟩ q = Sto.get ⟨k, l⟩ q := by
  unfold Sto.get
  simp only
  rw [if_pos (by omega), if_pos h, List.getElem?_append_right (by simp; omega)]
  congr 1
  simp
  omega
theorem kept_new {k j : Nat} {l : List SO} {os : List SO} (h : j < os.length) : Sto.get ⟨k + os.length, os.reverse ++ l⟩ (k + j) = os[j]? := by
  unfold Sto.get
  simp only
  rw [if_pos (by omega), List.getElem?_append_left (by simp; omega), List.getElem?_reverse (by omega)]
  congr 1
  omega
mutual
theorem rlt_up {k j : Nat} (hj : k ≤ j) : ∀ v : Val, rlt k v = true → rlt j v = true
  | .non, _ => rfl
  | .bl _, _ => rfl
  | .int _, _ => rfl
  | .str _, _ => rfl
  | .rng _ _, _ => rfl
  | .tup xs, h => by simp only [rlt] at h ⊢; exact rlts_up hj xs h
  | .fl xs, h => by simp only [rlt] at h ⊢; exact rlts_up hj xs h
  | .ref r, h => by
    simp only [rlt] at h
    unfold Nat.blt at h
    have := Nat.le_of_ble_eq_true h
    exact rlt_ref (by omega)
theorem rlts_up {k j : Nat} (hj : k ≤ j) : ∀ vs : List Val, rlts k vs = true → rlts j vs = true
  | [], _ => rfl
  | x :: xs, h => by
    simp only [rlts, Bool.and_eq_true] at h ⊢
    exact ⟨rlt_up hj x h.1, rlts_up hj xs h.2⟩
end
theorem so_up {k j : Nat} (hj : k ≤ j) {o : SO} (h : o.rlt k = true) : o.rlt j = true := by
  cases o with
  | lst xs => exact rlts_up hj xs h
  | dct kvs =>
    simp only [SO.rlt, List.all_eq_true, Bool.and_eq_true] at h ⊢
    exact fun p hp => ⟨rlt_up hj _ (h p hp).1, rlt_up hj _ (h p hp).2⟩
  | ldc kvs =>
    simp only [SO.rlt, List.all_eq_true, Bool.and_eq_true] at h ⊢
    exact fun p hp => ⟨rlt_up hj _ (h p hp).1, rlt_up hj _ (h p hp).2⟩
  | dci kvs =>
    simp only [SO.rlt, List.all_eq_true] at h ⊢
    exact fun p hp => rlt_up hj _ (h p hp)
  | ldi kvs =>
    simp only [SO.rlt, List.all_eq_true] at h ⊢
    exact fun p hp => rlt_up hj _ (h p hp)
theorem mono_app {k : Nat} {l : List SO} (hl : l.length = k) (hm : mono l = true) : ∀ os : List SO, (∀ o ∈ os, o.rlt k = true) → mono (os ++ l) = true
  | [], _ => hm
  | o :: os, h => by
    simp only [List.cons_append, mono, Bool.and_eq_true]
    refine ⟨so_up (by simp; omega) (h o (List.mem_cons_self ..)), mono_app hl hm os fun u hu => h u (List.mem_cons_of_mem _ hu)⟩
mutual
theorem TV.refs {t : Bool} {k : Nat} : ∀ {d m : Nat} {v : Val}, TV t S r d v m → ∀ q ∈ nrs k v, ∃ o, S.get q = some o ∧ ∀ j, SO.rlt j o = true
  | _, _, v, .atom h, q, hq => by cases v <;> (first | (cases h; done) | (simp [nrs] at hq))
  | _, _, _, .tup h hl, q, hq => TVs.refs h q (by simpa using hq)
  | _, _, _, .lst (d := d) (xs := xs) ht hq hg hx, q, hq2 => by
    simp only [nrs] at hq2
    split at hq2
    · cases hq2
    · rw [List.mem_singleton.mp hq2]
      refine ⟨_, hg, fun j => ?_⟩
      have : pureVs xs = true := by
        rw [pureVs_all]
        exact fun v hv => smV_pure d v (List.all_eq_true.mp hx v hv)
      exact pures_rlt xs this
  | _, _, _, .dct ht hq hg, q, hq2 => by
    simp only [nrs] at hq2
    split at hq2
    · cases hq2
    · rw [List.mem_singleton.mp hq2]
      exact ⟨_, hg, fun j => rfl⟩
  | _, _, _, .dci ht hq hg, q, hq2 => by
    simp only [nrs] at hq2
    split at hq2
    · cases hq2
    · rw [List.mem_singleton.mp hq2]
      exact ⟨_, hg, fun j => rfl⟩
theorem TVs.refs {t : Bool} {k : Nat} : ∀ {d m : Nat} {vs : List Val}, TVs t S r d vs m → ∀ q ∈ nrss k vs, ∃ o, S.get q = some o ∧ ∀ j, SO.rlt j o = true
  | _, _, _, .nil, q, hq => by cases hq
  | _, _, _, .cons h hs, q, hq => by
    rcases List.mem_append.mp (show q ∈ nrs k _ ++ nrss k _ from hq) with z | z
    · exact TV.refs h q z
    · exact TVs.refs hs q z
end
/-- dropped behind a thing -/
theorem gc_thingN {t : Bool} {Sx S1 : Sto} {k d m : Nat} {v : Val} (hk : Sx.n = k) (hw : Sx.wf) (hn : k ≤ S1.n) (hold : S1.old k = Sx.l) (hb : BoxAt Sx r) (h : TV t S1 r d v m) (hl : ∀ q o, q < k → r < q → S1.get q = some o → Sx.get q = some o) :
    ∃ v' S', gcV k v S1 = (v', S') ∧ Lat r Sx S' ∧ TV t S' r d v' m ∧ ∃ os : List SO, S' = ⟨k + os.length, os.reverse ++ Sx.l⟩ := by
  have hr := hb.lt
  let rs := uniqN (nrs k v)
  let g : Nat → SO := fun q => (S1.get q).getD (.lst [])
  have hrs : ∀ q ∈ rs, S1.get q = some (g q) ∧ ∀ j, (g q).rlt j = true := by
    intro q hq
    obtain ⟨o, h1, h2⟩ := h.refs q (mem_uniqN.mp hq)
    have : g q = o := by show (S1.get q).getD _ = o; rw [h1]; rfl
    rw [this]
    exact ⟨h1, h2⟩
  have e1 : optAll S1.get rs = some (rs.map g) := optAll_map fun q hq => (hrs q hq).1
  have e2 : (rs.map g).all (SO.rlt k) = true := by
    rw [List.all_eq_true]
    intro o ho
    obtain ⟨q, hq, rfl⟩ := List.mem_map.mp ho
    exact (hrs q hq).2 k
  have e3 := keep_some (rs := rs) (os := rs.map g) hk hw hn hold e1 e2
  have e4 : k + rs.length = k + (rs.map g).length := by simp
  have hlx : Sx.l.length = k := by rw [hw.1, hk]
  have hSx : Sx = ⟨k, Sx.l⟩ := by subst hk; rfl
  have ho : ∀ q, q < k → Sto.get ⟨k + (rs.map g).length, (rs.map g).reverse ++ Sx.l⟩ q = Sx.get q := fun q hq => by rw [kept_old hq hlx, ← hSx]
  refine ⟨ren k rs v, ⟨k + (rs.map g).length, (rs.map g).reverse ++ Sx.l⟩, ?_, ⟨⟨?_, ?_⟩, ?_, ?_, ?_⟩, ?_, _, rfl⟩
  · unfold gcV
    show (match S1.keep k rs with | some S1 => (ren k rs v, S1) | none => (v, S1)) = _
    rw [e3]
    simp
  · simp [hlx, Nat.add_comm]
  · exact mono_app hlx hw.2 _ fun o hoo => by
      obtain ⟨q, hq, rfl⟩ := List.mem_map.mp (List.mem_reverse.mp hoo)
      exact (hrs q hq).2 k
  · obtain ⟨a, b, hg, hb2⟩ := hb
    exact ⟨a, b, by rw [ho r (by omega)]; exact hg, hb2⟩
  · show Sx.n ≤ k + _; omega
  · intro q o hq e
    rw [ho q (by have := ugt e; omega)]
    exact e
  · refine h.ren (k := k) (rs := rs) (fun q o h1 h2 h3 => ?_) (fun q o hq e => ?_) (by omega) fun q hq => mem_uniqN.mpr hq
    · rw [ho q h1]
      exact hl q o h1 h2 h3
    · have hi : rs.idxOf q < rs.length := List.idxOf_lt_length_iff.mpr hq
      rw [kept_new (by simpa using hi), List.getElem?_map, List.getElem?_eq_getElem hi]
      simp only [List.getElem_idxOf, Option.map_some]
      rw [(hrs q hq).1] at e
      exact e
theorem gc_thing {t : Bool} {Sx S1 : Sto} {k d m : Nat} {v : Val} (hk : Sx.n = k) (hw : Sx.wf) (hn : k ≤ S1.n) (hold : S1.old k = Sx.l) (hb : BoxAt Sx r) (h : TV t S1 r d v m) (hl : ∀ q o, q < k → r < q → S1.get q = some o → Sx.get q = some o) :
    ∃ v' S', gcV k v S1 = (v', S') ∧ Lat r Sx S' ∧ TV t S' r d v' m := by
  obtain ⟨v', S', h1, h2, h3, _⟩ := gc_thingN hk hw hn hold hb h hl
  exact ⟨v', S', h1, h2, h3⟩
end Mp

set_option Elab.async false
set_option linter.all false
set_option maxRecDepth 100000
set_option maxHeartbeats 1600000
/-! k49: things of any kind. -/
namespace Mp
open PySem
variable {T : Nat → Option MDef} {n : Nat} {S : Sto} {r : Nat}
def Sto.news (S : Sto) : List SO → Sto
  | [] => S
  | o :: os => (S.new o).news os
@[simp] theorem news_nil : S.news [] = S := id rfl
@[simp] theorem news_cons {o : SO} {os : List SO} : S.news (o :: os) = (S.new o).news os := id rfl
theorem put_news {o : SO} : ∀ {os : List SO} {S : Sto}, r < S.n → (S.news os).put r o = (S.put r o).news os
  | [], S, h => rfl
  | u :: os, S, h => by
    rw [news_cons, put_news (by simp; omega), up_old h]
    rfl
theorem BoxAt.news : ∀ {os : List SO} {S : Sto}, BoxAt S r → BoxAt (S.news os) r
  | [], S, h => h
  | u :: os, S, h => BoxAt.news (os := os) h.new
theorem old_news {k : Nat} : ∀ {os : List SO} {S : Sto}, k ≤ S.n → (S.news os).old k = S.old k
  | [], S, h => rfl
  | u :: os, S, h => by rw [news_cons, old_news (by simp; omega), old_new h]
theorem n_news : ∀ {os : List SO} {S : Sto}, (S.news os).n = S.n + os.length
  | [], S => rfl
  | u :: os, S => by rw [news_cons, n_news]; simp; omega
theorem get_news {q : Nat} : ∀ {os : List SO} {S : Sto}, q < S.n → (S.news os).get q = S.get q
  | [], S, h => rfl
  | u :: os, S, h => by rw [news_cons, get_news (by simp; omega), ug_old h]
theorem get_newsI {j : Nat} : ∀ {os : List SO} {S : Sto}, j < os.length → (S.news os).get (S.n + j) = os[j]?
  | [], S, h => by simp at h
  | u :: os, S, h => by
    cases j with
    | zero => rw [news_cons, get_news (by simp), Nat.add_zero, ug_new]; rfl
    | succ j =>
      have := get_newsI (j := j) (os := os) (S := S.new u) (by simpa using h)
      rw [news_cons, List.getElem?_cons_succ, ← this]
      congr 1
      simp
      omega
section
variable [Has T F_k49_more d_k49_more] [Has T F_k49_take d_k49_take]
theorem takeN (hn : 2 ≤ n) (hr : BoxAt S r) {a b c : Int} (hb : 0 ≤ b ∧ b < 2147483647) (hc : 0 < c) (hc2 : c < 1000000) (os : List SO) :
    ∃ d a' b', (0 ≤ d ∧ d < c) ∧ (0 ≤ b' ∧ b' < 2147483647) ∧ callF T n F_k49_take [.ref r, .int c] ((S.put r (boxL a b)).news os) = .ok (.int d) ((S.put r (boxL a' b')).news os) := by
  obtain ⟨d, a', b', h1, h2, e⟩ := sp_take0 (T := T) hn ((hr.put (a := a) hb).news (os := os)) hc hc2
  exact ⟨d, a', b', h1, h2, by rw [e, put_news (by simpa using hr.lt), up_up]⟩
end
/-- the end of a def that tells a thing -/
theorem end_thing {t : Bool} {a b : Int} {os : List SO} {d m : Nat} {v : Val} (hS : S.wf) (hr : BoxAt S r) (hb : 0 ≤ b ∧ b < 2147483647) (h : TV t ((S.put r (boxL a b)).news os) r d v m) :
    ∃ v' S', gcV S.n v ((S.put r (boxL a b)).news os) = (v', S') ∧ Lat r S S' ∧ TV t S' r d v' m := by
  have hn : (S.put r (boxL a b)).n = S.n := rfl
  obtain ⟨v', S', h1, h2, h3⟩ := gc_thing (Sx := S.put r (boxL a b)) (S1 := (S.put r (boxL a b)).news os) (k := S.n) rfl (hr.wf hS) (by rw [n_news]; omega) (by rw [old_news (show S.n ≤ (S.put r (boxL a b)).n from Nat.le_refl _)]; unfold Sto.old; simp) (hr.put hb) h (fun q o h1 h2 h3 => by rw [← h3, get_news (by simpa using h1)])
  exact ⟨v', S', h1, (Lat.put hS hr hb).trans h2, h3⟩
def oddA (q : Nat) : List Val := [.non, .bl true, .bl false, .int (-1), .int 0, .int 7, .str "0", .tup [], .ref q, .ref (q + 1), .tup [.int 0], .tup [.tup [], .tup []], .tup [.int 1, .tup []], .tup [.int 6, .tup []], .tup [.int 7, .tup []], .tup [.int 0, .tup []]]
def oddB : List Val := [.tup [.bl true, .tup []], .tup [.int 2, .tup [.tup [.int 0, .int 1, .tup [.int 0, .int 1, .int 2]]]], .tup [.tup [.int 0, .int 0], .tup [.int 0, .int 1], .tup []]]
theorem pick {xs : List Val} {j : Int} (h : 0 ≤ j ∧ j < (xs.length : Int)) : ∃ v, v ∈ xs ∧ itemAt xs j = some v := by
  have hl : j.toNat < xs.length := by omega
  exact ⟨xs[j.toNat], List.getElem_mem hl, by rw [itemAt_pos h.1, List.getElem?_eq_getElem hl]⟩
theorem ex_up {P : Val → Prop} {xs : List Val} (h : ∀ v ∈ xs, P v) {v : Val} (hv : v ∈ xs) : P v := h v hv
section
variable [Has T F_k49_more d_k49_more] [Has T F_k49_take d_k49_take] [Has T F_k49_odd d_k49_odd]
theorem sp_odd (hn : 3 ≤ n) (hS : S.wf) (hr : BoxAt S r) :
    ∃ t v S' m, callF T n F_k49_odd [.ref r] S = .ok v S' ∧ Lat r S S' ∧ TV t S' r 7 v m ∧ m ≤ 20 := by
  have hlt := hr.lt
  obtain ⟨a0, b0, hg, hb0⟩ := id hr
  obtain ⟨j, a, b, hj, hb, e⟩ := takeN (T := T) (n := n - 1) (by omega) hr (a := a0) (b := b0) hb0 (c := 19) (by omega) (by omega) [.lst [], .dct [], .lst (oddA S.n), .lst oddB, .lst (oddA S.n ++ oddB)]
  rw [up_self hg] at e
  obtain ⟨v, hv, ev⟩ := pick (xs := oddA S.n ++ oddB) (j := j) (by simp [oddA, oddB]; omega)
  have g4 : ((S.put r (boxL a b)).news [.lst [], .dct [], .lst (oddA S.n), .lst oddB, .lst (oddA S.n ++ oddB)]).get (S.n + 4) = some (.lst (oddA S.n ++ oddB)) := get_newsI (S := S.put r (boxL a b)) (j := 4) (by simp)
  have g0 : ((S.put r (boxL a b)).news [.lst [], .dct [], .lst (oddA S.n), .lst oddB, .lst (oddA S.n ++ oddB)]).get (S.n + 0) = some (.lst []) := get_newsI (S := S.put r (boxL a b)) (j := 0) (by simp)
  have g1 : ((S.put r (boxL a b)).news [.lst [], .dct [], .lst (oddA S.n), .lst oddB, .lst (oddA S.n ++ oddB)]).get (S.n + 1) = some (.dct []) := get_newsI (S := S.put r (boxL a b)) (j := 1) (by simp)
  have h2 : (S.news [.lst [], .dct [], .lst (oddA S.n), .lst oddB]).get (S.n + 2) = some (.lst (oddA S.n)) := get_newsI (j := 2) (by simp)
  have h3 : (S.news [.lst [], .dct [], .lst (oddA S.n), .lst oddB]).get (S.n + 3) = some (.lst oddB) := get_newsI (j := 3) (by simp)
  have hT : ∃ t m, TV t ((S.put r (boxL a b)).news [.lst [], .dct [], .lst (oddA S.n), .lst oddB, .lst (oddA S.n ++ oddB)]) r 7 v m ∧ m ≤ 20 := by
    by_cases z0 : v = .ref S.n
    · subst z0
      exact ⟨true, _, .lst rfl hlt g0 rfl, by simp⟩
    · by_cases z1 : v = .ref (S.n + 1)
      · subst z1
        exact ⟨false, _, .dct rfl (by omega) g1, by omega⟩
      · have : smV 7 v = true ∧ lenOk 7 v = true ∧ nV v ≤ 20 := by
          simp only [oddA, oddB, List.mem_append, List.mem_cons, List.not_mem_nil, or_false] at hv
          rcases hv with h | h
          · rcases h with h | h | h | h | h | h | h | h | h | h | h | h | h | h | h | h <;> first | exact absurd h z0 | exact absurd h z1 | (subst h; decide)
          · rcases h with h | h | h <;> (subst h; decide)
        exact ⟨true, _, .pure this.1 this.2.1, this.2.2⟩
  obtain ⟨t, m, hT, hm⟩ := hT
  obtain ⟨v', S', q1, q2, q3⟩ := end_thing hS hr hb hT
  refine ⟨t, v', S', m, ?_, q2, q3, hm⟩
  rw [call_eq (by omega) _ rfl]
  have e8 := bop_lst h2 h3 (by simp [oddA, oddB])
  have e9 := getIx_lst (i := j) g4
  rw [ev] at e9
  simp only [news_cons, news_nil, oddA, oddB, n_new] at e e8 e9 q1
  simp [d_k49_odd, cap_eq]
  simp at e8
  rw [e8]
  simp
  simp at e
  rw [e]
  simp at e9 q1
  simp [e9, q1]
end
end Mp

set_option Elab.async false
set_option linter.all false
set_option maxRecDepth 100000
set_option maxHeartbeats 3200000
/-! the third family's houses: doors between drawn rooms. -/
namespace Mp
open PySem
variable {T : Nat → Option MDef} {n : Nat} {S : Sto} {r : Nat}
theorem PenAt.news : ∀ {os : List SO} {S : Sto}, PenAt S r → PenAt (S.news os) r
  | [], S, h => h
  | u :: os, S, h => PenAt.news (os := os) h.new
section
variable [Has T F_k27_next d_k27_next] [Has T F_k27_draw d_k27_draw]
theorem sr_drawN (hn : 2 ≤ n) (hr : PenAt S r) {a f b c : Int} (hc : 0 < c) (hc2 : c < 1000000) (os : List SO) :
    ∃ d a' f' b', (0 ≤ d ∧ d < c) ∧ callF T n F_k27_draw [.ref r, .int c] ((S.put r (penL a f b)).news os) = .ok (.int d) ((S.put r (penL a' f' b')).news os) := by
  obtain ⟨d, a', f', b', h1, e⟩ := sr_draw (T := T) hn ((hr.put (a := a) (f := f) (b := b)).news (os := os)) hc hc2
  exact ⟨d, a', f', b', h1, by rw [e, put_news (by simpa using hr.lt), up_up]⟩
abbrev fEnv (r : Nat) (o2 o3 : Option Val) (rooms : Int) (q : Nat) (o6 o7 o8 : Option Val) : Env := [some (.ref r), some (.int 7), o2, o3, some (.int rooms), some (.ref q), o6, o7, o8]
/-- doors that hang the rooms together -/
theorem free_loop1 (hn : 3 ≤ n) (hr : PenAt S r) {rooms a f b : Int} {k : Nat} {o2 o3 o6 o7 o8 : Option Val} (h1 : 1 ≤ rooms) (h6 : rooms ≤ 6) :
    ∃ a' f' b' ps p2, Ends rooms ps ∧ ps.length ≤ 5 ∧ forS (callF T (n - 1)) k (.nm 2) B_k27_house_2 (.val (.rng 1 rooms)) (fEnv r o2 o3 rooms S.n o6 o7 o8) ((S.put r (penL a f b)).new (.lst [])) = .ok (.next, fEnv r p2 o3 rooms S.n o6 o7 o8) ((S.put r (penL a' f' b')).new (.lst (ps.map encP))) := by
  have hlt := hr.lt
  have hrg : rgOk 1 rooms = true := rgOk_of (by omega) (by omega) (by omega) (by omega) (by omega)
  have loop := for_next (cf := callF T (n - 1)) (k := k) (g := .nm 2) (src := .val (.rng 1 rooms)) (xs := rngL 1 rooms) (env := fEnv r o2 o3 rooms S.n o6 o7 o8) (S := (S.put r (penL a f b)).new (.lst [])) (p := B_k27_house_2)
    (fun i env S' => ∃ a f b ps p2, env = fEnv r p2 o3 rooms S.n o6 o7 o8 ∧ S' = (S.put r (penL a f b)).new (.lst (ps.map encP)) ∧ Ends rooms ps ∧ ps.length ≤ i)
    (by rw [rngL_len]; omega) (fun i env S' _ => gives_rng hrg i) ?_ ⟨a, f, b, [], o2, rfl, rfl, fun p h => (by cases h), Nat.zero_le _⟩
  · obtain ⟨env', S', e, a', f', b', ps, p2, rfl, rfl, he, hl⟩ := loop
    rw [rngL_len] at hl
    exact ⟨a', f', b', ps, p2, he, by omega, e⟩
  · rintro i x env S' hx ⟨a, f, b, ps, p2, rfl, rfl, he, hl⟩
    have hi' : i < (rngL 1 rooms).length := (List.getElem?_eq_some_iff.mp hx).1
    rw [rngL_len] at hi'
    obtain ⟨rfl, hi⟩ := rngL_get hx
    obtain ⟨d, a1, f1, b1, hd, e1⟩ := sr_drawN (T := T) (n := n - 1) (by omega) hr (a := a) (f := f) (b := b) (c := 6) (by omega) (by omega) [.lst (ps.map encP)]
    simp only [news_cons, news_nil] at e1
    have g1 : ((S.put r (penL a1 f1 b1)).new (.lst (ps.map encP))).get S.n = some (.lst (ps.map encP)) := ug_new' (by simp)
    have h7 : (ps.length : Int) < 7 := by omega
    by_cases h0 : 0 < d
    · obtain ⟨y, a2, f2, b2, hy, e2⟩ := sr_drawN (T := T) (n := n - 1) (by omega) hr (a := a1) (f := f1) (b := b1) (c := 1 + (i : Int)) (by omega) (by omega) [.lst (ps.map encP)]
      simp only [news_cons, news_nil] at e2
      have g2 : ((S.put r (penL a2 f2 b2)).new (.lst (ps.map encP))).get S.n = some (.lst (ps.map encP)) := ug_new' (by simp)
      have hf : (ps.map encP).length < 1000000 := by simp; omega
      refine ⟨fEnv r (some (.int (1 + (i : Int)))) o3 rooms S.n o6 o7 o8, (S.put r (penL a2 f2 b2)).new (.lst ((ps ++ [(y, 1 + (i : Int))]).map encP)), ?_, a2, f2, b2, _, _, rfl, rfl, fun p hp => ?_, by simp; omega⟩
      · simp [B_k27_house_2, e1, h0, len_lst g1, h7, recv_append g1, e2, append_lst g2 hf, encP, cap_eq]
      · rcases List.mem_append.mp hp with h | h
        · exact he p h
        · rw [List.mem_singleton.mp h]
          exact ⟨hy.1, hy.2, hi⟩
    · exact ⟨fEnv r (some (.int (1 + (i : Int)))) o3 rooms S.n o6 o7 o8, (S.put r (penL a1 f1 b1)).new (.lst (ps.map encP)), by simp [B_k27_house_2, e1, h0], a1, f1, b1, ps, _, rfl, rfl, he, by omega⟩
/-- more doors -/
theorem free_loop2 (hn : 3 ≤ n) (hr : PenAt S r) {rooms a f b : Int} {N : Nat} {k : Nat} {ps : List (Int × Int)} {o2 o3 o6 o7 o8 : Option Val} (h1 : 1 ≤ rooms) (h6 : rooms ≤ 6) (hN : 0 < N → 2 ≤ rooms) (hl : ps.length + N ≤ 7) (he : Ends rooms ps) :
    ∃ a' f' b' ps' p3 p6, Ends rooms ps' ∧ ps'.length ≤ 7 ∧ forS (callF T (n - 1)) k (.nm 3) B_k27_house_1 (.val (.rng 0 (N : Int))) (fEnv r o2 o3 rooms S.n o6 o7 o8) ((S.put r (penL a f b)).new (.lst (ps.map encP))) = .ok (.next, fEnv r o2 p3 rooms S.n p6 o7 o8) ((S.put r (penL a' f' b')).new (.lst (ps'.map encP))) := by
  have hlt := hr.lt
  have loop := for_next (cf := callF T (n - 1)) (k := k) (g := .nm 3) (src := .val (.rng 0 (N : Int))) (xs := rngL 0 (N : Int)) (env := fEnv r o2 o3 rooms S.n o6 o7 o8) (S := (S.put r (penL a f b)).new (.lst (ps.map encP))) (p := B_k27_house_1)
    (fun i env S' => ∃ a f b qs p3 p6, env = fEnv r o2 p3 rooms S.n p6 o7 o8 ∧ S' = (S.put r (penL a f b)).new (.lst (qs.map encP)) ∧ Ends rooms qs ∧ qs.length = ps.length + i)
    (by rw [rngL_len]; omega) (fun i env S' _ => gives_rng (rgOk_of (by omega) (by omega) (by omega) (by omega) (by omega)) i) ?_ ⟨a, f, b, ps, o3, o6, rfl, rfl, he, rfl⟩
  · obtain ⟨env', S', e, a', f', b', qs, p3, p6, rfl, rfl, he', hl'⟩ := loop
    rw [rngL_len] at hl'
    exact ⟨a', f', b', qs, p3, p6, he', by omega, e⟩
  · rintro i x env S' hx ⟨a, f, b, qs, p3, p6, rfl, rfl, he, hq⟩
    have hi' : i < (rngL 0 (N : Int)).length := (List.getElem?_eq_some_iff.mp hx).1
    rw [rngL_len] at hi'
    have h2 := hN (by omega)
    obtain ⟨d, a1, f1, b1, hd, e1⟩ := sr_drawN (T := T) (n := n - 1) (by omega) hr (a := a) (f := f) (b := b) (c := rooms - 1) (by omega) (by omega) [.lst (qs.map encP)]
    obtain ⟨y, a2, f2, b2, hy, e2⟩ := sr_drawN (T := T) (n := n - 1) (by omega) hr (a := a1) (f := f1) (b := b1) (c := rooms - 1 - d) (by omega) (by omega) [.lst (qs.map encP)]
    simp only [news_cons, news_nil] at e1 e2
    have g1 : ((S.put r (penL a1 f1 b1)).new (.lst (qs.map encP))).get S.n = some (.lst (qs.map encP)) := ug_new' (by simp)
    have g2 : ((S.put r (penL a2 f2 b2)).new (.lst (qs.map encP))).get S.n = some (.lst (qs.map encP)) := ug_new' (by simp)
    have hf : (qs.map encP).length < 1000000 := by simp; omega
    refine ⟨fEnv r o2 (some x) rooms S.n (some (.int d)) o7 o8, (S.put r (penL a2 f2 b2)).new (.lst ((qs ++ [(d, d + 1 + y)]).map encP)), ?_, a2, f2, b2, _, _, _, rfl, rfl, fun p hp => ?_, by simp; omega⟩
    · simp [B_k27_house_1, e1, recv_append g1, e2, append_lst g2 hf, encP, cap_eq]
    · rcases List.mem_append.mp hp with h | h
      · exact he p h
      · rw [List.mem_singleton.mp h]
        dsimp only
        omega
end
end Mp

set_option Elab.async false
set_option linter.all false
set_option maxRecDepth 100000
set_option maxHeartbeats 3200000
/-! the third family's houses, drawn: each key fits each door. -/
namespace Mp
open PySem
variable {T : Nat → Option MDef} {n : Nat} {S : Sto} {r : Nat}
/-- a door that each key fits -/
def encD (m : Nat) (p : Int × Int) : Val := .tup [.int p.1, .int p.2, .tup ((rangeI (m + 1)).map Val.int)]
/-- a free house -/
abbrev houseF (i : Int) (ps : List (Int × Int)) : Val := .tup [.int i, .tup (ps.map (encD ps.length))]
/-- rooms and ends of doors -/
structure Free (i : Int) (ps : List (Int × Int)) : Prop where
  lo : 1 ≤ i
  hi : i ≤ 6
  len : ps.length ≤ 7
  ends : Ends i ps
theorem rangeI_rise {m : Nat} : (rangeI m).Pairwise (· < ·) := by
  unfold rangeI
  rw [List.pairwise_map]
  exact List.pairwise_lt_range.imp fun h => by omega
theorem Free.drawn {i : Int} {ps : List (Int × Int)} (h : Free i ps) : Drawn1 i (ps.map (encD ps.length)) where
  lo := h.lo
  hi := h.hi
  len := by rw [List.length_map]; exact h.len
  each := fun d hd => by
    obtain ⟨p, hp, rfl⟩ := List.mem_map.mp hd
    obtain ⟨h1, h2, h3⟩ := h.ends p hp
    rw [List.length_map]
    exact ⟨p.1, p.2, rangeI (ps.length + 1), rfl, h1, h2, h3, rangeI_rise, fun k hk => by have := rangeI_mem.mp hk; omega, by rw [rangeI_len]; omega⟩
theorem encD_pure (m : Nat) (ps : List (Int × Int)) : pureVs (ps.map (encD m)) = true := by
  rw [pureVs_all]
  intro v hv
  obtain ⟨p, _, rfl⟩ := List.mem_map.mp hv
  simp [encD, pureV, pureVs]
theorem erase_map {α β : Type} (f : α → β) : ∀ (l : List α) (k : Nat), (l.map f).eraseIdx k = (l.eraseIdx k).map f
  | [], _ => rfl
  | _ :: _, 0 => rfl
  | x :: l, k + 1 => by simp only [List.map_cons, List.eraseIdx_cons_succ, erase_map f l k]
section
variable [Has T F_k27_next d_k27_next] [Has T F_k27_draw d_k27_draw]
abbrev gEnv (r : Nat) (o2 o3 : Option Val) (rooms : Int) (q : Nat) (o6 : Option Val) : Env := [some (.ref r), some (.int 7), o2, o3, some (.int rooms), some (.ref q), o6, some (.ref (q + 1)), some (.ref (q + 2))]
abbrev threeP (ps left found : List (Int × Int)) : List SO := [.lst (ps.map encP), .lst (left.map encP), .lst (found.map (encD ps.length))]
theorem threeP_wf (hS : S.wf) (ps left found : List (Int × Int)) : (S.news (threeP ps left found)).wf := by
  simp [hS, pures_rlt _ (encP_pure _), pures_rlt _ (encD_pure _ _)]
theorem free_loop3 (hn : 3 ≤ n) (hS : S.wf) (hr : PenAt S r) {rooms a f b : Int} {k : Nat} {ps : List (Int × Int)} {o2 o3 o6 : Option Val} (hl : ps.length ≤ 7) :
    ∃ a' f' b' qs, qs.Perm ps ∧ whlS (callF T (n - 1)) k (.gc (.cmp .ne (.var 7) (.lst .nil))) B_k27_house_0 (gEnv r o2 o3 rooms S.n o6) ((S.put r (penL a f b)).news (threeP ps ps [])) = .ok (.next, gEnv r o2 o3 rooms S.n o6) ((S.put r (penL a' f' b')).news (threeP ps [] qs)) := by
  have hlt := hr.lt
  have loop := whl_rule (cf := callF T (n - 1)) (k := k) (c := (.gc (.cmp .ne (.var 7) (.lst .nil)))) (p := B_k27_house_0) (env := gEnv r o2 o3 rooms S.n o6) (S := (S.put r (penL a f b)).news (threeP ps ps []))
    (fun m env S' => ∃ (a f b : Int) (left found : List (Int × Int)), env = gEnv r o2 o3 rooms S.n o6 ∧ S' = (S.put r (penL a f b)).news (threeP ps left found) ∧ left.length = m ∧ (found ++ left).Perm ps)
    (fun fl env S' => ∃ (a f b : Int) (found : List (Int × Int)), fl = .next ∧ env = gEnv r o2 o3 rooms S.n o6 ∧ S' = (S.put r (penL a f b)).news (threeP ps [] found) ∧ found.Perm ps)
    ?_ (m := ps.length) (by omega) ⟨a, f, b, ps, [], rfl, rfl, rfl, by simp⟩
  · obtain ⟨fl, env', S', e, a1, f1, b1, found, rfl, rfl, rfl, hpm⟩ := loop
    exact ⟨a1, f1, b1, found, hpm, e⟩
  · rintro m env S' ⟨a, f, b, left, found, rfl, rfl, rfl, hpm⟩
    have gI : ∀ (a f b : Int) (L F : List (Int × Int)), ((S.put r (penL a f b)).news (threeP ps L F)).get S.n = some (.lst (ps.map encP)) ∧ ((S.put r (penL a f b)).news (threeP ps L F)).get (S.n + 1) = some (.lst (L.map encP)) ∧ ((S.put r (penL a f b)).news (threeP ps L F)).get (S.n + 2) = some (.lst (F.map (encD ps.length))) :=
      fun a f b L F => ⟨get_newsI (S := S.put r (penL a f b)) (j := 0) (by simp), get_newsI (S := S.put r (penL a f b)) (j := 1) (by simp), get_newsI (S := S.put r (penL a f b)) (j := 2) (by simp)⟩
    have eN := gc_ne_nil (cf := callF T (n - 1)) (env := gEnv r o2 o3 rooms S.n o6) (i := 7) (threeP_wf (hr.wf hS) ps left found) (by simp) (gI a f b left found).2.1
    refine ⟨_, eN, ?_⟩
    cases left with
    | nil => exact .inl ⟨rfl, a, f, b, found, rfl, rfl, rfl, by simpa using hpm⟩
    | cons z left =>
      refine .inr ⟨rfl, .next, gEnv r o2 o3 rooms S.n o6, ?_⟩
      generalize hL' : z :: left = L at *
      have hL : 0 < L.length := by rw [← hL']; simp
      have hLM := hpm.length_eq
      rw [List.length_append] at hLM
      obtain ⟨d, a2, f2, b2, hd2, e2⟩ := sr_drawN (T := T) (n := n - 1) (by omega) hr (a := a) (f := f) (b := b) (c := (L.length : Int)) (by omega) (by omega) (threeP ps L found)
      obtain ⟨k, rfl⟩ : ∃ k : Nat, d = (k : Int) := ⟨d.toNat, by omega⟩
      have hk : k < L.length := by omega
      obtain ⟨x0, x1, x2⟩ := gI a f b L found
      obtain ⟨y0, y1, y2⟩ := gI a2 f2 b2 L found
      obtain ⟨z0, z1, z2⟩ := gI a2 f2 b2 (L.eraseIdx k) found
      have pp := pop_lst (n := k) y1 (v := encP L[k]) (by rw [List.getElem?_map, List.getElem?_eq_getElem hk]; rfl) (by simp; omega)
      have hf : (found.map (encD ps.length)).length < 1000000 := by simp; omega
      have hrg : rgOk 0 (((ps.length + 1 : Nat) : Int)) = true := rgOk_of (by omega) (by omega) (by omega) (by omega) (by omega)
      have aa := append_lst (v := encD ps.length L[k]) z2 hf
      refine ⟨(S.put r (penL a2 f2 b2)).news (threeP ps (L.eraseIdx k) (found ++ [L[k]])), ?_, (L.eraseIdx k).length, ?_, a2, f2, b2, L.eraseIdx k, found ++ [L[k]], rfl, rfl, rfl, ?_⟩
      · rw [erase_map] at pp
        have c1 : ((ps.length : Int) + 1) = ((ps.length + 1 : Nat) : Int) := by omega
        have r1 := range1 (S := (S.put r (penL a2 f2 b2)).news (threeP ps (L.eraseIdx k) found)) (show -(2 ^ 62) ≤ (((ps.length + 1 : Nat) : Int)) by omega) (show (((ps.length + 1 : Nat) : Int)) < 2 ^ 62 by omega)
        have t1 := tuple_rng (S := (S.put r (penL a2 f2 b2)).news (threeP ps (L.eraseIdx k) found)) hrg
        rw [rngL_ints] at t1
        have p1 : (((S.put r (penL a2 f2 b2)).news (threeP ps L found)).put (S.n + 1) (.lst ((L.eraseIdx k).map encP))) = (S.put r (penL a2 f2 b2)).news (threeP ps (L.eraseIdx k) found) := by simp
        have p2 : (((S.put r (penL a2 f2 b2)).news (threeP ps (L.eraseIdx k) found)).put (S.n + 2) (.lst (found.map (encD ps.length) ++ [encD ps.length L[k]]))) = (S.put r (penL a2 f2 b2)).news (threeP ps (L.eraseIdx k) (found ++ [L[k]])) := by simp
        rw [p1] at pp
        rw [p2] at aa
        have l1 := len_lst x1
        have l0 := len_lst z0
        have q1 := recv_append x2
        have q2 := recv_pop x1
        rw [List.length_map] at l1 l0
        generalize (S.put r (penL a f b)).news (threeP ps L found) = U1 at *
        generalize (S.put r (penL a2 f2 b2)).news (threeP ps L found) = U2 at *
        generalize (S.put r (penL a2 f2 b2)).news (threeP ps (L.eraseIdx k) found) = U3 at *
        rw [← c1] at r1 t1
        simp [encD] at aa
        simp [B_k27_house_0, q1, q2, l1, e2, pp, l0, cap_eq, r1, t1, encP, aa, encD]
      · rw [List.length_eraseIdx_of_lt hk]
        omega
      · refine List.Perm.trans ?_ hpm
        rw [List.append_assoc]
        exact List.Perm.append_left _ (cons_erase_perm hk)
variable [Has T F_k27_house d_k27_house]
/-- a free house of up to six rooms and seven doors -/
theorem sr_house (hn : 4 ≤ n) (hS : S.wf) (hr : PenAt S r) :
    ∃ i ps a' f' b', Free i ps ∧ callF T n F_k27_house [.ref r, .int 7] S = .ok (houseF i ps) (S.put r (penL a' f' b')) := by
  have hlt := hr.lt
  obtain ⟨a0, f0, b0, hg⟩ := id hr
  have hw : ∀ a f b, (S.put r (penL a f b)).wf := fun a f b => hr.wf hS
  obtain ⟨d0, a1, f1, b1, hd0, e0⟩ := sr_drawN (T := T) (n := n - 1) (by omega) hr (a := a0) (f := f0) (b := b0) (c := 2) (by omega) (by omega) [.lst [.int 6, .int 3]]
  rw [up_self hg] at e0
  simp only [news_cons, news_nil] at e0
  have g0 : ((S.put r (penL a1 f1 b1)).new (.lst [.int 6, .int 3])).get S.n = some (.lst [.int 6, .int 3]) := ug_new' (by simp)
  obtain ⟨w, hw0, ew⟩ : ∃ w : Int, (1 ≤ w ∧ w ≤ 6) ∧ itemAt [.int 6, .int 3] d0 = some (.int w) := by
    rcases (show d0 = 0 ∨ d0 = 1 by omega) with rfl | rfl
    · exact ⟨6, by omega, rfl⟩
    · exact ⟨3, by omega, rfl⟩
  obtain ⟨d1, a2, f2, b2, hd1, e1⟩ := sr_drawN (T := T) (n := n - 1) (by omega) hr (a := a1) (f := f1) (b := b1) (c := w) (by omega) (by omega) []
  simp only [news_nil] at e1
  obtain ⟨a3, f3, b3, ps, p2, he, hl, e2⟩ := free_loop1 (T := T) (n := n) (by omega) hr (rooms := 1 + d1) (a := a2) (f := f2) (b := b2) (k := S.n + 1) (o2 := none) (o3 := none) (o6 := none) (o7 := none) (o8 := none) (by omega) (by omega)
  obtain ⟨d3, a4, f4, b4, hd3, e3⟩ := sr_drawN (T := T) (n := n - 1) (by omega) hr (a := a3) (f := f3) (b := b3) (c := 8 - (ps.length : Int)) (by omega) (by omega) [.lst (ps.map encP)]
  simp only [news_cons, news_nil] at e3
  obtain ⟨N, hN, eN⟩ : ∃ N : Nat, d3 * (if decide (1 < 1 + d1) then 1 else 0) = (N : Int) ∧ (0 < N → 2 ≤ 1 + d1) ∧ ps.length + N ≤ 7 := by
    by_cases h1 : 1 < 1 + d1
    · exact ⟨d3.toNat, by rw [decide_eq_true h1, if_pos rfl]; omega, by omega, by omega⟩
    · exact ⟨0, by rw [decide_eq_false h1]; simp, by omega, by omega⟩
  obtain ⟨a5, f5, b5, qs, p3, p6, he2, hl2, e4⟩ := free_loop2 (T := T) (n := n) (by omega) hr (rooms := 1 + d1) (a := a4) (f := f4) (b := b4) (N := N) (k := S.n + 1) (ps := ps) (o2 := p2) (o3 := none) (o6 := none) (o7 := none) (o8 := none) (by omega) (by omega) eN.1 eN.2 he
  obtain ⟨a6, f6, b6, us, hpm, e5⟩ := free_loop3 (T := T) (n := n) (by omega) hS hr (rooms := 1 + d1) (a := a5) (f := f5) (b := b5) (k := S.n) (ps := qs) (o2 := p2) (o3 := p3) (o6 := p6) hl2
  have F : Free (1 + d1) us := ⟨by omega, by omega, by rw [hpm.length_eq]; exact hl2, fun p hp => he2 p (hpm.subset hp)⟩
  refine ⟨1 + d1, us, a6, f6, b6, F, ?_⟩
  have first : evE (callF T (n - 1)) (.gc (.ix (.lst (.cons (.int 6) (.cons (.int 3) .nil))) (.call F_k27_draw (.cons (.var 0) (.cons (.int 2) .nil))))) [some (.ref r), some (.int 7), none, none, none, none, none, none, none] S = .ok (.int w) (S.put r (penL a1 f1 b1)) := by
    refine gc_by (v := .int w) (S1 := (S.put r (penL a1 f1 b1)).new (.lst [.int 6, .int 3])) ?_ (gcf1 (by simp) (hw _ _ _) rfl)
    have e9 := getIx_lst (i := d0) g0
    rw [ew] at e9
    simp [cap_eq, e0, e9]
  have g3 : ((S.put r (penL a3 f3 b3)).new (.lst (ps.map encP))).get S.n = some (.lst (ps.map encP)) := ug_new' (by simp)
  have g5 : ((S.put r (penL a5 f5 b5)).new (.lst (qs.map encP))).get S.n = some (.lst (qs.map encP)) := ug_new' (by simp)
  have g6 : ((S.put r (penL a6 f6 b6)).news (threeP qs [] us)).get (S.n + 2) = some (.lst (us.map (encD qs.length))) := get_newsI (S := S.put r (penL a6 f6 b6)) (j := 2) (by simp)
  have l3 := len_lst g3
  have t6 := tuple_lst g6
  have t5 := list_lst g5
  rw [List.length_map] at l3
  have r1 := range2 (S := (S.put r (penL a2 f2 b2)).new (.lst [])) (show -(2 ^ 62) ≤ (1 : Int) by omega) (show (1 : Int) < 2 ^ 62 by omega) (show -(2 ^ 62) ≤ 1 + d1 by omega) (show 1 + d1 < 2 ^ 62 by omega)
  have r2 := range1 (S := (S.put r (penL a4 f4 b4)).new (.lst (ps.map encP))) (show -(2 ^ 62) ≤ (N : Int) by omega) (show (N : Int) < 2 ^ 62 by omega)
  have m1 := bop_mul (S := (S.put r (penL a4 f4 b4)).new (.lst (ps.map encP))) (mul_l (i := d3) (j := if decide (1 < 1 + d1) then 1 else 0) (by omega) (by omega))
  rw [hN] at m1
  have hv : nrs S.n (houseF (1 + d1) us) = [] := by simp [pures_nrs _ (encD_pure _ _)]
  have fin := gcf3 (S := S.put r (penL a6 f6 b6)) (v := houseF (1 + d1) us) (k := S.n) (a := .lst (qs.map encP)) (b := .lst (([] : List (Int × Int)).map encP)) (c := .lst (us.map (encD qs.length))) (by simp) (hw _ _ _) hv
  rw [call_eq (by omega) _ rfl]
  have hq := hpm.length_eq
  simp only [news_cons, news_nil, List.map_nil] at e5 t6 fin
  simp only [fEnv] at e2 e4
  simp only [gEnv] at e5
  simp only [houseF, hq] at fin ⊢
  have c8 : (7 : Int) + 1 - (ps.length : Int) = 8 - (ps.length : Int) := by omega
  simp [-gcf3, -int_bl, d_k27_house, first, e1, r1, es_for, e2, c8, l3, e3]
  rw [int_bl, bind_ok_, m1, bind_ok_, bind_ok_, r2]
  simp [-gcf3, -int_bl, e4, t5, cap_eq, es_whl, e5, t6, fin]
end
end Mp

set_option Elab.async false
set_option linter.all false
set_option maxRecDepth 100000
set_option maxHeartbeats 1600000
/-! k49: bent stands. -/
namespace Mp
open PySem
variable {T : Nat → Option MDef} {n : Nat} {S : Sto} {r : Nat}
theorem cut_sub {xs : List Val} {l h : Option Int} : (cut xs l h).Sublist xs := (List.take_sublist ..).trans (List.drop_sublist ..)
theorem cut_le {xs : List Val} {l h : Option Int} : (cut xs l h).length ≤ xs.length := cut_sub.length_le
theorem cut_mem {xs : List Val} {l h : Option Int} {v : Val} (hv : v ∈ cut xs l h) : v ∈ xs := cut_sub.subset hv
@[simp] theorem getRev_tup {xs : List Val} : getRev (.tup xs) S = .ok (.tup xs.reverse) S := id rfl
theorem TVs.sub {t : Bool} {d m : Nat} : ∀ {xs ys : List Val}, ys.Sublist xs → TVs t S r d xs m → ∃ m', m' ≤ m ∧ TVs t S r d ys m' := by
  intro xs ys h
  induction h generalizing m with
  | slnil => intro h; exact ⟨m, Nat.le_refl _, h⟩
  | cons x hs ih =>
    intro h
    cases h with
    | cons h1 h2 =>
      obtain ⟨m', h3, h4⟩ := ih h2
      exact ⟨m', by omega, h4⟩
  | cons_cons x hs ih =>
    intro h
    cases h with
    | cons h1 h2 =>
      obtain ⟨m', h3, h4⟩ := ih h2
      exact ⟨_, by omega, .cons h1 h4⟩
theorem TVs.atoms {t : Bool} {d : Nat} : ∀ {xs : List Val}, (∀ v ∈ xs, atomV v = true) → TVs t S r (d + 1) xs xs.length
  | [], _ => .nil
  | x :: xs, h => by
    rw [List.length_cons, Nat.add_comm xs.length 1]
    exact .cons (.atom (h x (List.mem_cons_self ..))) (TVs.atoms fun v hv => h v (List.mem_cons_of_mem _ hv))
theorem TV.atoms {t : Bool} {d : Nat} {xs : List Val} (h : ∀ v ∈ xs, atomV v = true) (hl : xs.length < 60) : TV t S r (d + 2) (.tup xs) (1 + xs.length) := .tup (.atoms h) hl
theorem atom_sm {d : Nat} {v : Val} (h : atomV v = true) : smV (d + 1) v = true := by cases v <;> first | exact h | cases h
theorem TV.len {t : Bool} {d m : Nat} {xs : List Val} (h : TV t S r d (.tup xs) m) : xs.length < 60 := by
  cases h with
  | atom h => cases h
  | tup h hl => exact hl
/-- rows of a stand -/
def Rows (st : List Val) : Prop := st.length = 3 ∧ ∀ v ∈ st, ∃ p : List Val, v = .tup p ∧ p.length ≤ 5 ∧ ∀ x ∈ p, atomV x = true
theorem Rows.tvs {t : Bool} {d : Nat} {st : List Val} (h : ∀ v ∈ st, ∃ p : List Val, v = .tup p ∧ p.length ≤ 5 ∧ ∀ x ∈ p, atomV x = true) : ∃ m, m ≤ 6 * st.length ∧ TVs t S r (d + 2) st m := by
  induction st with
  | nil => exact ⟨0, by simp, .nil⟩
  | cons x xs ih =>
    obtain ⟨m, h1, h2⟩ := ih fun v hv => h v (List.mem_cons_of_mem _ hv)
    obtain ⟨p, rfl, hp, hx⟩ := h x (List.mem_cons_self ..)
    exact ⟨_, by simp; omega, .cons (.atoms hx (by omega)) h2⟩
def oddW : List Val := [.int (-1), .int 0, .int 1, .int 6, .bl true, .non, .str "0", .int 4]
def oddP (p : List Val) (w : Val) (k q : Int) (f : Nat) : List Val := [.tup (cut p none (some k) ++ [w] ++ cut p (some q) none), .tup (cut p none (some (-1))), .tup (p ++ [w]), .ref f, .tup p.reverse, .tup (p ++ cut p none (some 1)), w]
def oddS (st : List Val) (x : Val) (k q : Int) : Val := .tup (cut st none (some k) ++ [x] ++ cut st (some q) none)
section
variable [Has T F_k49_more d_k49_more] [Has T F_k49_take d_k49_take] [Has T F_k49_bent_stand d_k49_bent_stand]
theorem sp_bent_stand (hn : 3 ≤ n) (hS : S.wf) (hr : BoxAt S r) {st : List Val} (hst : Rows st) :
    ∃ v S' m, callF T n F_k49_bent_stand [.ref r, .tup st] S = .ok v S' ∧ Lat r S S' ∧ TV true S' r 7 v m ∧ m ≤ 60 := by
  have hlt := hr.lt
  obtain ⟨a0, b0, hg, hb0⟩ := id hr
  obtain ⟨d1, a1, b1, hd1, hb1, e1⟩ := sp_take0 (T := T) (n := n - 1) (by omega) hr (c := 3) (by omega) (by omega)
  obtain ⟨d2, a2, b2, hd2, hb2, e2⟩ := takeN (T := T) (n := n - 1) (by omega) hr (a := a1) hb1 (c := 8) (by omega) (by omega) [.lst oddW]
  obtain ⟨w, hw, ew⟩ := pick (xs := oddW) (j := d2) (by simp [oddW]; omega)
  have haw : atomV w = true := by
    simp only [oddW, List.mem_cons, List.not_mem_nil, or_false] at hw
    rcases hw with h | h | h | h | h | h | h | h <;> (subst h; decide)
  obtain ⟨row, hrow, erow⟩ := pick (xs := st) (j := d1) (by rw [hst.1]; omega)
  obtain ⟨p, rfl, hp5, hpa⟩ := hst.2 row hrow
  obtain ⟨d3, a3, b3, hd3, hb3, e3⟩ := takeN (T := T) (n := n - 1) (by omega) hr (a := a2) hb2 (c := (p.length : Int) + 1) (by omega) (by omega) [.lst oddW]
  obtain ⟨d4, a4, b4, hd4, hb4, e4⟩ := takeN (T := T) (n := n - 1) (by omega) hr (a := a3) hb3 (c := 7) (by omega) (by omega) [.lst oddW, .lst p, .lst (oddP p w d3 (d3 + 1) (S.n + 1))]
  obtain ⟨x, hx, ex⟩ := pick (xs := oddP p w d3 (d3 + 1) (S.n + 1)) (j := d4) (by simp [oddP]; omega)
  let fin : List Val := [oddS st x d1 (d1 + 1), oddS st x d1 (d1 + 1), oddS st x d1 (d1 + 1), .ref (S.n + 3), .tup (cut st none (some 2)), .tup (st ++ [.tup []])]
  obtain ⟨d5, a5, b5, hd5, hb5, e5⟩ := takeN (T := T) (n := n - 1) (by omega) hr (a := a4) hb4 (c := 6) (by omega) (by omega) [.lst oddW, .lst p, .lst (oddP p w d3 (d3 + 1) (S.n + 1)), .lst st, .lst fin]
  obtain ⟨y, hy, ey⟩ := pick (xs := fin) (j := d5) (by simp [fin]; omega)
  have hst3 := hst.1
  have c1 : ∀ l h, (cut p l h).length ≤ 5 := fun l h => Nat.le_trans cut_le hp5
  have c2 : ∀ l h, (cut st l h).length ≤ 3 := fun l h => by have := cut_le (xs := st) (l := l) (h := h); omega
  generalize hF : (S.put r (boxL a5 b5)).news [.lst oddW, .lst p, .lst (oddP p w d3 (d3 + 1) (S.n + 1)), .lst st, .lst fin] = SF at e5
  have gF1 : SF.get (S.n + 1) = some (.lst p) := by rw [← hF]; exact get_newsI (S := S.put r (boxL a5 b5)) (j := 1) (by simp)
  have gF3 : SF.get (S.n + 3) = some (.lst st) := by rw [← hF]; exact get_newsI (S := S.put r (boxL a5 b5)) (j := 3) (by simp)
  have gF4 : SF.get (S.n + 4) = some (.lst fin) := by rw [← hF]; exact get_newsI (S := S.put r (boxL a5 b5)) (j := 4) (by simp)
  have hX : ∃ m, m ≤ 12 ∧ TV true SF r 4 x m := by
    have am : ∀ {l h v}, v ∈ cut p l h → atomV v = true := fun hv => hpa _ (cut_mem hv)
    simp only [oddP, List.mem_cons, List.not_mem_nil, or_false] at hx
    rcases hx with h | h | h | h | h | h | h
    · subst h
      have l1 := c1 none (some d3)
      have l2 := c1 (some (d3 + 1)) none
      refine ⟨_, ?_, .atoms (fun v hv => ?_) ?_⟩
      · simp; omega
      · simp only [List.mem_append, List.mem_singleton] at hv
        rcases hv with (z | z) | z
        · exact am z
        · rw [z]; exact haw
        · exact am z
      · simp; omega
    · subst h
      have l1 := c1 none (some (-1))
      exact ⟨_, by omega, .atoms (fun v hv => am hv) (by omega)⟩
    · subst h
      refine ⟨_, ?_, .atoms (fun v hv => ?_) ?_⟩
      · simp; omega
      · simp only [List.mem_append, List.mem_singleton] at hv
        rcases hv with z | z
        · exact hpa v z
        · rw [z]; exact haw
      · simp; omega
    · subst h
      refine ⟨_, ?_, .lst rfl (by omega) gF1 (List.all_eq_true.mpr fun v hv => atom_sm (d := 2) (hpa v hv))⟩
      have : ∀ l : List Val, (∀ v ∈ l, atomV v = true) → nVs l = l.length := by
        intro l
        induction l with
        | nil => intro _; rfl
        | cons x xs ih =>
          intro h
          rw [nVs_cons, ih fun v hv => h v (List.mem_cons_of_mem _ hv), List.length_cons]
          have : nV x = 1 := by
            have := h x (List.mem_cons_self ..)
            cases x <;> first | rfl | cases this
          omega
      rw [this p hpa]
      omega
    · subst h
      refine ⟨_, ?_, .atoms (fun v hv => hpa v (List.mem_reverse.mp hv)) ?_⟩
      · simp; omega
      · simp; omega
    · subst h
      have l1 := c1 none (some 1)
      refine ⟨_, ?_, .atoms (fun v hv => ?_) ?_⟩
      · simp only [List.length_append]; omega
      · rcases List.mem_append.mp hv with z | z
        · exact hpa v z
        · exact am z
      · simp only [List.length_append]; omega
    · subst h
      exact ⟨1, by omega, .atom haw⟩
  obtain ⟨mx, hmx, hX⟩ := hX
  obtain ⟨ms, hms, hs⟩ := Rows.tvs (S := SF) (r := r) (t := true) (d := 2) hst.2
  have hB : ∃ m, m ≤ 60 ∧ TV true SF r 7 (oddS st x d1 (d1 + 1)) m := by
    obtain ⟨m1, h1, t1⟩ := hs.sub (cut_sub (l := none) (h := some d1))
    obtain ⟨m2, h2, t2⟩ := hs.sub (cut_sub (l := some (d1 + 1)) (h := none))
    have l1 := c2 none (some d1)
    have l2 := c2 (some (d1 + 1)) none
    refine ⟨_, ?_, TV.up (by omega) (TV.tup ((t1.app (.cons hX .nil)).app t2) ?_)⟩
    · omega
    · simp; omega
  have hY : ∃ m, m ≤ 60 ∧ TV true SF r 7 y m := by
    simp only [fin, List.mem_cons, List.not_mem_nil, or_false] at hy
    rcases hy with h | h | h | h | h | h
    · subst h; exact hB
    · subst h; exact hB
    · subst h; exact hB
    · subst h
      have q : st.all (smV 6) = true := by
        rw [List.all_eq_true]
        intro v hv
        obtain ⟨p, rfl, _, hpa⟩ := hst.2 v hv
        simp only [smV]
        exact List.all_eq_true.mpr fun x hx => atom_sm (d := 4) (hpa x hx)
      refine ⟨_, ?_, .lst rfl (by omega) gF3 q⟩
      have : ∀ l : List Val, (∀ v ∈ l, ∃ p : List Val, v = .tup p ∧ p.length ≤ 5 ∧ ∀ x ∈ p, atomV x = true) → nVs l ≤ 6 * l.length := by
        intro l
        induction l with
        | nil => intro _; simp
        | cons x xs ih =>
          intro h
          have i1 := ih fun v hv => h v (List.mem_cons_of_mem _ hv)
          obtain ⟨p, rfl, hp, hpa⟩ := h x (List.mem_cons_self ..)
          have : ∀ l : List Val, (∀ v ∈ l, atomV v = true) → nVs l = l.length := by
            intro l
            induction l with
            | nil => intro _; rfl
            | cons x xs ih =>
              intro h
              rw [nVs_cons, ih fun v hv => h v (List.mem_cons_of_mem _ hv), List.length_cons]
              have : nV x = 1 := by
                have := h x (List.mem_cons_self ..)
                cases x <;> first | rfl | cases this
              omega
          rw [nVs_cons, nV_tup, this p hpa, List.length_cons]
          omega
      have := this st hst.2
      omega
    · subst h
      obtain ⟨m1, h1, t1⟩ := hs.sub (cut_sub (l := none) (h := some 2))
      have l1 := c2 none (some 2)
      exact ⟨_, by omega, TV.up (by omega) (TV.tup t1 (by omega))⟩
    · subst h
      refine ⟨_, ?_, TV.up (by omega) (TV.tup (hs.app (.cons (.tup .nil (by simp)) .nil)) (by simp; omega))⟩
      omega
  obtain ⟨m, hm, hY⟩ := hY
  rw [← hF] at hY
  obtain ⟨v', S', q1, q2, q3⟩ := end_thing hS hr hb5 hY
  refine ⟨v', S', m, ?_, q2, q3, hm⟩
  rw [hF] at q1
  have g2 : ((S.put r (boxL a2 b2)).news [.lst oddW]).get (S.n + 0) = some (.lst oddW) := get_newsI (S := S.put r (boxL a2 b2)) (j := 0) (by simp)
  have g4 : ((S.put r (boxL a4 b4)).news [.lst oddW, .lst p, .lst (oddP p w d3 (d3 + 1) (S.n + 1))]).get (S.n + 2) = some (.lst (oddP p w d3 (d3 + 1) (S.n + 1))) := get_newsI (S := S.put r (boxL a4 b4)) (j := 2) (by simp)
  have i2 := getIx_lst (i := d2) g2
  rw [ew] at i2
  have i4 := getIx_lst (i := d4) g4
  rw [ex] at i4
  have i5 := getIx_lst (i := d5) gF4
  rw [ey] at i5
  have hc : ∀ {a b : List Val} {S : Sto}, a.length ≤ 100 → b.length ≤ 100 → bop .add (.tup a) (.tup b) S = .ok (.tup (a ++ b)) S := fun h1 h2 => bop_cat (by omega)
  have k1 : ∀ S, bop .add (.tup (cut p none (some d3))) (.tup [w]) S = .ok (.tup (cut p none (some d3) ++ [w])) S := fun S => hc (by have := c1 none (some d3); omega) (by simp)
  have k2 : ∀ S, bop .add (.tup (cut p none (some d3) ++ [w])) (.tup (cut p (some (d3 + 1)) none)) S = .ok (.tup (cut p none (some d3) ++ [w] ++ cut p (some (d3 + 1)) none)) S := fun S => hc (by have := c1 none (some d3); simp; omega) (by have := c1 (some (d3 + 1)) none; omega)
  have k3 : ∀ S, bop .add (.tup p) (.tup [w]) S = .ok (.tup (p ++ [w])) S := fun S => hc (by omega) (by simp)
  have k4 : ∀ S, bop .add (.tup p) (.tup (cut p none (some 1))) S = .ok (.tup (p ++ cut p none (some 1))) S := fun S => hc (by omega) (by have := c1 none (some 1); omega)
  have k5 : ∀ S, bop .add (.tup (cut st none (some d1))) (.tup [x]) S = .ok (.tup (cut st none (some d1) ++ [x])) S := fun S => hc (by have := c2 none (some d1); omega) (by simp)
  have k6 : ∀ S, bop .add (.tup (cut st none (some d1) ++ [x])) (.tup (cut st (some (d1 + 1)) none)) S = .ok (.tup (cut st none (some d1) ++ [x] ++ cut st (some (d1 + 1)) none)) S := fun S => hc (by have := c2 none (some d1); simp; omega) (by have := c2 (some (d1 + 1)) none; omega)
  have k7 : ∀ S, bop .add (.tup st) (.tup [.tup []]) S = .ok (.tup (st ++ [.tup []])) S := fun S => hc (by omega) (by simp)
  simp only [news_cons, news_nil, oddW, oddP, oddS, fin, n_new, Nat.add_zero] at e2 e3 e4 e5 i2 i4 i5 hF
  rw [call_eq (by omega) _ rfl]
  simp only [d_k49_bent_stand]
  have x2 : 8 ≤ cap := by decide
  simp [-cut_to1, -cut_to2, cap_eq, e1]
  try simp at e2
  try simp at i2
  simp [-cut_to1, -cut_to2, cap_eq, e2, i2, erow]
  try simp at e3
  simp [-cut_to1, -cut_to2, cap_eq, e3, k1, k2, k3, k4]
  try simp [-cut_to1, -cut_to2] at e4
  try simp [-cut_to1, -cut_to2] at i4
  rw [e4]
  simp [-cut_to1, -cut_to2, cap_eq, i4, k5, k6, k7]
  try simp [-cut_to1, -cut_to2] at e5
  try simp [-cut_to1, -cut_to2] at i5
  rw [e5]
  simp [i5, q1]
end
end Mp

set_option Elab.async false
set_option linter.all false
set_option maxRecDepth 100000
set_option maxHeartbeats 3200000
/-! k49: bent houses. -/
namespace Mp
open PySem
variable {T : Nat → Option MDef} {n : Nat} {S : Sto} {r : Nat}
def TVb (S : Sto) (r d : Nat) (v : Val) (B : Nat) : Prop := ∃ m, m ≤ B ∧ TV true S r d v m
def TVsb (S : Sto) (r d : Nat) (vs : List Val) (B : Nat) : Prop := ∃ m, m ≤ B ∧ TVs true S r d vs m
section
variable {d A B C : Nat} {x y z : Val} {xs ys : List Val}
theorem TVb.at (h : atomV x = true) : TVb S r (d + 1) x 1 := ⟨1, Nat.le_refl _, .atom h⟩
theorem TVb.up {e : Nat} (h : TVb S r d x A) (h2 : d ≤ e) (h3 : A ≤ B) : TVb S r e x B := by obtain ⟨m, h4, h5⟩ := h; exact ⟨m, by omega, h5.up h2⟩
theorem TVb.tup (h : TVsb S r d xs A) (hl : xs.length < 60) (h2 : A + 1 ≤ B) : TVb S r (d + 1) (.tup xs) B := by obtain ⟨m, h4, h5⟩ := h; exact ⟨_, by omega, .tup h5 hl⟩
theorem TVb.two (h : TVb S r d x A) (h2 : TVb S r d y B) (h3 : A + B + 1 ≤ C) : TVb S r (d + 1) (.tup [x, y]) C := by
  obtain ⟨m, h4, h5⟩ := h
  obtain ⟨k, h6, h7⟩ := h2
  exact ⟨_, by omega, .tup (.cons h5 (.cons h7 .nil)) (by simp)⟩
theorem TVb.three {E : Nat} (h : TVb S r d x A) (h2 : TVb S r d y B) (h3 : TVb S r d z C) (h9 : A + B + C + 1 ≤ E) : TVb S r (d + 1) (.tup [x, y, z]) E := by
  obtain ⟨m, h4, h5⟩ := h
  obtain ⟨k, h6, h7⟩ := h2
  obtain ⟨j, h8, h10⟩ := h3
  exact ⟨_, by omega, .tup (.cons h5 (.cons h7 (.cons h10 .nil))) (by simp)⟩
theorem TVsb.app (h : TVsb S r d xs A) (h2 : TVsb S r d ys B) : TVsb S r d (xs ++ ys) (A + B) := by
  obtain ⟨m, h4, h5⟩ := h
  obtain ⟨k, h6, h7⟩ := h2
  exact ⟨_, by omega, h5.app h7⟩
theorem TVsb.cut {l h : Option Int} (h1 : TVsb S r d xs A) : TVsb S r d (cut xs l h) A := by
  obtain ⟨m, h4, h5⟩ := h1
  obtain ⟨k, h6, h7⟩ := h5.sub (cut_sub (l := l) (h := h))
  exact ⟨k, by omega, h7⟩
theorem TVsb.one (h : TVb S r d x A) : TVsb S r d [x] A := by obtain ⟨m, h4, h5⟩ := h; exact ⟨m + 0, by omega, .cons h5 .nil⟩
theorem TVsb.atoms (h : ∀ v ∈ xs, atomV v = true) : TVsb S r (d + 1) xs xs.length := ⟨_, Nat.le_refl _, .atoms h⟩
theorem TVb.atoms (h : ∀ v ∈ xs, atomV v = true) (hl : xs.length ≤ B) (hB : B ≤ 50) : TVb S r (d + 2) (.tup xs) (B + 1) := .tup (.atoms h) (by omega) (by omega)
end
theorem nVs_atoms : ∀ {l : List Val}, (∀ v ∈ l, atomV v = true) → nVs l = l.length := by
  intro l
  induction l with
  | nil => intro _; rfl
  | cons x xs ih =>
    intro h
    rw [nVs_cons, ih fun v hv => h v (List.mem_cons_of_mem _ hv), List.length_cons]
    have : nV x = 1 := by
      have := h x (List.mem_cons_self ..)
      cases x <;> first | rfl | cases this
    omega
/-- a door -/
def DoorP (d : Val) : Prop := ∃ (a b : Int) (p : List Val), d = .tup [.int a, .int b, .tup p] ∧ a.natAbs < 1000 ∧ b.natAbs < 1000 ∧ p.length ≤ 5 ∧ ∀ x ∈ p, atomV x = true
theorem at_int {i : Int} (h : i.natAbs < 100000) : atomV (.int i) = true := by
  simp only [atomV]
  exact decide_eq_true (Nat.lt_trans h (by decide))
theorem DoorP.tv {d : Nat} {x : Val} (h : DoorP x) : TVb S r (d + 3) x 9 := by
  obtain ⟨a, b, p, rfl, ha, hb, hp, hx⟩ := h
  exact .three (.at (at_int (by omega))) (.at (at_int (by omega))) (.atoms hx hp (by omega)) (by omega)
theorem DoorP.sm {d : Nat} {x : Val} (h : DoorP x) : smV (d + 3) x = true ∧ nV x ≤ 9 := by
  obtain ⟨a, b, p, rfl, ha, hb, hp, hx⟩ := h
  have h1 : smV (d + 2) (.tup p) = true := by
    simp only [smV]
    exact List.all_eq_true.mpr fun v hv => atom_sm (hx v hv)
  have h2 : smV (d + 2) (.int a) = true := atom_sm (d := d + 1) (at_int (by omega))
  have h3 : smV (d + 2) (.int b) = true := atom_sm (d := d + 1) (at_int (by omega))
  refine ⟨?_, ?_⟩
  · show ([Val.int a, .int b, .tup p].all (smV (d + 2))) = true
    simp only [List.all_cons, h1, h2, h3, List.all_nil, Bool.and_self]
  · simp [nVs_atoms hx]; omega
theorem smV_tup {k : Nat} {xs : List Val} : smV (k + 1) (.tup xs) = xs.all (smV k) := rfl
theorem DoorP.tvs {d : Nat} {ds : List Val} (h : ∀ x ∈ ds, DoorP x) : TVsb S r (d + 3) ds (9 * ds.length) := by
  induction ds with
  | nil => exact ⟨0, by simp, .nil⟩
  | cons x ds ih =>
    obtain ⟨m, h4, h5⟩ := (h x (List.mem_cons_self ..)).tv (S := S) (r := r) (d := d)
    obtain ⟨k, h6, h7⟩ := ih fun v hv => h v (List.mem_cons_of_mem _ hv)
    exact ⟨_, by simp; omega, .cons h5 h7⟩
def bhZ : Val := .tup [.int 0, .int 1, .tup []]
def bhA (i : Int) (doors : List Val) : List Val := [.tup [.int (i + 1), .tup doors], .tup [.int (i - 1), .tup doors], .tup [.int i, .tup (doors ++ cut doors none (some 1))], .tup [.int i, .tup (doors ++ doors)], .tup [.int i, .tup (cut doors (some 1) none)]]
def bhB (i : Int) (doors : List Val) (f : Nat) : List Val := [.ref (f + 1), .tup [.int i, .ref (f + 2)], .tup [.int i, .tup doors, .int 0], .tup [.bl true, .tup doors], .tup [.int i, .tup (doors ++ [bhZ, bhZ, bhZ, bhZ])]]
theorem bh_some {SF : Sto} {f : Nat} {i : Int} {doors : List Val} (hf : r < f) (hi : i.natAbs < 1000) (hd : doors.length ≤ 3) (hdo : ∀ x ∈ doors, DoorP x) (g1 : SF.get (f + 1) = some (.lst [.int i, .tup doors])) (g2 : SF.get (f + 2) = some (.lst doors)) :
    ∀ v ∈ bhA i doors ++ bhB i doors f, TVb SF r 7 v 100 := by
  have hD := DoorP.tvs (S := SF) (r := r) (d := 2) hdo
  have hT : TVb SF r 6 (.tup doors) 28 := .tup hD (by omega) (by omega)
  have c := cut_le (xs := doors) (l := none) (h := some 1)
  have c' := cut_le (xs := doors) (l := some 1) (h := none)
  have sm : doors.all (smV 5) = true := List.all_eq_true.mpr fun v hv => ((hdo v hv).sm (d := 2)).1
  have nn : ∀ l : List Val, (∀ x ∈ l, DoorP x) → nVs l ≤ 9 * l.length := by
    intro l
    induction l with
    | nil => intro _; simp
    | cons x xs ih =>
      intro h
      have := (h x (List.mem_cons_self ..)).sm (d := 0)
      have := ih fun v hv => h v (List.mem_cons_of_mem _ hv)
      simp; omega
  have nd := nn doors hdo
  have ai : atomV (.int i) = true := at_int (by omega)
  have hz : TVb SF r 5 bhZ 4 := .three (d := 4) (.at (by decide)) (.at (by decide)) (.tup (d := 3) (A := 0) ⟨0, by omega, .nil⟩ (by simp) (Nat.le_refl _)) (by omega)
  intro v hv
  simp only [bhA, bhB, List.mem_append, List.mem_cons, List.not_mem_nil, or_false] at hv
  rcases hv with (h | h | h | h | h) | h | h | h | h | h <;> subst h
  · exact .two (.at (at_int (by omega))) hT (by omega)
  · exact .two (.at (at_int (by omega))) hT (by omega)
  · exact .two (B := 55) (.at ai) (.tup (hD.app hD.cut) (by simp only [List.length_append]; omega) (by omega)) (by omega)
  · exact .two (B := 55) (.at ai) (.tup (hD.app hD) (by simp only [List.length_append]; omega) (by omega)) (by omega)
  · exact .two (B := 28) (.at ai) (.tup hD.cut (by omega) (by omega)) (by omega)
  · refine ⟨_, ?_, .lst rfl (by omega) g1 ?_⟩
    · simp; omega
    · show (smV 6 (.int i) && (smV 6 (.tup doors) && true)) = true
      rw [atom_sm (d := 5) ai, smV_tup, sm]
      rfl
  · refine .two (B := 28) (.at ai) ⟨_, ?_, .lst rfl (by omega) g2 sm⟩ (by omega)
    omega
  · exact .three (.at ai) hT (.at (by decide)) (by omega)
  · exact .two (.at (by decide)) hT (by omega)
  · refine .two (B := 45) (.at ai) (.tup (hD.app (.app (xs := [bhZ]) (.one hz) (.app (xs := [bhZ]) (.one hz) (.app (xs := [bhZ]) (.one hz) (.one hz))))) (by simp; omega) (by omega)) (by omega)
def bhO1 (i a b : Int) (p : List Val) : List Val := [.tup [.int b, .int a, .tup p], .tup [.int a, .int a, .tup p], .tup [.int a, .int i, .tup p], .tup [.int (-1), .int b, .tup p], .tup [.int a, .int b]]
def bhO2 (a b len : Int) (p : List Val) : List Val := [.tup [.int a, .int b, .tup (p ++ [.int (len + 2)])], .tup [.int a, .int b, .tup p.reverse], .tup [.int a, .int b, .tup (p ++ cut p (some (-1)) none)]]
def bhO3 (a b len : Int) (p : List Val) (f : Nat) : List Val := [.tup [.int a, .int b, .tup (p ++ [.int (len + 1)])], .tup [.int a, .bl true, .tup p], .ref (f + 9), .non]
def bhO (i a b len : Int) (p : List Val) (f : Nat) : List Val := bhO1 i a b p ++ [.tup [.int a, .int b, .ref (f + 6)]] ++ bhO2 a b len p ++ bhO3 a b len p f ++ [.tup [.int a, .int b, .tup [.int (-1)]]]
theorem bh_odd {SF : Sto} {f : Nat} {i a b len : Int} {p : List Val} (hf : r < f) (hi : i.natAbs < 1000) (ha : a.natAbs < 1000) (hb : b.natAbs < 1000) (hl : len.natAbs < 1000) (hp : p.length ≤ 5) (hx : ∀ x ∈ p, atomV x = true) (g1 : SF.get (f + 6) = some (.lst p)) (g2 : SF.get (f + 9) = some (.lst [.int a, .int b, .tup p])) :
    ∀ v ∈ bhO i a b len p f, TVb SF r 5 v 20 := by
  have hP : TVb SF r 4 (.tup p) 6 := .atoms hx hp (by omega)
  have ai : ∀ {d}, TVb SF r (d + 1) (.int i) 1 := .at (at_int (by omega))
  have aa : ∀ {d}, TVb SF r (d + 1) (.int a) 1 := .at (at_int (by omega))
  have ab : ∀ {d}, TVb SF r (d + 1) (.int b) 1 := .at (at_int (by omega))
  have c := cut_le (xs := p) (l := some (-1)) (h := none)
  have px : ∀ j : Int, j.natAbs < 100000 → TVb SF r 4 (.tup (p ++ [.int j])) 7 := fun j hj => .atoms (fun v hv => by
    rcases List.mem_append.mp hv with z | z
    · exact hx v z
    · rw [List.mem_singleton.mp z]; exact at_int hj) (by simp; omega) (by omega)
  have smp : p.all (smV 4) = true := List.all_eq_true.mpr fun v hv => atom_sm (d := 3) (hx v hv)
  have smp3 : p.all (smV 3) = true := List.all_eq_true.mpr fun v hv => atom_sm (d := 2) (hx v hv)
  intro v hv
  simp only [bhO, bhO1, bhO2, bhO3, List.mem_append, List.mem_cons, List.not_mem_nil, or_false] at hv
  rcases hv with (((((h | h | h | h | h) | h) | h | h | h) | h | h | h | h)) | h <;> subst h
  · exact .three ab aa hP (by omega)
  · exact .three aa aa hP (by omega)
  · exact .three aa ai hP (by omega)
  · exact .three (.at (by decide)) ab hP (by omega)
  · exact .two aa ab (by omega)
  · refine .three (C := 6) aa ab ⟨_, ?_, .lst rfl (by omega) g1 smp3⟩ (by omega)
    rw [nVs_atoms hx]; omega
  · exact .three aa ab (px _ (by omega)) (by omega)
  · exact .three (C := 6) aa ab (.atoms (fun v hv => hx v (List.mem_reverse.mp hv)) (by simpa using hp) (by omega)) (by omega)
  · exact .three (C := 11) aa ab (.atoms (fun v hv => by
      rcases List.mem_append.mp hv with z | z
      · exact hx v z
      · exact hx v (cut_mem z)) (by simp only [List.length_append]; omega) (by omega)) (by omega)
  · exact .three aa ab (px _ (by omega)) (by omega)
  · exact .three aa (.at (by decide)) hP (by omega)
  · refine ⟨_, ?_, .lst rfl (by omega) g2 ?_⟩
    · simp [nVs_atoms hx]; omega
    · show (smV 4 (.int a) && (smV 4 (.int b) && (smV 4 (.tup p) && true))) = true
      rw [atom_sm (d := 3) (at_int (i := a) (by omega)), atom_sm (d := 3) (at_int (i := b) (by omega)), smV_tup, smp3]
      rfl
  · exact .up (d := 1) (.at (by decide)) (by omega) (by omega)
  · exact .three (C := 2) aa ab (.atoms (B := 1) (fun v hv => by rw [List.mem_singleton.mp hv]; decide) (by simp) (by omega)) (by omega)
end Mp

set_option Elab.async false
set_option linter.all false
set_option maxRecDepth 100000
set_option maxHeartbeats 3200000
/-! k49: bent houses, told. -/
namespace Mp
open PySem
variable {T : Nat → Option MDef} {n : Nat} {S : Sto} {r : Nat}
theorem mul_tup2 {xs : List Val} (h : xs.length ≤ 1000) : bop .mul (.tup xs) (.int 2) S = .ok (.tup (xs ++ xs)) S := by
  cases xs with
  | nil => rfl
  | cons x xs =>
    have h' : (decide ((x :: xs).length ≤ 1000)) = true := decide_eq_true h
    simp only [bop, List.isEmpty_cons, Bool.false_and, Bool.not_false, h', Bool.false_eq_true, if_false, Bool.and_true, Bool.true_and]
    have : (List.replicate (2 : Int).toNat (x :: xs)).flatten = (x :: xs) ++ (x :: xs) := by
      show ([x :: xs, x :: xs].flatten) = _
      simp
    simp [this]
section
variable [Has T F_k49_more d_k49_more] [Has T F_k49_take d_k49_take] [Has T F_k49_bent_house d_k49_bent_house]
theorem sp_bent_house (hn : 3 ≤ n) (hS : S.wf) (hr : BoxAt S r) {i : Int} {doors : List Val} (hi : i.natAbs < 1000) (hd : doors.length ≤ 3) (hdo : ∀ x ∈ doors, DoorP x) (hk : doors.all (keyOk 11) = true) :
    ∃ v S' m, callF T n F_k49_bent_house [.ref r, .tup [.int i, .tup doors]] S = .ok v S' ∧ Lat r S S' ∧ TV true S' r 7 v m ∧ m ≤ 200 := by
  have hlt := hr.lt
  obtain ⟨a0, b0, hg, hb0⟩ := id hr
  have hc : ∀ {a b : List Val} {S : Sto}, a.length ≤ 100 → b.length ≤ 100 → bop .add (.tup a) (.tup b) S = .ok (.tup (a ++ b)) S := fun h1 h2 => bop_cat (by omega)
  have cd : ∀ l h, (cut doors l h).length ≤ 3 := fun l h => Nat.le_trans cut_le hd
  let os : List SO := [.lst (bhA i doors), .lst [.int i, .tup doors], .lst doors, .lst (bhB i doors S.n), .lst (bhA i doors ++ bhB i doors S.n)]
  have k1 : ∀ S, bop .add (.tup doors) (.tup (cut doors none (some 1))) S = .ok (.tup (doors ++ cut doors none (some 1))) S := fun S => hc (by omega) (by have := cd none (some 1); omega)
  have k2 : ∀ S, bop .mul (.tup doors) (.int 2) S = .ok (.tup (doors ++ doors)) S := fun S => mul_tup2 (by omega)
  have k3 : ∀ S, bop .add (.tup [.int i, .tup doors]) (.tup [.int 0]) S = .ok (.tup [.int i, .tup doors, .int 0]) S := fun S => hc (by simp) (by simp)
  have k4 : ∀ S, bop .mul (.tup [.tup [.int 0, .int 1, .tup []]]) (.int 4) S = .ok (.tup [bhZ, bhZ, bhZ, bhZ]) S := fun S => rfl
  have k5 : ∀ S, bop .add (.tup doors) (.tup [bhZ, bhZ, bhZ, bhZ]) S = .ok (.tup (doors ++ [bhZ, bhZ, bhZ, bhZ])) S := fun S => hc (by omega) (by simp)
  have g0 : (S.news [.lst (bhA i doors), .lst [.int i, .tup doors], .lst doors, .lst (bhB i doors S.n)]).get (S.n + 0) = some (.lst (bhA i doors)) := get_newsI (j := 0) (by simp)
  have g3 : (S.news [.lst (bhA i doors), .lst [.int i, .tup doors], .lst doors, .lst (bhB i doors S.n)]).get (S.n + 3) = some (.lst (bhB i doors S.n)) := get_newsI (j := 3) (by simp)
  have e8 := bop_lst g0 g3 (by simp [bhA, bhB])
  have eq0 : ∀ S, cop .eq (.tup doors) (.tup []) S = .ok (.bl doors.isEmpty) S := fun S => by
    rw [cop_eq_key (by show doors.all (keyOk 11) = true; exact hk) rfl]
    cases doors <;> rfl
  have fin1 : ∀ (a b : Int), (0 ≤ b ∧ b < 2147483647) → ∃ (d a' b' : Int) (v : Val), (0 ≤ b' ∧ b' < 2147483647) ∧ callF T (n - 1) F_k49_take [.ref r, .int 10] ((S.put r (boxL a b)).news os) = .ok (.int d) ((S.put r (boxL a' b')).news os) ∧ getIx (.ref (S.n + 4)) (.int d) ((S.put r (boxL a' b')).news os) = .ok v ((S.put r (boxL a' b')).news os) ∧ TVb ((S.put r (boxL a' b')).news os) r 7 v 100 := by
    intro a b hb
    obtain ⟨d, a', b', hd1, hb', e⟩ := takeN (T := T) (n := n - 1) (by omega) hr (a := a) hb (c := 10) (by omega) (by omega) os
    obtain ⟨v, hv, ev⟩ := pick (xs := bhA i doors ++ bhB i doors S.n) (j := d) (by simp [bhA, bhB]; omega)
    have g4 : ((S.put r (boxL a' b')).news os).get (S.n + 4) = some (.lst (bhA i doors ++ bhB i doors S.n)) := get_newsI (S := S.put r (boxL a' b')) (j := 4) (by simp [os])
    have g1 : ((S.put r (boxL a' b')).news os).get (S.n + 1) = some (.lst [.int i, .tup doors]) := get_newsI (S := S.put r (boxL a' b')) (j := 1) (by simp [os])
    have g2 : ((S.put r (boxL a' b')).news os).get (S.n + 2) = some (.lst doors) := get_newsI (S := S.put r (boxL a' b')) (j := 2) (by simp [os])
    refine ⟨d, a', b', v, hb', e, ?_, bh_some hlt hi hd hdo g1 g2 v hv⟩
    rw [getIx_lst g4, ev]
    rfl
  by_cases hd0 : doors = []
  · obtain ⟨d, a', b', v, hb', e, ei, hv⟩ := fin1 a0 b0 hb0
    obtain ⟨m, hm, hv⟩ := hv
    obtain ⟨v', S', q1, q2, q3⟩ := end_thing hS hr hb' hv
    refine ⟨v', S', m, ?_, q2, q3, by omega⟩
    rw [up_self hg] at e
    rw [call_eq (by omega) _ rfl]
    have eq1 : ∀ S, cop .eq (.tup doors) (.tup []) S = .ok (.bl true) S := fun S => by rw [eq0, hd0]; rfl
    simp only [os, news_cons, news_nil, bhA, bhB, n_new, Nat.add_zero] at e ei q1 e8
    simp [d_k49_bent_house, -cut_to1, -cut_from1, cap_eq, k1, k2, k3, k4, k5]
    try simp [-cut_to1, -cut_from1] at e8
    rw [e8]
    try simp [-cut_to1, -cut_from1] at e
    try simp [-cut_to1, -cut_from1] at ei
    try simp [-cut_to1, -cut_from1] at q1
    simp [-cut_to1, -cut_from1, eq1, e, ei, q1]
  · have eq1 : ∀ S, cop .eq (.tup doors) (.tup []) S = .ok (.bl false) S := fun S => by
      rw [eq0]
      cases doors with
      | nil => exact absurd rfl hd0
      | cons x xs => rfl
    obtain ⟨d1, a1, b1, hd1, hb1, e1⟩ := takeN (T := T) (n := n - 1) (by omega) hr (a := a0) hb0 (c := 3) (by omega) (by omega) os
    rw [up_self hg] at e1
    by_cases hz : d1 = 0
    · obtain ⟨d, a', b', v, hb', e, ei, hv⟩ := fin1 a1 b1 hb1
      obtain ⟨m, hm, hv⟩ := hv
      obtain ⟨v', S', q1, q2, q3⟩ := end_thing hS hr hb' hv
      refine ⟨v', S', m, ?_, q2, q3, by omega⟩
      rw [call_eq (by omega) _ rfl]
      subst hz
      simp only [os, news_cons, news_nil, bhA, bhB, n_new, Nat.add_zero] at e1 e ei q1 e8
      simp [d_k49_bent_house, -cut_to1, -cut_from1, cap_eq, k1, k2, k3, k4, k5]
      try simp [-cut_to1, -cut_from1] at e8
      rw [e8]
      try simp [-cut_to1, -cut_from1] at e1
      try simp [-cut_to1, -cut_from1] at e
      try simp [-cut_to1, -cut_from1] at ei
      try simp [-cut_to1, -cut_from1] at q1
      simp [-cut_to1, -cut_from1, eq1, e1, e, ei, q1]
    · have hpos : 0 < doors.length := List.length_pos_iff.mpr hd0
      obtain ⟨at_, a2, b2, hat, hb2, e2⟩ := takeN (T := T) (n := n - 1) (by omega) hr (a := a1) hb1 (c := (doors.length : Int)) (by omega) (by omega) os
      obtain ⟨dr, hdr, edr⟩ := pick (xs := doors) (j := at_) hat
      obtain ⟨a, b, p, rfl, ha, hb, hp, hx⟩ := hdo dr hdr
      have cp : ∀ l h, (cut p l h).length ≤ 5 := fun l h => Nat.le_trans cut_le hp
      let len : Int := (doors.length : Int)
      let os2 : List SO := [.lst (bhA i doors), .lst [.int i, .tup doors], .lst doors, .lst (bhB i doors S.n), .lst (bhA i doors ++ bhB i doors S.n), .lst (bhO1 i a b p ++ [.tup [.int a, .int b, .ref (S.n + 6)]]), .lst p, .lst (bhO2 a b len p), .lst (bhO1 i a b p ++ [.tup [.int a, .int b, .ref (S.n + 6)]] ++ bhO2 a b len p), .lst [.int a, .int b, .tup p], .lst (bhO3 a b len p S.n), .lst (bhO i a b len p S.n)]
      obtain ⟨d3, a3, b3, hd3, hb3, e3⟩ := takeN (T := T) (n := n - 1) (by omega) hr (a := a2) hb2 (c := 14) (by omega) (by omega) os2
      obtain ⟨v, hv, ev⟩ := pick (xs := bhO i a b len p S.n) (j := d3) (by simp [bhO, bhO1, bhO2, bhO3]; omega)
      have G11 : ((S.put r (boxL a3 b3)).news os2).get (S.n + 11) = some (.lst (bhO i a b len p S.n)) := get_newsI (S := S.put r (boxL a3 b3)) (j := 11) (by simp [os2])
      have G6 : ((S.put r (boxL a3 b3)).news os2).get (S.n + 6) = some (.lst p) := get_newsI (S := S.put r (boxL a3 b3)) (j := 6) (by simp [os2])
      have G9 : ((S.put r (boxL a3 b3)).news os2).get (S.n + 9) = some (.lst [.int a, .int b, .tup p]) := get_newsI (S := S.put r (boxL a3 b3)) (j := 9) (by simp [os2])
      have ei := getIx_lst (i := d3) G11
      rw [ev] at ei
      have hV := bh_odd (SF := (S.put r (boxL a3 b3)).news os2) hlt hi ha hb (show len.natAbs < 1000 by simp only [len]; omega) hp hx G6 G9 v hv
      have hD := DoorP.tvs (S := (S.put r (boxL a3 b3)).news os2) (r := r) (d := 2) hdo
      have hW : TVb ((S.put r (boxL a3 b3)).news os2) r 7 (.tup [.int i, .tup (cut doors none (some at_) ++ [v] ++ cut doors (some (at_ + 1)) none)]) 100 := by
        have l1 := cd none (some at_)
        have l2 := cd (some (at_ + 1)) none
        exact .two (B := 80) (.at (at_int (by omega))) (.tup ((hD.cut.app (.one hV)).app hD.cut) (by simp; omega) (by omega)) (by omega)
      obtain ⟨m, hm, hW⟩ := hW
      obtain ⟨v', S', q1, q2, q3⟩ := end_thing hS hr hb3 hW
      refine ⟨v', S', m, ?_, q2, q3, by omega⟩
      have j1 : ∀ S, bop .add (.tup p) (.tup [.int (len + 2)]) S = .ok (.tup (p ++ [.int (len + 2)])) S := fun S => hc (by omega) (by simp)
      have j2 : ∀ S, bop .add (.tup p) (.tup (cut p (some (-1)) none)) S = .ok (.tup (p ++ cut p (some (-1)) none)) S := fun S => hc (by omega) (by have := cp (some (-1)) none; omega)
      have j3 : ∀ S, bop .add (.tup p) (.tup [.int (len + 1)]) S = .ok (.tup (p ++ [.int (len + 1)])) S := fun S => hc (by omega) (by simp)
      have j4 : ∀ S, bop .add (.tup (cut doors none (some at_))) (.tup [v]) S = .ok (.tup (cut doors none (some at_) ++ [v])) S := fun S => hc (by have := cd none (some at_); omega) (by simp)
      have j5 : ∀ S, bop .add (.tup (cut doors none (some at_) ++ [v])) (.tup (cut doors (some (at_ + 1)) none)) S = .ok (.tup (cut doors none (some at_) ++ [v] ++ cut doors (some (at_ + 1)) none)) S := fun S => hc (by have := cd none (some at_); simp; omega) (by have := cd (some (at_ + 1)) none; omega)
      -- the lists of odd doors
      have h5 : ((S.put r (boxL a2 b2)).news (os ++ [.lst (bhO1 i a b p)])).get (S.n + 5) = some (.lst (bhO1 i a b p)) := get_newsI (S := S.put r (boxL a2 b2)) (j := 5) (by simp [os])
      have h5b : ((S.put r (boxL a2 b2)).news (os ++ [.lst (bhO1 i a b p), .lst p])).get (S.n + 5) = some (.lst (bhO1 i a b p)) := get_newsI (S := S.put r (boxL a2 b2)) (j := 5) (by simp [os])
      have r1 := recv_append h5
      have r2 := append_lst (v := .tup [.int a, .int b, .ref (S.n + 6)]) h5b (by simp [bhO1])
      let O1 := bhO1 i a b p ++ [.tup [.int a, .int b, .ref (S.n + 6)]]
      have h5c : ((S.put r (boxL a2 b2)).news (os ++ [.lst O1, .lst p, .lst (bhO2 a b len p)])).get (S.n + 5) = some (.lst O1) := get_newsI (S := S.put r (boxL a2 b2)) (j := 5) (by simp [os])
      have h7c : ((S.put r (boxL a2 b2)).news (os ++ [.lst O1, .lst p, .lst (bhO2 a b len p)])).get (S.n + 7) = some (.lst (bhO2 a b len p)) := get_newsI (S := S.put r (boxL a2 b2)) (j := 7) (by simp [os])
      have r3 := bop_lst h5c h7c (by simp [O1, bhO1, bhO2])
      have h8d : ((S.put r (boxL a2 b2)).news (os ++ [.lst O1, .lst p, .lst (bhO2 a b len p), .lst (O1 ++ bhO2 a b len p), .lst [.int a, .int b, .tup p], .lst (bhO3 a b len p S.n)])).get (S.n + 8) = some (.lst (O1 ++ bhO2 a b len p)) := get_newsI (S := S.put r (boxL a2 b2)) (j := 8) (by simp [os])
      have h10d : ((S.put r (boxL a2 b2)).news (os ++ [.lst O1, .lst p, .lst (bhO2 a b len p), .lst (O1 ++ bhO2 a b len p), .lst [.int a, .int b, .tup p], .lst (bhO3 a b len p S.n)])).get (S.n + 10) = some (.lst (bhO3 a b len p S.n)) := get_newsI (S := S.put r (boxL a2 b2)) (j := 10) (by simp [os])
      have r4 := bop_lst h8d h10d (by simp [O1, bhO1, bhO2, bhO3])
      have h11 : ((S.put r (boxL a2 b2)).news (os ++ [.lst O1, .lst p, .lst (bhO2 a b len p), .lst (O1 ++ bhO2 a b len p), .lst [.int a, .int b, .tup p], .lst (bhO3 a b len p S.n), .lst (O1 ++ bhO2 a b len p ++ bhO3 a b len p S.n)])).get (S.n + 11) = some (.lst (O1 ++ bhO2 a b len p ++ bhO3 a b len p S.n)) := get_newsI (S := S.put r (boxL a2 b2)) (j := 11) (by simp [os])
      have r5 := recv_append h11
      have r6 := append_lst (v := .tup [.int a, .int b, .tup [.int (-1)]]) h11 (by simp [O1, bhO1, bhO2, bhO3])
      rw [call_eq (by omega) _ rfl]
      simp only [os, os2, O1, len, List.cons_append, List.nil_append, news_cons, news_nil, bhA, bhB, bhO, bhO1, bhO2, bhO3, n_new, Nat.add_zero] at e1 e2 e3 ei q1 e8 r1 r2 r3 r4 r5 r6 j1 j3
      simp [d_k49_bent_house, -cut_to1, -cut_from1, cap_eq, k1, k2, k3, k4, k5]
      try simp [-cut_to1, -cut_from1] at e8
      rw [e8]
      try simp [-cut_to1, -cut_from1] at e1
      try simp [-cut_to1, -cut_from1] at e2
      simp [-cut_to1, -cut_from1, eq1, e1, hz, e2, edr, cap_eq]
      try simp [-cut_to1, -cut_from1] at r1
      try simp [-cut_to1, -cut_from1] at r2
      simp [-cut_to1, -cut_from1, r1, r2, j1, j2, cap_eq]
      try simp [-cut_to1, -cut_from1] at r3
      rw [r3]
      simp [-cut_to1, -cut_from1, j3, cap_eq]
      try simp [-cut_to1, -cut_from1] at r4
      rw [r4]
      try simp [-cut_to1, -cut_from1] at r5
      try simp [-cut_to1, -cut_from1] at r6
      simp [-cut_to1, -cut_from1, r5, r6, cap_eq]
      try simp [-cut_to1, -cut_from1] at e3
      try simp [-cut_to1, -cut_from1] at ei
      try simp [-cut_to1, -cut_from1] at q1
      rw [e3]
      simp [-cut_to1, -cut_from1, ei, j4, j5, q1, cap_eq]
end
end Mp

set_option Elab.async false
set_option linter.all false
set_option maxRecDepth 100000
set_option maxHeartbeats 3200000
/-! k49: the loops of the law. -/
namespace Mp
open PySem
variable {T : Nat → Option MDef} {n : Nat} {S S' : Sto} {r : Nat}
section
variable {t : Bool}
mutual
theorem TV.dat_on (hs : ∀ q o, r < q → S.get q = some o → S'.get q = some o) : ∀ {d m : Nat} {v : Val}, TV t S r d v m → Mp.dat S' d v = Mp.dat S d v
  | _, _, v, .atom h => by cases v <;> first | rfl | cases h
  | _, _, _, .tup h hl => by simp only [Mp.dat, TVs.dat_on hs h]
  | _, _, _, .lst (d := d) (xs := xs) ht hq hg hx => by
    have e : ∀ S : Sto, optAll (Mp.dat S d) xs = some (toDs xs) := fun S => by
      rw [toDs_map]
      exact optAll_map fun x hx2 => dat_toD d x (smV_dp d x (List.all_eq_true.mp hx x hx2))
    rw [dat_lst hg (e S), dat_lst (hs _ _ hq hg) (e S')]
  | _, _, _, .dct ht hq hg => by simp only [Mp.dat, Sto.lst, hg, hs _ _ hq hg]
  | _, _, _, .dci ht hq hg => by simp only [Mp.dat, Sto.lst, hg, hs _ _ hq hg]
theorem TVs.dat_on (hs : ∀ q o, r < q → S.get q = some o → S'.get q = some o) : ∀ {d m : Nat} {vs : List Val}, TVs t S r d vs m → optAll (Mp.dat S' d) vs = optAll (Mp.dat S d) vs
  | _, _, _, .nil => rfl
  | _, _, _, .cons h h2 => by simp only [optAll, TV.dat_on hs h, TVs.dat_on hs h2]
end
mutual
theorem TV.rdat_on (hs : ∀ q o, r < q → S.get q = some o → S'.get q = some o) : ∀ {d m : Nat} {v : Val}, TV t S r d v m → Mp.rdat S' d v = Mp.rdat S d v
  | _, _, v, .atom h => by cases v <;> first | rfl | cases h
  | _, _, _, .tup h hl => by simp only [Mp.rdat, TVs.rdat_on hs h]
  | _, _, _, .lst ht hq hg hx => by simp only [Mp.rdat, hg, hs _ _ hq hg]
  | _, _, _, .dct ht hq hg => by simp only [Mp.rdat, hg, hs _ _ hq hg, List.map_nil, optAll]
  | _, _, _, .dci ht hq hg => by simp only [Mp.rdat, hg, hs _ _ hq hg, List.map_cons, List.map_nil, optAll]
theorem TVs.rdat_on (hs : ∀ q o, r < q → S.get q = some o → S'.get q = some o) : ∀ {d m : Nat} {vs : List Val}, TVs t S r d vs m → optAll (Mp.rdat S' d) vs = optAll (Mp.rdat S d) vs
  | _, _, _, .nil => rfl
  | _, _, _, .cons h h2 => by simp only [optAll, TV.rdat_on hs h, TVs.rdat_on hs h2]
end
theorem TV.repr_on {v : Val} {m : Nat} (h : TV t S r 12 v m) (hs : ∀ q o, r < q → S.get q = some o → S'.get q = some o) : reprOf S' v = reprOf S v := by
  unfold reprOf
  rw [show Mp.dat S' deep v = Mp.dat S deep v from h.dat_on hs, show Mp.rdat S' deep v = Mp.rdat S deep v from h.rdat_on hs]
end
/-- a thing of the store -/
def Thing (S : Sto) (r : Nat) (v : Val) : Prop := ∃ t m, m ≤ 200 ∧ TV t S r 8 v m
theorem Thing.on {v : Val} (h : Thing S r v) (hs : Lat r S S') : Thing S' r v := by obtain ⟨t, m, h1, h2⟩ := h; exact ⟨t, m, h1, h2.on hs.on⟩
theorem Thing.ok {v : Val} (h : Thing S r v) : okH S v = true := by obtain ⟨t, m, h1, h2⟩ := h; exact h2.okH
theorem Thing.lt {v : Val} (h : Thing S r v) : rlt S.n v = true := okH_rlt h.ok
theorem things_lt {vs : List Val} (h : ∀ v ∈ vs, Thing S r v) : rlts S.n vs = true := by
  induction vs with
  | nil => rfl
  | cons x xs ih => simp only [rlts, (h x (List.mem_cons_self ..)).lt, ih fun v hv => h v (List.mem_cons_of_mem _ hv), Bool.and_self]
theorem Thing.repr {v : Val} (h : Thing S r v) : ∃ x, ∀ S', (∀ q o, r < q → S.get q = some o → S'.get q = some o) → reprOf S' v = some x := by
  obtain ⟨t, m, h1, h2⟩ := h
  have h3 : TV t S r 12 v m := h2.up (by omega)
  obtain ⟨x, hx⟩ := h3.repr (by omega)
  exact ⟨x, fun S' hs => by rw [h3.repr_on hs, hx]⟩
/-- a drawn house, small -/
structure House (i : Int) (doors : List Val) : Prop where
  house : houseV 3 2 (.tup [.int i, .tup doors]) = true
  few : doors.length ≤ 3
  dp : ∀ x ∈ doors, DoorP x
  key : doors.all (keyOk 11) = true
  lo : 1 ≤ i
  hi : i ≤ 6
theorem House.of {i : Int} {doors : List Val} (h : Drawn2 6 i doors) : House i doors := by
  obtain ⟨j, ds, e, h1, h2, h3, h4⟩ := house_parts h.house
  cases e
  have hl : doors.length ≤ 3 := by omega
  refine ⟨h.house, hl, fun x hx => ?_, List.all_eq_true.mpr fun x hx => ?_, h1, h2⟩
  · obtain ⟨a, b, ns, rfl, hns⟩ := h.few x hx
    have hd := List.all_eq_true.mp h4 _ hx
    simp only [doorV, Bool.and_eq_true] at hd
    obtain ⟨q1, q2, q3, q4, q5⟩ := hd
    obtain ⟨a', ea, b1, b2⟩ := among_int q1
    obtain ⟨b', eb, b3, b4⟩ := among_int q2
    cases ea
    cases eb
    refine ⟨a, b, ns.map Val.int, rfl, by omega, by omega, by simpa using hns, fun x hx => ?_⟩
    obtain ⟨e1, e2⟩ := among_ints (vs := ns.map Val.int) (lo := 0) (hi := (doors.length : Int) + 2 - 1) q4
    rw [map_intV] at e2
    obtain ⟨k, hk, rfl⟩ := List.mem_map.mp hx
    have := e2 k hk
    exact at_int (by omega)
  · obtain ⟨a, b, ns, rfl, hns⟩ := h.few x hx
    show (keyOk 10 (.int a) && (keyOk 10 (.int b) && ((ns.map Val.int).all (keyOk 9) && true))) = true
    rw [key_ints (n := 8)]
    rfl
theorem House.thing {i : Int} {doors : List Val} (h : House i doors) : Thing S r (.tup [.int i, .tup doors]) := by
  have hD := DoorP.tvs (S := S) (r := r) (d := 3) h.dp
  have h1 := h.lo
  have h2 := h.hi
  have h3 := h.few
  obtain ⟨m, hm, h⟩ : TVb S r 8 (.tup [.int i, .tup doors]) 40 := .two (B := 30) (.at (at_int (by omega))) (.tup hD (by omega) (by omega)) (by omega)
  exact ⟨true, m, by omega, h⟩
theorem House.with {i : Int} {doors : List Val} (h : House i doors) {v : Val} (hv : Thing S r v) : ∃ x, ∀ S', (∀ q o, r < q → S.get q = some o → S'.get q = some o) → reprOf S' (.tup [.tup [.int i, .tup doors], v]) = some x := by
  obtain ⟨t, m, h1, h2⟩ := hv
  have hp : smV 8 (.tup [.int i, .tup doors]) = true ∧ lenOk 8 (.tup [.int i, .tup doors]) = true ∧ nV (.tup [.int i, .tup doors]) ≤ 40 := by
    have ai := at_int (i := i) (by have := h.lo; have := h.hi; omega)
    have s1 : doors.all (smV 6) = true := List.all_eq_true.mpr fun x hx => ((h.dp x hx).sm (d := 3)).1
    have l1 : doors.all (lenOk 6) = true := List.all_eq_true.mpr fun x hx => by
      obtain ⟨a, b, p, rfl, _, _, hp, hx⟩ := h.dp x hx
      have : p.all (lenOk 4) = true := List.all_eq_true.mpr fun v hv => by
        have := hx v hv
        cases v <;> first | rfl | cases this
      show (decide (3 < 60) && (lenOk 5 (.int a) && (lenOk 5 (.int b) && ((decide (p.length < 60) && p.all (lenOk 4)) && true)))) = true
      rw [this, decide_eq_true (show p.length < 60 by omega)]
      rfl
    have nn : ∀ l : List Val, (∀ x ∈ l, DoorP x) → nVs l ≤ 9 * l.length := by
      intro l
      induction l with
      | nil => intro _; simp
      | cons x xs ih =>
        intro h
        have := (h x (List.mem_cons_self ..)).sm (d := 0)
        have := ih fun v hv => h v (List.mem_cons_of_mem _ hv)
        simp; omega
    have nd := nn doors h.dp
    have hf := h.few
    refine ⟨?_, ?_, by simp; omega⟩
    · show (smV 7 (.int i) && (doors.all (smV 6) && true)) = true
      rw [atom_sm (d := 6) ai, s1]
      rfl
    · show (decide (2 < 60) && (lenOk 7 (.int i) && ((decide (doors.length < 60) && doors.all (lenOk 6)) && true))) = true
      rw [l1, decide_eq_true (show doors.length < 60 by omega)]
      rfl
  have h3 : TV t S r 12 (.tup [.tup [.int i, .tup doors], v]) (1 + (nV (.tup [.int i, .tup doors]) + (m + 0))) := TV.up (d := 9) (by omega) (.tup (.cons (.pure hp.1 hp.2.1) (.cons h2 .nil)) (by simp))
  obtain ⟨x, hx⟩ := h3.repr (by omega)
  exact ⟨x, fun S' hs => by rw [h3.repr_on hs, hx]⟩
theorem ne_same {x : Str} : cop .ne (.str x) (.str x) S = .ok (.bl false) S := by
  rw [cop_ne_key rfl rfl]
  simp [veq]
/-- two answers, shown -/
theorem repr_two {q : Nat} {b : Bool} (h : S.get q = some (.lst [.bl b, .bl b])) : reprOf S (.ref q) = some (PyData.list (toDs [.bl b, .bl b])).shown := repr_lst h (by cases b <;> rfl) (by simp)
section
variable [Has T F_is_whole d_is_whole] [Has T F_is_among d_is_among] [Has T F_rises d_rises] [Has T F_is_door_of d_is_door_of] [Has T F_is_house_of d_is_house_of] [Has T F_are_keys d_are_keys] [Has T F_keys_of d_keys_of] [Has T F_is_pair_house d_is_pair_house] [Has T F_need_pair_house d_need_pair_house] [Has T F_are_parts d_are_parts] [Has T F_counts_of d_counts_of] [Has T F_is_stand_of_two d_is_stand_of_two] [Has T F_is_pair_stand d_is_pair_stand] [Has T F_k49_whole d_k49_whole] [Has T F_k49_is_house d_k49_is_house] [Has T F_k49_is_stand d_k49_is_stand]
/-- a turn of the first loop -/
theorem turn1 (hn : 8 ≤ n) (hS : S.wf) (hr : BoxAt S r) {v : Val} (hv : Thing S r v) {k : Nat} {o0 o1 o2 o3 o4 o5 o7 o8 o9 o10 : Option Val} :
    ∃ x b, evB (callF T n) k B_k49_law_1 [o0, o1, o2, o3, o4, o5, some v, o7, o8, o9, o10] S = .ok (.next, [o0, o1, o2, o3, o4, o5, some v, o7, some x, some (.bl b), o10]) ((S.new (.lst [.bl b, .bl b])).new (.lst [.bl b, .bl b])) := by
  obtain ⟨x, hx⟩ := hv.repr
  refine ⟨.str x, houseV 3 2 v, ?_⟩
  have e0 := hx S fun q o _ e => e
  have e1 := hx ((S.new (.lst [.bl (houseV 3 2 v), .bl (houseV 3 2 v)])).new (.lst [.bl (houseV 3 2 v), .bl (houseV 3 2 v)])) fun q o _ e => by
    have := ugt e
    rw [ug_old (by simp; omega), ug_old this]; exact e
  have c1 := sp_k49_is_house (T := T) (n := n) (by omega) hS hv.ok
  have c2 := sp_is_pair_house (T := T) (n := n) (by omega) hS hv.ok
  have r1 := repr_two (S := S.new (.lst [.bl (houseV 3 2 v), .bl (houseV 3 2 v)])) (q := S.n) (b := houseV 3 2 v) ug_new
  have r2 := repr_two (S := (S.new (.lst [.bl (houseV 3 2 v), .bl (houseV 3 2 v)])).new (.lst [.bl (houseV 3 2 v), .bl (houseV 3 2 v)])) (q := S.n + 1) (b := houseV 3 2 v) (ug_new' (by simp))
  simp [B_k49_law_1, e0, c1, c2, cap_eq, r1, r2, e1, ne_same]
/-- a turn of the second loop -/
theorem turn2 (hn : 8 ≤ n) (hS : S.wf) (hr : BoxAt S r) {i : Int} {doors : List Val} (hh : House i doors) {v : Val} (hv : Thing S r v) {k : Nat} {o0 o1 o2 o4 o5 o7 o8 o9 o10 : Option Val} :
    ∃ x y b, evB (callF T n) k B_k49_law_0 [o0, o1, o2, some (.tup [.int i, .tup doors]), o4, o5, some v, o7, o8, o9, o10] S = .ok (.next, [o0, o1, o2, some (.tup [.int i, .tup doors]), o4, o5, some v, some y, some x, some (.bl b), o10]) ((S.new (.lst [.bl b, .bl b])).new (.lst [.bl b, .bl b])) := by
  obtain ⟨x, hx⟩ := hh.with hv
  refine ⟨.str x, .ref S.n, standV2 i doors.length v, ?_⟩
  have e0 := hx S fun q o _ e => e
  have e1 := hx ((S.new (.lst [.bl (standV2 i doors.length v), .bl (standV2 i doors.length v)])).new (.lst [.bl (standV2 i doors.length v), .bl (standV2 i doors.length v)])) fun q o _ e => by
    have := ugt e
    rw [ug_old (by simp; omega), ug_old this]; exact e
  have hf := hh.few
  have c1 := sp_k49_is_stand (T := T) (n := n) (by omega) hS hv.ok (i := i) (doors := doors) (by omega)
  have c2 := sp_is_pair_stand (T := T) (n := n) (by omega) hS hv.ok (hh.thing (S := S) (r := r)).ok hh.house (by omega)
  have r1 := repr_two (S := S.new (.lst [.bl (standV2 i doors.length v), .bl (standV2 i doors.length v)])) (q := S.n) (b := standV2 i doors.length v) ug_new
  have r2 := repr_two (S := (S.new (.lst [.bl (standV2 i doors.length v), .bl (standV2 i doors.length v)])).new (.lst [.bl (standV2 i doors.length v), .bl (standV2 i doors.length v)])) (q := S.n + 1) (b := standV2 i doors.length v) (ug_new' (by simp))
  simp [B_k49_law_0, e0, c1, c2, cap_eq, r1, r2, e1, ne_same]
end
end Mp

set_option Elab.async false
set_option linter.all false
set_option maxRecDepth 100000
set_option maxHeartbeats 3200000
/-! law k01: odd things. -/
namespace Mp
open PySem
variable {T : Nat → Option MDef} {n : Nat} {S : Sto} {r : Nat}
@[simp] theorem pow_11 : bop .pow (.int 10) (.int 11) S = .ok (.int 100000000000) S := id rfl
def kA (q : Nat) : List Val := [.non, .bl true, .bl false, .int (-1), .int 0, .int 8, .int 100000000000, .str "", .str "walk", .tup [], .ref q, .ref (q + 1), .tup [.int 0, .int 0], .tup [.int 0, .int 0, .int 0], .tup [.tup [.int 0, .int 1, .tup [.int 0]]], .ref (q + 2)]
def kB (q : Nat) : List Val := [.tup [.int 1, .tup []], .tup [.int 0, .int 0, .tup []], .ref (q + 4), .tup [.tup []], .tup [.int 0, .str "0"], .tup [.non, .non, .tup []], .tup [.int 0, .tup [.int 0]], .str "lonely"]
def kO (q : Nat) : List SO := [.lst [], .dct [], .lst [.int 0], .lst (kA q), .dci [(0, .int 1)], .lst (kB q), .lst (kA q ++ kB q)]
theorem news_raw : ∀ {os : List SO} {S : Sto}, S.news os = ⟨S.n + os.length, os.reverse ++ S.l⟩
  | [], S => rfl
  | o :: os, S => by
    show (S.new o).news os = _
    rw [news_raw (os := os)]
    simp [Sto.new, Nat.add_assoc, Nat.add_comm 1]
/-- the end of a def that tells a thing: what is kept stands behind the box -/
theorem end_news {t : Bool} {a b : Int} {os : List SO} {d m : Nat} {v : Val} (hS : S.wf) (hr : BoxAt S r) (hb : 0 ≤ b ∧ b < 2147483647) (h : TV t ((S.put r (boxL a b)).news os) r d v m) :
    ∃ v' os', gcV S.n v ((S.put r (boxL a b)).news os) = (v', (S.put r (boxL a b)).news os') ∧ ((S.put r (boxL a b)).news os').wf ∧ TV t ((S.put r (boxL a b)).news os') r d v' m := by
  have hlen : S.n ≤ (S.put r (boxL a b)).n := Nat.le_refl _
  obtain ⟨v', S', h1, h2, h3, os', h4⟩ := gc_thingN (Sx := S.put r (boxL a b)) (S1 := (S.put r (boxL a b)).news os) (k := S.n) rfl (hr.wf hS) (by rw [n_news]; exact Nat.le_add_right _ _) (by rw [old_news hlen]; unfold Sto.old; simp) (hr.put hb) h
    fun q o q1 _ q3 => by rw [get_news (by simpa using q1)] at q3; exact q3
  have e : S' = (S.put r (boxL a b)).news os' := by rw [h4, news_raw]; rfl
  subst e
  exact ⟨v', os', h1, h2.wf, h3⟩
section
variable [Has T F_k01_take d_k01_take]
theorem sq_takeN (hn : 1 ≤ n) (hr : BoxAt S r) {a b c : Int} (hb : 0 ≤ b ∧ b < 2147483647) (hc : 0 < c) (hc2 : c < 1000000) (os : List SO) :
    ∃ d a' b', (0 ≤ d ∧ d < c) ∧ (0 ≤ b' ∧ b' < 2147483647) ∧ callF T n F_k01_take [.ref r, .int c] ((S.put r (boxL a b)).news os) = .ok (.int d) ((S.put r (boxL a' b')).news os) := by
  obtain ⟨d, a', b', h1, h2, e⟩ := sq_take (T := T) hn ((hr.put (a := a) hb).news (os := os)) hc hc2
  exact ⟨d, a', b', h1, h2, by rw [e, put_news (by simpa using hr.lt), up_up]⟩
variable [Has T F_k01_odd d_k01_odd]
theorem sq_odd (hn : 2 ≤ n) (hS : S.wf) (hr : BoxAt S r) : ∃ t v a b os m, callF T n F_k01_odd [.ref r] S = .ok v ((S.put r (boxL a b)).news os) ∧ (0 ≤ b ∧ b < 2147483647) ∧ ((S.put r (boxL a b)).news os).wf ∧ TV t ((S.put r (boxL a b)).news os) r 7 v m ∧ m ≤ 130 := by
  have hlt := hr.lt
  obtain ⟨a0, b0, hg, hb0⟩ := id hr
  obtain ⟨j, a, b, hj, hb, e⟩ := sq_takeN (T := T) (n := n - 1) (by omega) hr (a := a0) (b := b0) hb0 (c := 24) (by omega) (by omega) (kO S.n)
  rw [up_self hg] at e
  obtain ⟨v, hv, ev⟩ := pick (xs := kA S.n ++ kB S.n) (j := j) (by simp [kA, kB]; omega)
  have gi : ∀ (i : Nat) (o : SO), (kO S.n)[i]? = some o → ((S.put r (boxL a b)).news (kO S.n)).get (S.n + i) = some o := fun i o h => by
    rw [← h]
    exact get_newsI (S := S.put r (boxL a b)) (List.getElem?_eq_some_iff.mp h).1
  have h2 : (S.news [.lst [], .dct [], .lst [.int 0], .lst (kA S.n), .dci [(0, .int 1)], .lst (kB S.n)]).get (S.n + 3) = some (.lst (kA S.n)) := get_newsI (j := 3) (by simp)
  have h3 : (S.news [.lst [], .dct [], .lst [.int 0], .lst (kA S.n), .dci [(0, .int 1)], .lst (kB S.n)]).get (S.n + 5) = some (.lst (kB S.n)) := get_newsI (j := 5) (by simp)
  have hT : ∃ t m, TV t ((S.put r (boxL a b)).news (kO S.n)) r 7 v m ∧ m ≤ 130 := by
    by_cases z0 : v = .ref S.n
    · subst z0
      exact ⟨true, _, .lst rfl hlt (gi 0 _ rfl) rfl, by simp⟩
    · by_cases z1 : v = .ref (S.n + 1)
      · subst z1
        exact ⟨false, _, .dct rfl (by omega) (gi 1 _ rfl), by omega⟩
      · by_cases z2 : v = .ref (S.n + 2)
        · subst z2
          exact ⟨true, _, .lst rfl (by omega) (gi 2 _ rfl) rfl, by decide⟩
        · by_cases z4 : v = .ref (S.n + 4)
          · subst z4
            exact ⟨false, _, .dci rfl (by omega) (gi 4 _ rfl), by omega⟩
          · have : smV 7 v = true ∧ lenOk 7 v = true ∧ nV v ≤ 20 := by
              simp only [kA, kB, List.mem_append, List.mem_cons, List.not_mem_nil, or_false] at hv
              rcases hv with h | h
              · rcases h with h | h | h | h | h | h | h | h | h | h | h | h | h | h | h | h <;> first | exact absurd h z0 | exact absurd h z1 | exact absurd h z2 | (subst h; decide)
              · rcases h with h | h | h | h | h | h | h | h <;> first | exact absurd h z4 | (subst h; decide)
            exact ⟨true, _, .pure this.1 this.2.1, by omega⟩
  obtain ⟨t, m, hT, hm⟩ := hT
  obtain ⟨v', os', q1, q2, q3⟩ := end_news hS hr hb hT
  refine ⟨t, v', a, b, os', m, ?_, hb, q2, q3, hm⟩
  rw [call_eq (by omega) _ rfl]
  have e8 := bop_lst h2 h3 (by simp [kA, kB])
  have e9 := getIx_lst (i := j) (gi 6 _ rfl)
  rw [ev] at e9
  simp only [news_cons, news_nil, kO, kA, kB, n_new] at e e8 e9 q1
  simp [d_k01_odd, cap_eq]
  simp at e8
  rw [e8]
  simp
  simp at e
  rw [e]
  simp at e9 q1
  simp [e9, q1]
end
end Mp

set_option Elab.async false
set_option linter.all false
set_option maxRecDepth 100000
set_option maxHeartbeats 3200000
/-! law k01: spoilt things. -/
namespace Mp
open PySem
variable {T : Nat → Option MDef} {n : Nat} {S : Sto} {r : Nat}
/-- a part of a house -/
def hv : Nat → Val → Bool
  | 0, _ => false
  | k + 1, v => match v with
    | .int i => decide (i.natAbs < 1000)
    | .tup xs => decide (xs.length ≤ 8) && xs.all (hv k)
    | _ => false
theorem hv_sm : ∀ {k : Nat} {v : Val}, hv k v = true → smV k v = true ∧ lenOk k v = true
  | 0, v, h => by simp [hv] at h
  | k + 1, v, h => by
    cases v with
    | int i =>
      simp only [hv, decide_eq_true_eq] at h
      refine ⟨?_, rfl⟩
      simp only [smV, atomV, decide_eq_true_eq]
      omega
    | tup xs =>
      simp only [hv, Bool.and_eq_true, decide_eq_true_eq, List.all_eq_true] at h
      refine ⟨?_, ?_⟩
      · simp only [smV, List.all_eq_true]
        exact fun x hx => (hv_sm (h.2 x hx)).1
      · simp only [lenOk, Bool.and_eq_true, decide_eq_true_eq, List.all_eq_true]
        exact ⟨by omega, fun x hx => (hv_sm (h.2 x hx)).2⟩
    | _ => simp [hv] at h
theorem hv_tv {t : Bool} {k e : Nat} {v : Val} (h : hv k v = true) (he : k ≤ e) : TV t S r e v (nV v) := (TV.pure (hv_sm h).1 (hv_sm h).2).up he
theorem hv_tvs {t : Bool} {k e : Nat} (he : k ≤ e) : ∀ {xs : List Val}, (∀ x ∈ xs, hv k x = true) → TVs t S r e xs (nVs xs)
  | [], _ => .nil
  | x :: xs, h => .cons (hv_tv (h x (List.mem_cons_self ..)) he) (hv_tvs he fun y hy => h y (List.mem_cons_of_mem _ hy))
theorem news_news : ∀ {os os2 : List SO} {S : Sto}, (S.news os).news os2 = S.news (os ++ os2)
  | [], os2, S => rfl
  | o :: os, os2, S => by rw [news_cons, news_news, List.cons_append, news_cons]
theorem news_put {a b c d : Int} {os os2 : List SO} (h : r < S.n) : (((S.put r (boxL a b)).news os).put r (boxL c d)).news os2 = (S.put r (boxL c d)).news (os ++ os2) := by
  rw [put_news (by simpa using h), up_up, news_news]
theorem nVs_split {xs : List Val} {k : Nat} (h : k < xs.length) : nVs xs = nVs (xs.take k) + nV xs[k] + nVs (xs.drop (k + 1)) := by
  have e : xs = xs.take k ++ (xs[k] :: xs.drop (k + 1)) := by rw [← List.drop_eq_getElem_cons h, List.take_append_drop]
  have app : ∀ a b : List Val, nVs (a ++ b) = nVs a + nVs b := fun a b => by
    induction a with
    | nil => simp
    | cons x a ih => simp [ih, Nat.add_assoc]
  conv => lhs; rw [e, app, nVs_cons]
  omega
section
variable [Has T F_k01_spoilt d_k01_spoilt]
theorem spoilt_end {t : Bool} {what v : Val} {a b : Int} {os : List SO} {d m : Nat} {env : Env} (hn : 1 ≤ n) (hS : S.wf) (hr : BoxAt S r) (hb : 0 ≤ b ∧ b < 2147483647) (hT : TV t ((S.put r (boxL a b)).news os) r d v m)
    (e : evB (callF T (n - 1)) S.n d_k01_spoilt.body [some (.ref r), some what, none, none] S = .ok (.ret v, env) ((S.put r (boxL a b)).news os)) :
    ∃ v' os', callF T n F_k01_spoilt [.ref r, what] S = .ok v' ((S.put r (boxL a b)).news os') ∧ ((S.put r (boxL a b)).news os').wf ∧ TV t ((S.put r (boxL a b)).news os') r d v' m := by
  obtain ⟨v', os', q1, q2, q3⟩ := end_news hS hr hb hT
  refine ⟨v', os', ?_, q2, q3⟩
  rw [call_eq (by omega) _ rfl]
  have e2 : evB (callF T (n - 1)) S.n d_k01_spoilt.body (([.ref r, what] : List Val).map some ++ List.replicate (d_k01_spoilt.N.length - 2) none) S = .ok (.ret v, env) ((S.put r (boxL a b)).news os) := e
  show R.bind (evB (callF T (n - 1)) S.n d_k01_spoilt.body (([.ref r, what] : List Val).map some ++ List.replicate (d_k01_spoilt.N.length - 2) none) S) _ = _
  rw [e2, bind_ok_]
  show retOf true S.n (.ret v, env) _ = _
  rw [ret_ret, q1]
variable [Has T F_k01_take d_k01_take] [Has T F_k01_odd d_k01_odd]
/-- what a call of spoilt tells -/
def Told (T : Nat → Option MDef) (n : Nat) (S : Sto) (r D : Nat) (what : Val) : Prop :=
  ∃ t v a b os m, callF T n F_k01_spoilt [.ref r, what] S = .ok v ((S.put r (boxL a b)).news os) ∧ (0 ≤ b ∧ b < 2147483647) ∧ ((S.put r (boxL a b)).news os).wf ∧ TV t ((S.put r (boxL a b)).news os) r (D + 6) v m ∧ m ≤ 2 * nV what + 140
theorem told_of {t : Bool} {what v : Val} {a b : Int} {os : List SO} {D m : Nat} {env : Env} (hn : 1 ≤ n) (hS : S.wf) (hr : BoxAt S r) (hb : 0 ≤ b ∧ b < 2147483647) (hm : m ≤ 2 * nV what + 140) (hT : TV t ((S.put r (boxL a b)).news os) r (D + 6) v m)
    (e : evB (callF T (n - 1)) S.n d_k01_spoilt.body [some (.ref r), some what, none, none] S = .ok (.ret v, env) ((S.put r (boxL a b)).news os)) : Told T n S r D what := by
  obtain ⟨v', os', q1, q2, q3⟩ := spoilt_end hn hS hr hb hT e
  exact ⟨t, v', a, b, os', m, q1, hb, q2, q3, hm⟩
/-- a number -/
theorem spoilt_int (hn : 3 ≤ n) (hS : S.wf) (hr : BoxAt S r) {D : Nat} (hD : 1 ≤ D) {i : Int} (hi : i.natAbs < 1000) : Told T n S r D (.int i) := by
  have hlt := hr.lt
  obtain ⟨d, a1, b1, hd, hb1, e1⟩ := sq_take (T := T) (n := n - 1) (by omega) hr (c := 3) (by omega) (by omega)
  by_cases h0 : 0 < d
  · obtain ⟨j, a2, b2, hj, hb2, e2⟩ := sq_takeN (T := T) (n := n - 1) (by omega) hr (a := a1) hb1 (c := 5) (by omega) (by omega) [.lst [.int (i + 1), .int (i - 1), .int (0 - i), .int (i + 9), .int 100000000000]]
    obtain ⟨v, hv, ev⟩ := pick (xs := [.int (i + 1), .int (i - 1), .int (0 - i), .int (i + 9), .int 100000000000]) (j := j) (by simp; omega)
    have g : ((S.put r (boxL a2 b2)).new (.lst [.int (i + 1), .int (i - 1), .int (0 - i), .int (i + 9), .int 100000000000])).get S.n = some (.lst [.int (i + 1), .int (i - 1), .int (0 - i), .int (i + 9), .int 100000000000]) := ug_new' (by simp)
    have at_ : atomV v = true := by
      simp only [List.mem_cons, List.not_mem_nil, or_false] at hv
      rcases hv with rfl | rfl | rfl | rfl | rfl <;> (simp only [atomV, decide_eq_true_eq]; omega)
    refine told_of (t := true) (v := v) (a := a2) (b := b2) (os := [.lst [.int (i + 1), .int (i - 1), .int (0 - i), .int (i + 9), .int 100000000000]]) (m := 1) (env := [some (.ref r), some (.int i), none, none]) (by omega) hS hr hb2 (by simp) (.atom at_) ?_
    simp only [news_cons, news_nil] at e2
    simp [d_k01_spoilt, isTy, e1, h0, cap_eq]
    simp at e2
    rw [e2]
    have g' := getIx_lst (i := j) g
    rw [ev] at g'
    simp at g'
    simp [g']
  · obtain ⟨t, v, a2, b2, os, m, eo, hb2, wf2, hT, hm⟩ := sq_odd (T := T) (n := n - 1) (by omega) (hr.wf hS (a := a1) (b := b1)) (hr.put (a := a1) hb1)
    rw [up_up] at eo wf2 hT
    refine told_of (t := t) (v := v) (a := a2) (b := b2) (os := os) (m := m) (env := [some (.ref r), some (.int i), none, none]) (by omega) hS hr hb2 (by simp; omega) (hT.up (by omega)) ?_
    simp [d_k01_spoilt, isTy, e1, h0, eo]
/-- nothing -/
theorem spoilt_nil (hn : 3 ≤ n) (hS : S.wf) (hr : BoxAt S r) {D : Nat} (hD : 1 ≤ D) : Told T n S r D (.tup []) := by
  obtain ⟨t, v, a2, b2, os, m, eo, hb2, wf2, hT, hm⟩ := sq_odd (T := T) (n := n - 1) (by omega) hS hr
  refine told_of (t := t) (v := v) (a := a2) (b := b2) (os := os) (m := m) (env := [some (.ref r), some (.tup []), none, none]) (by omega) hS hr hb2 (by simp; omega) (hT.up (by omega)) ?_
  simp [d_k01_spoilt, isTy, cop, eqB, cap_eq, eo]
end
end Mp

set_option Elab.async false
set_option linter.all false
set_option maxRecDepth 100000
set_option maxHeartbeats 3200000
/-! law k01: spoilt tuples. -/
namespace Mp
open PySem
variable {T : Nat → Option MDef} {n : Nat} {S : Sto} {r : Nat}
@[simp] theorem cop_eq_tnil {xs : List Val} : cop .eq (.tup xs) (.tup []) S = .ok (.bl xs.isEmpty) S := id rfl
theorem news_snoc {o : SO} {os : List SO} : (S.news os).new o = S.news (os ++ [o]) := by rw [← news_news]; rfl
section
variable [Has T F_k01_spoilt d_k01_spoilt] [Has T F_k01_take d_k01_take] [Has T F_k01_odd d_k01_odd]
theorem spoilt_tup (hn : 4 ≤ n) (hS : S.wf) (hr : BoxAt S r) {D : Nat} {xs : List Val} (hne : xs ≠ []) (hx : hv (D + 1) (.tup xs) = true) (ih : ∀ {S : Sto} {x : Val}, S.wf → BoxAt S r → hv D x = true → Told T (n - 1) S r D x) : Told T n S r (D + 1) (.tup xs) := by
  have hlt := hr.lt
  simp only [hv, Bool.and_eq_true, decide_eq_true_eq, List.all_eq_true] at hx
  obtain ⟨hlen, hall⟩ := hx
  have hpos : 0 < xs.length := List.length_pos_iff.mpr hne
  have hemp : xs.isEmpty = false := by cases xs with
    | nil => exact absurd rfl hne
    | cons x xs => rfl
  obtain ⟨k', a1, b1, hk', hb1, e1⟩ := sq_take (T := T) (n := n - 1) (by omega) hr (c := (xs.length : Int)) (by omega) (by omega)
  obtain ⟨k, rfl⟩ : ∃ k : Nat, k' = (k : Int) := ⟨k'.toNat, by omega⟩
  have hk : k < xs.length := by omega
  obtain ⟨h, a2, b2, hh, hb2, e2⟩ := sq_takeP (T := T) (n := n - 1) (by omega) hr (a := a1) hb1 (c := 8) (by omega) (by omega)
  have c1 : cut xs none (some (k : Int)) = xs.take k := cut_to
  have c2 : cut xs (some ((k : Int) + 1)) none = xs.drop (k + 1) := cut_from (n := k + 1)
  have ix : itemAt xs (k : Int) = some xs[k] := by rw [itemAt_nat, List.getElem?_eq_getElem hk]
  have hxk := hall xs[k] (List.getElem_mem hk)
  have hD : 1 ≤ D := by
    cases D with
    | zero => simp [hv] at hxk
    | succ D => omega
  have split := nVs_split hk
  have tk : ∀ {t : Bool} {S : Sto}, TVs t S r (D + 6) (xs.take k) (nVs (xs.take k)) := hv_tvs (by omega) fun y hy => hall y (List.mem_of_mem_take hy)
  have dk : ∀ {t : Bool} {S : Sto}, TVs t S r (D + 6) (xs.drop (k + 1)) (nVs (xs.drop (k + 1))) := hv_tvs (by omega) fun y hy => hall y (List.mem_of_mem_drop hy)
  have cat : ∀ {S : Sto} {ys : List Val}, ys.length ≤ 8 → bop .add (.tup (xs.take k)) (.tup ys) S = .ok (.tup (xs.take k ++ ys)) S ∧ bop .add (.tup (xs.take k ++ ys)) (.tup (xs.drop (k + 1))) S = .ok (.tup (xs.take k ++ ys ++ xs.drop (k + 1))) S := fun {S ys} hy =>
    ⟨bop_cat (by simp; omega), bop_cat (by simp; omega)⟩
  have short : ∀ {ys : List Val}, ys.length ≤ 8 → (xs.take k ++ ys ++ xs.drop (k + 1)).length < 60 := fun hy => by simp; omega
  have p2 : partOf (.var 2) (.int (k : Int)) = some (some (k : Int)) := rfl
  have p3 : partOf (.bin .add (.var 2) (.int 1)) (.int ((k : Int) + 1)) = some (some ((k : Int) + 1)) := rfl
  have wf2 := hr.wf hS (a := a2) (b := b2)
  have bx2 := hr.put (a := a2) hb2
  by_cases h3 : 3 < h
  · obtain ⟨t, w, a3, b3, os, m, es, hb3, wf3, hT, hm⟩ := ih wf2 bx2 hxk
    rw [up_up] at es wf3 hT
    refine told_of (t := t) (v := .tup (xs.take k ++ [w] ++ xs.drop (k + 1))) (a := a3) (b := b3) (os := os) (m := 1 + (nVs (xs.take k) + (m + 0) + nVs (xs.drop (k + 1)))) (env := [some (.ref r), some (.tup xs), some (.int (k : Int)), some (.int h)]) (by omega) hS hr hb3 (by simp only [nV_tup]; omega) (.tup ((tk.app (.cons hT .nil)).app dk) (short (by simp))) ?_
    obtain ⟨q1, q2⟩ := cat (S := (S.put r (boxL a3 b3)).news os) (ys := [w]) (by simp)
    generalize xs.take k ++ [w] ++ xs.drop (k + 1) = V at q2 ⊢
    generalize xs.take k ++ [w] = U at q1 q2
    simp [d_k01_spoilt, isTy, hemp, cap_eq, e1, e2, h3, p2, p3, c1, c2, ix, es, q1, q2]
  · by_cases h0 : h = 0
    · obtain ⟨j, a3, b3, hj, hb3, e3⟩ := sq_takeN (T := T) (n := n - 1) (by omega) hr (a := a2) hb2 (c := 3) (by omega) (by omega) [.lst xs, .lst [.ref S.n, .tup xs.reverse, .tup [.tup xs]]]
      obtain ⟨v, hvm, ev⟩ := pick (xs := [.ref S.n, .tup xs.reverse, .tup [.tup xs]]) (j := j) (by simp; omega)
      have g0 : ((S.put r (boxL a3 b3)).news [.lst xs, .lst [.ref S.n, .tup xs.reverse, .tup [.tup xs]]]).get (S.n + 0) = some (.lst xs) := get_newsI (S := S.put r (boxL a3 b3)) (j := 0) (by simp)
      have g1 : ((S.put r (boxL a3 b3)).news [.lst xs, .lst [.ref S.n, .tup xs.reverse, .tup [.tup xs]]]).get (S.n + 1) = some (.lst [.ref S.n, .tup xs.reverse, .tup [.tup xs]]) := get_newsI (S := S.put r (boxL a3 b3)) (j := 1) (by simp)
      have hT : TV true ((S.put r (boxL a3 b3)).news [.lst xs, .lst [.ref S.n, .tup xs.reverse, .tup [.tup xs]]]) r (D + 1 + 6) v (match v with
          | .ref _ => 1 + nVs xs
          | v => nV v) ∧ (match v with
          | .ref _ => 1 + nVs xs
          | v => nV v) ≤ 2 * nV (.tup xs) + 140 := by
        simp only [List.mem_cons, List.not_mem_nil, or_false] at hvm
        rcases hvm with rfl | rfl | rfl
        · refine ⟨.lst (d := D + 6) rfl hlt g0 ?_, by simp; omega⟩
          rw [List.all_eq_true]
          exact fun x hx => smV_up _ _ x (by omega) (hv_sm (hall x hx)).1
        · refine ⟨hv_tv (k := D + 1) ?_ (by omega), by simp [nVs_rev]; omega⟩
          simp only [hv, Bool.and_eq_true, decide_eq_true_eq, List.all_eq_true, List.length_reverse]
          exact ⟨hlen, fun x hx => hall x (List.mem_reverse.mp hx)⟩
        · refine ⟨hv_tv (k := D + 2) ?_ (by omega), by simp; omega⟩
          simp only [hv, Bool.and_eq_true, decide_eq_true_eq, List.all_eq_true, List.mem_singleton, List.length_singleton]
          exact ⟨by omega, fun x hx => by subst hx; simp only [Bool.and_eq_true, decide_eq_true_eq, List.all_eq_true]; exact ⟨hlen, hall⟩⟩
      refine told_of (t := true) (v := v) (a := a3) (b := b3) (os := [.lst xs, .lst [.ref S.n, .tup xs.reverse, .tup [.tup xs]]]) (env := [some (.ref r), some (.tup xs), some (.int (k : Int)), some (.int h)]) (by omega) hS hr hb3 hT.2 hT.1 ?_
      have g' := getIx_lst (i := j) g1
      rw [ev] at g'
      subst h0
      simp only [news_cons, news_nil] at e3 g'
      simp [d_k01_spoilt, isTy, hemp, cap_eq, e1, e2, getRev]
      simp at e3 g'
      rw [e3]
      simp [g']
    · obtain ⟨t, w, a3, b3, os, m, eo, hb3, wf3, hT, hm⟩ := sq_odd (T := T) (n := n - 1) (by omega) wf2 bx2
      rw [up_up] at eo wf3 hT
      let L : List Val := [.tup [], .tup [w], .tup [xs[k], xs[k]]]
      have gL : (((S.put r (boxL a3 b3)).news os).new (.lst L)).get ((S.put r (boxL a3 b3)).news os).n = some (.lst L) := ug_new
      obtain ⟨ys, m2, hys, hy8, hTy, hm2⟩ : ∃ ys m2, itemAt L (h - 1) = some (.tup ys) ∧ ys.length ≤ 8 ∧ TVs t (((S.put r (boxL a3 b3)).news os).new (.lst L)) r (D + 6) ys m2 ∧ m2 ≤ 2 * nV xs[k] + 130 := by
        have hTn := hT.new (o := .lst L)
        have hx8 : TV t (((S.put r (boxL a3 b3)).news os).new (.lst L)) r (D + 6) xs[k] (nV xs[k]) := hv_tv hxk (by omega)
        rcases (show h = 1 ∨ h = 2 ∨ h = 3 by omega) with rfl | rfl | rfl
        · exact ⟨[], 0, rfl, by simp, .nil, by omega⟩
        · exact ⟨[w], _, rfl, by simp, .cons (hTn.up (by omega)) .nil, by omega⟩
        · exact ⟨[xs[k], xs[k]], _, rfl, by simp, .cons hx8 (.cons hx8 .nil), by omega⟩
      have hTv : TV t ((S.put r (boxL a3 b3)).news (os ++ [.lst L])) r (D + 1 + 6) (.tup (xs.take k ++ ys ++ xs.drop (k + 1))) (1 + (nVs (xs.take k) + m2 + nVs (xs.drop (k + 1)))) := by
        rw [← news_snoc]
        exact .tup ((tk.app hTy).app dk) (short hy8)
      refine told_of (t := t) (v := .tup (xs.take k ++ ys ++ xs.drop (k + 1))) (a := a3) (b := b3) (os := os ++ [.lst L]) (env := [some (.ref r), some (.tup xs), some (.int (k : Int)), some (.int h)]) (by omega) hS hr hb3 (by simp only [nV_tup]; omega) hTv ?_
      have g' := getIx_lst (i := h - 1) gL
      rw [hys, of_some_] at g'
      obtain ⟨q1, q2⟩ := cat (S := ((S.put r (boxL a3 b3)).news os).new (.lst L)) (ys := ys) hy8
      rw [← news_snoc]
      have hL : ([.tup [], .tup [w], .tup [xs[k], xs[k]]] : List Val) = L := rfl
      have hL3 : L.length ≤ 1000000 := by show 3 ≤ 1000000; omega
      clear_value L
      generalize xs.take k ++ ys ++ xs.drop (k + 1) = V at q2 ⊢
      generalize xs.take k ++ ys = U at q1 q2
      simp [d_k01_spoilt, isTy, hemp, cap_eq, e1, e2, h3, h0, p2, p3, c1, c2, ix, eo, hL, hL3, g', q1, q2]
/-- a part of a house, spoilt -/
theorem sq_spoilt : ∀ {D n : Nat} {S : Sto} {x : Val}, D + 4 ≤ n → S.wf → BoxAt S r → hv D x = true → Told T n S r D x
  | 0, n, S, x, hn, hS, hr, hx => by simp [hv] at hx
  | D + 1, n, S, x, hn, hS, hr, hx => by
    cases x with
    | int i =>
      simp only [hv, decide_eq_true_eq] at hx
      exact spoilt_int (by omega) hS hr (by omega) hx
    | tup xs =>
      by_cases he : xs = []
      · subst he; exact spoilt_nil (by omega) hS hr (by omega)
      · exact spoilt_tup (by omega) hS hr he hx fun hS hr hx => sq_spoilt (by omega) hS hr hx
    | _ => simp [hv] at hx
end
end Mp

set_option Elab.async false
set_option linter.all false
set_option maxRecDepth 100000
set_option maxHeartbeats 3200000
/-! law k01: the state, who is free, drawn houses as things. -/
namespace Mp
open PySem
variable {T : Nat → Option MDef} {n : Nat} {S : Sto} {r : Nat}
@[simp] theorem pow_18 : bop .pow (.int 10) (.int 18) S = .ok (.int 1000000000000000000) S := id rfl
section
variable [Has T F_k01_cell_at d_k01_cell_at]
theorem sq_cell (hn : 1 ≤ n) {ns : List Int} {k : Nat} : ∃ c, callF T n F_k01_cell_at [.fl (ns.map Val.int), .int (k : Int)] S = .ok (.int c) S := by
  by_cases h : k < ns.length
  · refine ⟨ns[k], ?_⟩
    have e : itemAt (ns.map Val.int) (k : Int) = some (.int ns[k]) := by rw [itemAt_nat, List.getElem?_map, List.getElem?_eq_getElem h]; rfl
    rw [call_eq (by omega) _ rfl]
    simp [d_k01_cell_at, h, e]
  · refine ⟨0, ?_⟩
    rw [call_eq (by omega) _ rfl]
    simp [d_k01_cell_at, h]
variable [Has T F_k01_state d_k01_state]
theorem sq_state (hn : 2 ≤ n) (hS : S.wf) {ns : List Int} {k : Nat} : ∃ a b, (0 ≤ b ∧ b < 2147483647) ∧ callF T n F_k01_state [.fl (ns.map Val.int), .int (k : Int)] S = .ok (.ref S.n) (S.new (boxL a b)) := by
  obtain ⟨c, e⟩ := sq_cell (T := T) (n := n - 1) (S := S) (by omega) (ns := ns) (k := k)
  refine ⟨if 1000000000000000000 < c then c - 1000000000000000000 else 0, c % 2147483647, ⟨Int.emod_nonneg _ (by omega), Int.emod_lt_of_pos _ (by omega)⟩, ?_⟩
  rw [call_eq (by omega) _ rfl]
  have g := gcr1_0 (S := S) (k := S.n) (r := S.n) (a := boxL (if 1000000000000000000 < c then c - 1000000000000000000 else 0) (c % 2147483647)) rfl hS rfl (by simp)
  simp [d_k01_state, e, bop_mod, cap_eq]
  rw [g]
  exact ⟨rfl, rfl⟩
end
theorem Drawn1.hv {i : Int} {doors : List Val} (h : Drawn1 i doors) : hv 5 (.tup [.int i, .tup doors]) = true := by
  have hi := h.lo
  have hi2 := h.hi
  have hl := h.len
  have each : ∀ d ∈ doors, Mp.hv 3 d = true := fun d hd => by
    obtain ⟨a, b, ns, rfl, h1, h2, h3, _, h5, h6⟩ := h.each d hd
    simp only [Mp.hv, List.all_cons, List.all_nil, Bool.and_true, Bool.and_eq_true, decide_eq_true_eq, List.length_cons, List.length_nil, List.length_map, List.all_eq_true]
    refine ⟨by omega, by omega, by omega, by omega, fun x hx => ?_⟩
    obtain ⟨k, hk, rfl⟩ := List.mem_map.mp hx
    have := h5 k hk
    simp only [decide_eq_true_eq]
    omega
  have up : ∀ {v : Val}, Mp.hv 3 v = true → Mp.hv 3 v = true := fun h => h
  simp only [Mp.hv, List.all_cons, List.all_nil, Bool.and_true, Bool.and_eq_true, decide_eq_true_eq, List.length_cons, List.length_nil, List.all_eq_true]
  exact ⟨by omega, by omega, by omega, fun d hd => each d hd⟩
theorem Drawn1.nV {i : Int} {doors : List Val} (h : Drawn1 i doors) : nV (.tup [.int i, .tup doors]) ≤ 100 := by
  have hl := h.len
  have lenI : ∀ ns : List Int, nVs (ns.map Val.int) = ns.length := fun ns => by
    induction ns with
    | nil => rfl
    | cons x ns ih => simp [ih]; omega
  have each : ∀ ds : List Val, (∀ d ∈ ds, d ∈ doors) → nVs ds ≤ 12 * ds.length := fun ds => by
    induction ds with
    | nil => intro _; simp
    | cons d ds ih =>
      intro hm
      obtain ⟨a, b, ns, rfl, _, _, _, _, _, h6⟩ := h.each d (hm d (List.mem_cons_self ..))
      have := ih fun x hx => hm x (List.mem_cons_of_mem _ hx)
      simp [lenI]
      omega
  have := each doors fun d hd => hd
  simp
  omega
/-- a thing of a law of the first family -/
def Thing1 (S : Sto) (r : Nat) (v : Val) : Prop := ∃ t m, m ≤ 1000 ∧ TV t S r 12 v m ∧ okH S v = true
theorem Thing1.on {S' : Sto} {v : Val} (h : Thing1 S r v) (hs : Lat r S S') : Thing1 S' r v := by obtain ⟨t, m, h1, h2, _⟩ := h; exact ⟨t, m, h1, h2.on hs.on, (h2.on hs.on).okH⟩
theorem Thing1.repr {v : Val} (h : Thing1 S r v) : ∃ x, ∀ S', (∀ q o, r < q → S.get q = some o → S'.get q = some o) → reprOf S' v = some x := by
  obtain ⟨t, m, h1, h2, _⟩ := h
  obtain ⟨x, hx⟩ := h2.repr (by omega)
  exact ⟨x, fun S' hs => by rw [h2.repr_on hs]; exact hx⟩
theorem thing1 {t : Bool} {d m : Nat} {v : Val} (h : TV t S r d v m) (hd : d ≤ 12) (hm : m ≤ 1000) : Thing1 S r v := ⟨t, m, hm, h.up hd, h.okH⟩
section
variable [Has T F_is_whole d_is_whole] [Has T F_is_among d_is_among] [Has T F_rises d_rises] [Has T F_is_door_of d_is_door_of] [Has T F_is_house_of d_is_house_of] [Has T F_is_house d_is_house] [Has T F_need_house d_need_house] [Has T F_many_keys d_many_keys] [Has T F_free_in d_free_in] [Has T F_is_free d_is_free]
def fitsLen : Val → Nat
  | .tup [_, _, .tup ns] => ns.length
  | _ => 0
def freeB (doors : List Val) : Bool := doors.all fun d => decide (fitsLen d = doors.length + 1)
theorem sq_is_free (hn : 7 ≤ n) (hS : S.wf) {i : Int} {doors : List Val} (h : Drawn1 i doors) : callF T n F_is_free [.tup [.int i, .tup doors]] S = .ok (.bl (freeB doors)) S := by
  have ok : okH S (.tup [.int i, .tup doors]) = true := (hv_tv (t := true) (r := 0) h.hv (Nat.le_refl 5)).okH
  have e1 := sp_need_house (T := T) (n := n - 1) (by omega) hS ok h.house
  have hl := h.len
  have e3 : callF T (n - 1 - 1) F_many_keys [.tup [.int i, .tup doors]] S = .ok (.int ((doors.length : Int) + 1)) S := by
    rw [call_eq (by omega) _ rfl]
    simp [d_many_keys]
  have e2 : callF T (n - 1) F_free_in [.tup [.int i, .tup doors]] S = .ok (.bl (freeB doors)) S := by
    rw [call_eq (by omega) _ rfl]
    have ga := gc_all (cf := callF T (n - 1 - 1)) (own := [1, 2, 3]) (s := .val (.ix (.var 0) (.int 1))) (g := .tup (.cons (.nm 1) (.cons (.nm 2) (.cons (.nm 3) .nil)))) (c := .bl true) (e := .cmp .eq (.blt .len (.cons (.var 3) .nil)) (.call F_many_keys (.cons (.var 0) .nil)))
      (env := [some (.tup [.int i, .tup doors]), none, none, none]) (src := .val (.tup doors)) (xs := doors) (f := fun d => decide (fitsLen d = doors.length + 1)) hS (by simp) gives_tup (by omega) fun x hx => by
        obtain ⟨a, b, ns, rfl, _⟩ := h.each x hx
        simp [lcTurn_eq, wipe, e3, fitsLen]
        omega
    simp [d_free_in, ga, freeB]
  rw [call_eq (by omega) _ rfl]
  simp [d_is_free, e1, e2]
end
end Mp

set_option Elab.async false
set_option linter.all false
set_option maxRecDepth 100000
set_option maxHeartbeats 1600000
/-! free houses: what is refused, and the room behind a door. -/
namespace Mp
open PySem
variable {T : Nat → Option MDef} {n : Nat} {S : Sto} {r : Nat}
theorem Free.ok {i : Int} {ps : List (Int × Int)} (h : Free i ps) : okH S (houseF i ps) = true := (hv_tv (t := true) (r := 0) h.drawn.hv (Nat.le_refl 5)).okH
theorem encD_free {ps : List (Int × Int)} : freeB (ps.map (encD ps.length)) = true := by
  unfold freeB
  rw [List.all_eq_true]
  intro d hd
  obtain ⟨p, _, rfl⟩ := List.mem_map.mp hd
  rw [List.length_map]
  simp [encD, fitsLen, rangeI_len]
section
variable [Has T F_is_whole d_is_whole] [Has T F_is_among d_is_among] [Has T F_rises d_rises] [Has T F_is_door_of d_is_door_of] [Has T F_is_house_of d_is_house_of] [Has T F_is_house d_is_house] [Has T F_need_house d_need_house] [Has T F_many_keys d_many_keys] [Has T F_free_in d_free_in] [Has T F_need_room d_need_room]
theorem sr_need_room (hn : 7 ≤ n) (hS : S.wf) {i x : Int} {ps : List (Int × Int)} (h : Free i ps) (hx : 0 ≤ x ∧ x < i) : callF T n F_need_room [houseF i ps, .int x] S = .ok .non S := by
  have e1 := sp_need_house (T := T) (n := n - 1) (S := S) (by omega) hS h.ok h.drawn.house
  have hl := h.len
  have e3 : callF T (n - 1 - 1) F_many_keys [houseF i ps] S = .ok (.int ((ps.length : Int) + 1)) S := by
    rw [call_eq (by omega) _ rfl]
    simp [d_many_keys]
  have e2 : callF T (n - 1) F_free_in [houseF i ps] S = .ok (.bl true) S := by
    rw [call_eq (by omega) _ rfl]
    have ga := gc_all (cf := callF T (n - 1 - 1)) (own := [1, 2, 3]) (s := .val (.ix (.var 0) (.int 1))) (g := .tup (.cons (.nm 1) (.cons (.nm 2) (.cons (.nm 3) .nil)))) (c := .bl true) (e := .cmp .eq (.blt .len (.cons (.var 3) .nil)) (.call F_many_keys (.cons (.var 0) .nil)))
      (env := [some (houseF i ps), none, none, none]) (src := .val (.tup (ps.map (encD ps.length)))) (xs := ps.map (encD ps.length)) (f := fun d => true) hS (by simp) gives_tup (by simp; omega) fun x hx => by
        obtain ⟨p, _, rfl⟩ := List.mem_map.mp hx
        simp [lcTurn_eq, wipe, e3, encD, rangeI_len]
    simp only [houseF] at ga
    simp [d_free_in, ga]
  have e4 := sp_is_among (T := T) (n := n - 1) (S := S) (v := .int x) (lo := 0) (hi := i - 1) (by omega) hS rfl
  have e5 : amongV (.int x) 0 (i - 1) = true := by simp [amongV]; omega
  rw [e5] at e4
  simp only [houseF] at e1 e2
  rw [call_eq (by omega) _ rfl]
  simp [d_need_room, e1, e2, e4]
end
/-- the room behind a door -/
def over (p : Int × Int) (x : Int) : Option Int := if x = p.1 then some p.2 else if x = p.2 then some p.1 else none
def optV : Option Int → Val
  | none => .non
  | some y => .int y
theorem item_at {xs : List Val} {j : Nat} {v : Val} (h : xs[j]? = some v) : itemAt xs (j : Int) = some v := by rw [itemAt_pos (by omega)]; simpa using h
theorem door_at {m : Nat} {ps : List (Int × Int)} {j : Nat} (hj : j < ps.length) : itemAt (ps.map (encD m)) (j : Int) = some (encD m ps[j]) := item_at (by rw [List.getElem?_map, List.getElem?_eq_getElem hj]; rfl)
section
variable [Has T F_k27_over d_k27_over]
theorem sr_over (hn : 1 ≤ n) {i x : Int} {ps : List (Int × Int)} {j : Nat} (hj : j < ps.length) : callF T n F_k27_over [houseF i ps, .int x, .int (j : Int)] S = .ok (optV (over ps[j] x)) S := by
  have e := door_at (m := ps.length) hj
  rw [call_eq (by omega) _ rfl]
  by_cases h1 : x = ps[j].1
  · simp [d_k27_over, e, encD, over, h1, optV]
  · by_cases h2 : x = ps[j].2
    · have h3 : ¬ ps[j].2 = ps[j].1 := fun q => h1 (h2.trans q)
      simp [d_k27_over, e, encD, over, h2, h3, optV]
    · simp [d_k27_over, e, encD, over, h1, h2, optV]
end
theorem veq_int {a b : Int} : veq (.int a) (.int b) = decide (a = b) := by
  rw [Bool.eq_iff_iff, veq_iff 1 1 (.int a) (.int b) rfl rfl]
  simp
theorem any_int {x : Int} : ∀ {ks : List Int}, ((ks.map Val.int).any fun y => veq y (.int x)) = decide (x ∈ ks)
  | [] => rfl
  | k :: ks => by
    rw [List.map_cons, List.any_cons, any_int, veq_int, Bool.eq_iff_iff, Bool.or_eq_true, decide_eq_true_eq, decide_eq_true_eq, decide_eq_true_eq, List.mem_cons]
    exact or_congr eq_comm Iff.rfl
theorem ints_key (ks : List Int) : (ks.map Val.int).all (keyOk 12) = true := by rw [List.all_map, List.all_eq_true]; exact fun _ _ => rfl
theorem mem_ints {x : Int} {ks : List Int} : cop .mem (.int x) (.tup (ks.map Val.int)) S = .ok (.bl (decide (x ∈ ks))) S := by rw [cop_mem_tup rfl (ints_key ks), any_int]
theorem nmem_lst {x : Int} {ks : List Int} (h : S.get r = some (.lst (ks.map Val.int))) : cop .nmem (.int x) (.ref r) S = .ok (.bl (!decide (x ∈ ks))) S := by rw [cop_nmem_lst h rfl (ints_key ks), any_int]
section
variable [Has T F_beyond d_beyond]
theorem sr_beyond (hn : 1 ≤ n) {i x : Int} {ps : List (Int × Int)} {j : Nat} (hj : j < ps.length) : callF T n F_beyond [houseF i ps, .int x, .int (j : Int)] S = .ok (optV (over ps[j] x)) S := by
  have e := door_at (m := ps.length) hj
  generalize ps[j] = p at e ⊢
  obtain ⟨u, v⟩ := p
  have m2 : ∀ x : Int, cop .mem (.int x) (.tup [.int u, .int v]) S = .ok (.bl (decide (x ∈ [u, v]))) S := fun x => mem_ints (ks := [u, v])
  rw [call_eq (by omega) _ rfl]
  by_cases h1 : x = u
  · subst h1
    have h3 : x + v - x = v := by omega
    simp [d_beyond, e, encD, over, m2, optV, cap_eq, h3]
  · by_cases h2 : x = v
    · subst h2
      have h3 : u + x - x = u := by omega
      simp [d_beyond, e, encD, over, h1, m2, optV, cap_eq, h3]
    · simp [d_beyond, e, encD, over, h1, h2, m2, optV, cap_eq]
end
end Mp

set_option Elab.async false
set_option linter.all false
set_option maxRecDepth 100000
set_option maxHeartbeats 1600000
/-! ways through a free house, in plain lists. -/
namespace Mp
open PySem
abbrev Ways := List (Int × List Int)
def keysW (d : Ways) : List Int := d.map (·.1)
def look (x : Int) : Ways → Option (List Int)
  | [] => none
  | p :: d => if p.1 = x then some p.2 else look x d
def addW (d : Ways) (here : Int) (j : Nat) : Option Int → Ways
  | none => d
  | some t => if t ∈ keysW d then d else d ++ [(t, (look here d).getD [] ++ [(j : Int)])]
def scanW (ps : List (Int × Int)) (here : Int) (d : Ways) : Nat → Ways
  | 0 => d
  | j + 1 => addW (scanW ps here d j) here j (over (ps.getD j (0, 0)) here)
def lapW (ps : List (Int × Int)) (d : Ways) (k : Nat) : Ways := match (keysW d)[k]? with
  | none => d
  | some here => scanW ps here d ps.length
def lapsW (ps : List (Int × Int)) (x : Int) : Nat → Ways
  | 0 => [(x, [])]
  | k + 1 => lapW ps (lapsW ps x k) k
theorem look_some {x : Int} : ∀ {d : Ways}, (look x d).isSome = decide (x ∈ keysW d)
  | [] => rfl
  | p :: d => by
    simp only [look, keysW, List.map_cons, List.mem_cons]
    by_cases h : p.1 = x
    · rw [if_pos h]; simp [h]
    · rw [if_neg h, look_some]
      have h2 : ¬ x = p.1 := fun q => h q.symm
      simp only [h2, false_or]
      exact decide_eq_decide.mpr Iff.rfl
theorem look_of {x : Int} {d : Ways} (h : x ∈ keysW d) : ∃ w, look x d = some w := by
  rw [← Option.isSome_iff_exists, look_some]; simpa using h
theorem look_mem {x : Int} {w : List Int} : ∀ {d : Ways}, look x d = some w → (x, w) ∈ d
  | [], h => by cases h
  | p :: d, h => by
    simp only [look] at h
    split at h
    · rename_i hp
      cases h
      rw [← hp]
      exact List.mem_cons_self ..
    · exact List.mem_cons_of_mem _ (look_mem h)
theorem look_app {x : Int} {w : List Int} {e : Ways} : ∀ {d : Ways}, look x d = some w → look x (d ++ e) = some w
  | [], h => by cases h
  | p :: d, h => by
    simp only [look, List.cons_append] at h ⊢
    split at h
    · rw [if_pos ‹_›]; exact h
    · rw [if_neg ‹_›]; exact look_app h
theorem add_ext {d : Ways} {here : Int} {j : Nat} {o : Option Int} : ∃ e, addW d here j o = d ++ e := by
  cases o with
  | none => exact ⟨[], by simp [addW]⟩
  | some t =>
    simp only [addW]
    split
    · exact ⟨[], by simp⟩
    · exact ⟨_, rfl⟩
theorem scan_ext {ps : List (Int × Int)} {here : Int} {d : Ways} : ∀ j, ∃ e, scanW ps here d j = d ++ e
  | 0 => ⟨[], by simp [scanW]⟩
  | j + 1 => by
    obtain ⟨e, h⟩ := scan_ext (ps := ps) (here := here) (d := d) j
    obtain ⟨f, h2⟩ := add_ext (d := scanW ps here d j) (here := here) (j := j) (o := over (ps.getD j (0, 0)) here)
    exact ⟨e ++ f, by rw [scanW, h2, h, List.append_assoc]⟩
/-- what ways keep: rooms of the house, each once; the last door of each leads there -/
structure WaysOk (i : Int) (ps : List (Int × Int)) (d : Ways) : Prop where
  once : (keysW d).Nodup
  room : ∀ x ∈ keysW d, 0 ≤ x ∧ x < i
  short : ∀ p ∈ d, p.2.length ≤ d.length
  doors : ∀ p ∈ d, ∀ k ∈ p.2, 0 ≤ k ∧ k < (ps.length : Int)
  last : ∀ p ∈ d, ∀ j : Int, p.2.getLast? = some j → ∃ k : Nat, j = (k : Int) ∧ ∃ q, ps[k]? = some q ∧ (p.1 = q.1 ∨ p.1 = q.2)
theorem over_end {q : Int × Int} {x t : Int} (h : over q x = some t) : t = q.1 ∨ t = q.2 := by
  unfold over at h
  split at h
  · cases h; exact .inr rfl
  · split at h
    · cases h; exact .inl rfl
    · cases h
theorem WaysOk.add {i : Int} {ps : List (Int × Int)} {d : Ways} {here : Int} {j : Nat} (h : WaysOk i ps d) (he : Ends i ps) (hj : j < ps.length) (hh : here ∈ keysW d) : WaysOk i ps (addW d here j (over (ps.getD j (0, 0)) here)) := by
  have hq : ps[j]? = some ps[j] := List.getElem?_eq_getElem hj
  rw [List.getD_eq_getElem?_getD, hq, Option.getD_some]
  cases ho : over ps[j] here with
  | none => exact h
  | some t =>
    simp only [addW]
    split
    · exact h
    · rename_i ht
      obtain ⟨w, hw⟩ := look_of hh
      have hm := look_mem hw
      rw [hw, Option.getD_some]
      obtain ⟨e1, e2, e3⟩ := he ps[j] (List.getElem_mem hj)
      have hend := over_end ho
      refine ⟨?_, ?_, ?_, ?_, ?_⟩
      · unfold keysW at ht ⊢
        rw [List.map_append, List.nodup_append]
        refine ⟨h.once, by simp, fun a ha b hb => ?_⟩
        rw [List.map_cons, List.map_nil, List.mem_singleton] at hb
        intro hab
        rw [hab, hb] at ha
        exact ht ha
      · intro x hx
        unfold keysW at hx
        rw [List.map_append, List.mem_append] at hx
        rcases hx with hx | hx
        · exact h.room x hx
        · rw [List.map_cons, List.map_nil, List.mem_singleton] at hx
          rw [hx]
          dsimp only
          rcases hend with q | q <;> omega
      · intro p hp
        rw [List.length_append, List.length_singleton]
        rcases List.mem_append.mp hp with hp | hp
        · have := h.short p hp; omega
        · rw [List.mem_singleton.mp hp]
          have := h.short _ hm
          simp
          omega
      · intro p hp k hk
        rcases List.mem_append.mp hp with hp | hp
        · exact h.doors p hp k hk
        · rw [List.mem_singleton.mp hp] at hk
          rcases List.mem_append.mp hk with hk | hk
          · exact h.doors _ hm k hk
          · rw [List.mem_singleton.mp hk]; omega
      · intro p hp l hl
        rcases List.mem_append.mp hp with hp | hp
        · exact h.last p hp l hl
        · rw [List.mem_singleton.mp hp] at hl ⊢
          dsimp only at hl ⊢
          rw [List.getLast?_append] at hl
          simp only [List.getLast?_singleton, Option.some_or, Option.some.injEq] at hl
          exact ⟨j, hl.symm, ps[j], hq, hend⟩
theorem mem_ext {d e : Ways} {x : Int} (h : x ∈ keysW d) : x ∈ keysW (d ++ e) := by unfold keysW at *; rw [List.map_append]; exact List.mem_append_left _ h
theorem WaysOk.scan {i : Int} {ps : List (Int × Int)} {d : Ways} {here : Int} (h : WaysOk i ps d) (he : Ends i ps) (hh : here ∈ keysW d) : ∀ j, j ≤ ps.length → WaysOk i ps (scanW ps here d j)
  | 0, _ => h
  | j + 1, hj => by
    obtain ⟨e, q⟩ := scan_ext (ps := ps) (here := here) (d := d) j
    exact (WaysOk.scan h he hh j (by omega)).add he (by omega) (by rw [q]; exact mem_ext hh)
theorem WaysOk.lap {i : Int} {ps : List (Int × Int)} {d : Ways} {k : Nat} (h : WaysOk i ps d) (he : Ends i ps) : WaysOk i ps (lapW ps d k) := by
  unfold lapW
  split
  · exact h
  · exact h.scan he (List.mem_of_getElem? ‹_›) _ (Nat.le_refl _)
theorem WaysOk.laps {i x : Int} {ps : List (Int × Int)} (hx : 0 ≤ x ∧ x < i) (he : Ends i ps) : ∀ k, WaysOk i ps (lapsW ps x k)
  | 0 => by
    refine ⟨by simp [lapsW, keysW], ?_, ?_, ?_, ?_⟩
    · intro y hy
      simp only [lapsW, keysW, List.map_cons, List.map_nil, List.mem_singleton] at hy
      rw [hy]; exact hx
    · intro p hp
      rw [List.mem_singleton.mp hp]; simp
    · intro p hp k hk
      rw [List.mem_singleton.mp hp] at hk; cases hk
    · intro p hp j hj
      rw [List.mem_singleton.mp hp] at hj; cases hj
  | k + 1 => (WaysOk.laps hx he k).lap he
theorem nodup_fits : ∀ {l k : List Int}, l.Nodup → (∀ x ∈ l, x ∈ k) → l.length ≤ k.length
  | [], k, _, _ => Nat.zero_le _
  | x :: l, k, hn, hs => by
    rw [List.nodup_cons] at hn
    have hx := hs x (List.mem_cons_self ..)
    have := nodup_fits (l := l) (k := k.erase x) hn.2 fun y hy => by
      have hne : y ≠ x := fun q => hn.1 (q ▸ hy)
      exact (List.mem_erase_of_ne hne).mpr (hs y (List.mem_cons_of_mem _ hy))
    rw [List.length_erase_of_mem hx] at this
    have := List.length_pos_of_mem hx
    rw [List.length_cons]
    omega
/-- not more rooms than there are -/
theorem WaysOk.few {i : Int} {ps : List (Int × Int)} {d : Ways} (h : WaysOk i ps d) (hi : 0 ≤ i) : (d.length : Int) ≤ i := by
  have := nodup_fits (k := rangeI i.toNat) h.once fun x hx => rangeI_mem.mpr (by have := h.room x hx; omega)
  unfold keysW at this
  rw [rangeI_len, List.length_map] at this
  omega
/-- what is behind the last lap -/
theorem laps_stay {ps : List (Int × Int)} {x : Int} {k : Nat} (h : (lapsW ps x k).length ≤ k) : ∀ m, lapsW ps x (k + m) = lapsW ps x k
  | 0 => rfl
  | m + 1 => by
    rw [← Nat.add_assoc, lapsW, laps_stay h m, lapW, List.getElem?_eq_none (by unfold keysW; rw [List.length_map]; omega)]
end Mp

set_option Elab.async false
set_option linter.all false
set_option maxRecDepth 100000
set_option maxHeartbeats 1600000
/-! ways: all rooms behind doors are reached; dicts with numbers as keys. -/
namespace Mp
open PySem
theorem add_has {d : Ways} {here t : Int} {j : Nat} : t ∈ keysW (addW d here j (some t)) := by
  simp only [addW]
  split
  · assumption
  · unfold keysW; simp
theorem scan_has {ps : List (Int × Int)} {here t : Int} {d : Ways} {k : Nat} (ho : over (ps.getD k (0, 0)) here = some t) : ∀ {j : Nat}, k < j → t ∈ keysW (scanW ps here d j)
  | j + 1, hk => by
    rw [scanW]
    by_cases hj : k = j
    · subst hj
      rw [ho]
      exact add_has
    · obtain ⟨e, h2⟩ := add_ext (d := scanW ps here d j) (here := here) (j := j) (o := over (ps.getD j (0, 0)) here)
      rw [h2]
      exact mem_ext (scan_has ho (by omega))
theorem keys_app {d e : Ways} : keysW (d ++ e) = keysW d ++ keysW e := List.map_append
theorem keys_len {d : Ways} : (keysW d).length = d.length := List.length_map ..
theorem lap_ext {ps : List (Int × Int)} {d : Ways} {k : Nat} : ∃ e, lapW ps d k = d ++ e := by
  unfold lapW
  split
  · exact ⟨[], by simp⟩
  · exact scan_ext _
theorem laps_pos {ps : List (Int × Int)} {x : Int} : ∀ k, 0 < (lapsW ps x k).length
  | 0 => by simp [lapsW]
  | k + 1 => by
    obtain ⟨e, h⟩ := lap_ext (ps := ps) (d := lapsW ps x k) (k := k)
    have := laps_pos (ps := ps) (x := x) k
    rw [lapsW, h, List.length_append]
    omega
theorem laps_near {ps : List (Int × Int)} {x : Int} : ∀ {k : Nat} {p j : Nat} {y t : Int}, p < k → (keysW (lapsW ps x k))[p]? = some y → j < ps.length → over (ps.getD j (0, 0)) y = some t → t ∈ keysW (lapsW ps x k)
  | k + 1, p, j, y, t, hp, hy, hj, ho => by
    obtain ⟨e, h⟩ := lap_ext (ps := ps) (d := lapsW ps x k) (k := k)
    by_cases hlt : p < (lapsW ps x k).length
    · have hy' : (keysW (lapsW ps x k))[p]? = some y := by
        rw [lapsW, h, keys_app, List.getElem?_append_left (by rw [keys_len]; exact hlt)] at hy
        exact hy
      by_cases hpk : p < k
      · rw [lapsW, h]
        exact mem_ext (laps_near hpk hy' hj ho)
      · have : p = k := by omega
        subst this
        rw [lapsW, lapW, hy']
        exact scan_has ho hj
    · exfalso
      have hk : (keysW (lapsW ps x k))[k]? = none := List.getElem?_eq_none (by rw [keys_len]; omega)
      rw [lapsW, lapW, hk] at hy
      have := (List.getElem?_eq_some_iff.mp hy).1
      rw [keys_len] at this
      dsimp only at this
      omega
/-- all ways -/
def waysF (i : Int) (ps : List (Int × Int)) (x : Int) : Ways := lapsW ps x i.toNat
section
variable {i x : Int} {ps : List (Int × Int)}
theorem Free.ways (h : Free i ps) (hx : 0 ≤ x ∧ x < i) : WaysOk i ps (waysF i ps x) := WaysOk.laps hx h.ends _
theorem Free.near (h : Free i ps) (hx : 0 ≤ x ∧ x < i) {j : Nat} {y t : Int} (hy : y ∈ keysW (waysF i ps x)) (hj : j < ps.length) (ho : over ps[j] y = some t) : t ∈ keysW (waysF i ps x) := by
  have hw := (h.ways hx).few (by omega)
  obtain ⟨p, hp, he⟩ := List.getElem_of_mem hy
  have hp' := hp
  rw [keys_len] at hp'
  exact laps_near (p := p) (by unfold waysF at *; omega) (by unfold waysF at *; rw [List.getElem?_eq_getElem hp, he]) hj (by rw [List.getD_eq_getElem?_getD, List.getElem?_eq_getElem hj]; exact ho)
theorem ways_end {k : Nat} (h : Free i ps) (hx : 0 ≤ x ∧ x < i) (hk : (lapsW ps x k).length = k) : lapsW ps x k = waysF i ps x := by
  have hw := (WaysOk.laps (k := k) hx h.ends).few (by omega)
  obtain ⟨m, hm⟩ : ∃ m, i.toNat = k + m := ⟨i.toNat - k, by omega⟩
  unfold waysF
  rw [hm, laps_stay (by omega)]
end
/-! ### dicts -/
variable {S : Sto} {r : Nat}
def encW (d : Ways) : List (Int × Val) := d.map fun p => (p.1, .tup (p.2.map Val.int))
theorem iget_enc {x : Int} : ∀ {d : Ways}, iget x (encW d) = (look x d).map fun w => .tup (w.map Val.int)
  | [] => rfl
  | p :: d => by
    simp only [encW, List.map_cons, iget, look]
    split
    · rfl
    · exact iget_enc
theorem iput_new {k : Int} {v : Val} : ∀ {kvs : List (Int × Val)}, iget k kvs = none → iput k v kvs = kvs ++ [(k, v)]
  | [], _ => rfl
  | p :: kvs, h => by
    simp only [iget] at h
    split at h
    · cases h
    · simp only [iput, if_neg ‹_›, iput_new h, List.cons_append]
theorem encW_pure {d : Ways} {k : Nat} : (SO.dci (encW d)).rlt k = true := by
  simp only [SO.rlt, encW, List.all_map, List.all_eq_true]
  intro p _
  exact pure_rlt _ (by simp [pureV])
theorem mem_dci {kvs : List (Int × Val)} {x : Int} (h : S.get r = some (.dci kvs)) : cop .mem (.int x) (.ref r) S = .ok (.bl (iget x kvs).isSome) S := by simp only [cop, h, keyI, Option.map_some, of_some_]
theorem nmem_dci {kvs : List (Int × Val)} {x : Int} (h : S.get r = some (.dci kvs)) : cop .nmem (.int x) (.ref r) S = .ok (.bl (!(iget x kvs).isSome)) S := by simp only [cop, h, keyI, Option.map_some, of_some_]
theorem getIx_dci {kvs : List (Int × Val)} {x : Int} {v : Val} (h : S.get r = some (.dci kvs)) (hv : iget x kvs = some v) : getIx (.ref r) (.int x) S = .ok v S := by simp only [getIx, h, keyI, Option.bind_some, hv, of_some_]
theorem setIx_dci {kvs : List (Int × Val)} {x : Int} {v : Val} (h : S.get r = some (.dci kvs)) (hl : kvs.length < 1000000) : setIx (.ref r) (.int x) v S = .ok () (S.put r (.dci (iput x v kvs))) := by simp only [setIx, h, keyI, cap_eq, hl, decide_true, if_true]
theorem nmem_ways {d : Ways} {x : Int} (h : S.get r = some (.dci (encW d))) : cop .nmem (.int x) (.ref r) S = .ok (.bl (!decide (x ∈ keysW d))) S := by rw [nmem_dci h, iget_enc, Option.isSome_map, look_some]
theorem mem_ways {d : Ways} {x : Int} (h : S.get r = some (.dci (encW d))) : cop .mem (.int x) (.ref r) S = .ok (.bl (decide (x ∈ keysW d))) S := by rw [mem_dci h, iget_enc, Option.isSome_map, look_some]
theorem get_ways {d : Ways} {x : Int} {w : List Int} (h : S.get r = some (.dci (encW d))) (hw : look x d = some w) : getIx (.ref r) (.int x) S = .ok (.tup (w.map Val.int)) S := getIx_dci h (by rw [iget_enc, hw]; rfl)
theorem set_ways {d : Ways} {x : Int} {w : List Int} (h : S.get r = some (.dci (encW d))) (hx : x ∉ keysW d) (hl : d.length < 1000) : setIx (.ref r) (.int x) (.tup (w.map Val.int)) S = .ok () (S.put r (.dci (encW (d ++ [(x, w)])))) := by
  have hn : look x d = none := by rw [← Option.not_isSome_iff_eq_none, look_some]; simpa using hx
  rw [setIx_dci h (by unfold encW; rw [List.length_map]; omega), iput_new (by rw [iget_enc, hn]; rfl)]
  simp [encW]
end Mp

set_option Elab.async false
set_option linter.all false
set_option maxRecDepth 100000
set_option maxHeartbeats 1600000
/-! ways through a free house: the program's, the law's. -/
namespace Mp
open PySem
variable {T : Nat → Option MDef} {n : Nat} {S : Sto} {r : Nat}
theorem drop_snoc {d : Ways} {m : Nat} {t : Int} {w : List Int} (h : m ≤ d.length) : (keysW (d ++ [(t, w)])).drop m = (keysW d).drop m ++ [t] := by
  rw [keys_app, List.drop_append_of_le_length (by rw [keys_len]; exact h)]
  rfl
/-- found and line -/
abbrev twoW (S : Sto) (d : Ways) (m : Nat) : Sto := (S.new (.dci (encW d))).new (.lst (((keysW d).drop m).map Val.int))
/-- order and ways -/
abbrev twoL (S : Sto) (d : Ways) : Sto := (S.new (.lst ((keysW d).map Val.int))).new (.dci (encW d))
theorem ints_rlt {k : Nat} (ns : List Int) : rlts k (ns.map Val.int) = true := pures_rlt _ (by simp)
theorem twoW_wf (hS : S.wf) {d : Ways} {m : Nat} : (twoW S d m).wf := by simp [-List.map_drop, hS, encW_pure, ints_rlt]
theorem twoL_wf (hS : S.wf) {d : Ways} : (twoL S d).wf := by simp [hS, encW_pure, ints_rlt]
section
variable [Has T F_beyond d_beyond]
abbrev wEnv (i x : Int) (ps : List (Int × Int)) (q : Nat) (o4 o5 o6 : Option Val) : Env := [some (houseF i ps), some (.int x), some (.ref q), some (.ref (q + 1)), o4, o5, o6]
theorem from_loop (hn : 2 ≤ n) {i x here : Int} {ps : List (Int × Int)} (h : Free i ps) {d : Ways} {m k : Nat} (hd : WaysOk i ps d) (hh : here ∈ keysW d) (hm : m ≤ d.length) {o5 o6 : Option Val} :
    ∃ p5 p6, forS (callF T (n - 1)) k (.nm 5) B_ways_from_0 (.val (.rng 0 (ps.length : Int))) (wEnv i x ps S.n (some (.int here)) o5 o6) (twoW S d m) = .ok (.next, wEnv i x ps S.n (some (.int here)) p5 p6) (twoW S (scanW ps here d ps.length) m) := by
  have hl := h.len
  have loop := for_next (cf := callF T (n - 1)) (k := k) (g := .nm 5) (src := .val (.rng 0 (ps.length : Int))) (xs := rngL 0 (ps.length : Int)) (env := wEnv i x ps S.n (some (.int here)) o5 o6) (S := twoW S d m) (p := B_ways_from_0)
    (fun j env S' => ∃ p5 p6, env = wEnv i x ps S.n (some (.int here)) p5 p6 ∧ S' = twoW S (scanW ps here d j) m)
    (by rw [rngL_len]; omega) (fun i env S' _ => gives_rng (rgOk_of (by omega) (by omega) (by omega) (by omega) (by omega)) i) ?_ ⟨o5, o6, rfl, rfl⟩
  · obtain ⟨env', S', e, p5, p6, rfl, rfl⟩ := loop
    rw [rngL_len] at e
    exact ⟨p5, p6, by simpa using e⟩
  · rintro j z env S' hz ⟨p5, p6, rfl, rfl⟩
    have hj : j < (rngL 0 (ps.length : Int)).length := (List.getElem?_eq_some_iff.mp hz).1
    rw [rngL_len] at hj
    obtain ⟨rfl, _⟩ := rngL_get hz
    have hj2 : j < ps.length := by omega
    obtain ⟨e, he⟩ := scan_ext (ps := ps) (here := here) (d := d) j
    have hD := hd.scan h.ends hh j (by omega)
    have hD6 := hD.few (by have := h.lo; omega)
    have h6 := h.hi
    have hm2 : m ≤ (scanW ps here d j).length := by rw [he, List.length_append]; omega
    have hh2 : here ∈ keysW (scanW ps here d j) := by rw [he]; exact mem_ext hh
    have eb := sr_beyond (T := T) (n := n - 1) (S := twoW S (scanW ps here d j) m) (i := i) (x := here) (by omega) hj2
    rw [show scanW ps here d (j + 1) = addW (scanW ps here d j) here j (over ps[j] here) by rw [scanW, List.getD_eq_getElem?_getD, List.getElem?_eq_getElem hj2]; rfl]
    generalize scanW ps here d j = D at *
    have g0 : (twoW S D m).get S.n = some (.dci (encW D)) := by simp
    have g1 : (twoW S D m).get (S.n + 1) = some (.lst (((keysW D).drop m).map Val.int)) := ug_new' (by simp)
    cases ho : over ps[j] here with
    | none =>
      rw [ho] at eb
      simp only [optV, houseF] at eb
      exact ⟨wEnv i x ps S.n (some (.int here)) (some (.int (j : Int))) (some .non), twoW S D m, by simp [B_ways_from_0, eb], _, _, rfl, rfl⟩
    | some t =>
      rw [ho] at eb
      simp only [optV, houseF] at eb
      have nm := nmem_ways (x := t) g0
      by_cases ht : t ∈ keysW D
      · exact ⟨wEnv i x ps S.n (some (.int here)) (some (.int (j : Int))) (some (.int t)), twoW S D m, by simp [B_ways_from_0, eb, nm, ht], _, _, rfl, by simp [addW, ht]⟩
      · obtain ⟨w, hw⟩ := look_of hh2
        have gw := get_ways g0 hw
        have wl := hD.short _ (look_mem hw)
        have sw := set_ways (x := t) (w := w ++ [(j : Int)]) g0 ht (by omega)
        have g2 : (twoW S D m).put S.n (.dci (encW (D ++ [(t, w ++ [(j : Int)])]))) = (S.new (.dci (encW (D ++ [(t, w ++ [(j : Int)])])))).new (.lst (((keysW D).drop m).map Val.int)) := by simp
        rw [g2] at sw
        have g3 : ((S.new (.dci (encW (D ++ [(t, w ++ [(j : Int)])])))).new (.lst (((keysW D).drop m).map Val.int))).get (S.n + 1) = some (.lst (((keysW D).drop m).map Val.int)) := ug_new' (by simp)
        have ap := append_lst (v := .int t) g3 (by rw [List.length_map, List.length_drop, keys_len]; omega)
        have ra := recv_append g3
        refine ⟨wEnv i x ps S.n (some (.int here)) (some (.int (j : Int))) (some (.int t)), twoW S (D ++ [(t, w ++ [(j : Int)])]) m, ?_, _, _, rfl, by simp [addW, ht, hw]⟩
        have hwl : w.length + 1 ≤ 1000000 := by simp at wl; omega
        have p3 : ((S.new (.dci (encW (D ++ [(t, w ++ [(j : Int)])])))).new (.lst (((keysW D).drop m).map Val.int))).put (S.n + 1) (.lst (((keysW D).drop m).map Val.int ++ [.int t])) = twoW S (D ++ [(t, w ++ [(j : Int)])]) m := by
          rw [up_top' (by simp), twoW, drop_snoc hm2, List.map_append]
          rfl
        rw [p3] at ap
        rw [List.map_append] at sw
        generalize (S.new (.dci (encW (D ++ [(t, w ++ [(j : Int)])])))).new (.lst (((keysW D).drop m).map Val.int)) = U1 at *
        generalize twoW S D m = U0 at *
        generalize twoW S (D ++ [(t, w ++ [(j : Int)])]) m = U2 at *
        simp at sw
        simp [B_ways_from_0, eb, nm, ht, gw, hwl, cap_eq, sw, ra, ap]
variable [Has T F_ways_from d_ways_from]
theorem sr_from (hn : 2 ≤ n) (hS : S.wf) {i x : Int} {ps : List (Int × Int)} (h : Free i ps) (hx : 0 ≤ x ∧ x < i) :
    callF T n F_ways_from [houseF i ps, .int x] S = .ok (.ref S.n) (S.new (.dci (encW (waysF i ps x)))) := by
  have hl := h.len
  have h6 := h.hi
  have hlen : bapp .len [.tup (ps.map (encD ps.length))] = fun S : Sto => .ok (.int (ps.length : Int)) S := by funext S; simp
  have loop := whl_rule (cf := callF T (n - 1)) (k := S.n) (c := (.gc (.cmp .ne (.var 3) (.lst .nil)))) (p := B_ways_from_1) (env := wEnv i x ps S.n none none none) (S := twoW S (lapsW ps x 0) 0)
    (fun m env S' => ∃ (a : Nat) (o4 o5 o6 : Option Val), env = wEnv i x ps S.n o4 o5 o6 ∧ S' = twoW S (lapsW ps x a) a ∧ a ≤ (lapsW ps x a).length ∧ a + m = i.toNat)
    (fun fl env S' => ∃ (o4 o5 o6 : Option Val), fl = .next ∧ env = wEnv i x ps S.n o4 o5 o6 ∧ S' = (S.new (.dci (encW (waysF i ps x)))).new (.lst []))
    ?_ (m := i.toNat) (by omega) ⟨0, none, none, none, rfl, rfl, Nat.zero_le _, by omega⟩
  · obtain ⟨fl, env', S', e, o4, o5, o6, rfl, rfl, rfl⟩ := loop
    have fin := gcr2_0 (S := S) (k := S.n) (r := S.n) (a := .dci (encW (waysF i ps x))) (b := .lst []) rfl hS rfl encW_pure
    have e0 : twoW S (lapsW ps x 0) 0 = (S.new (.dci [(x, .tup [])])).new (.lst [.int x]) := rfl
    rw [e0] at e
    rw [call_eq (by omega) _ rfl]
    simp only [wEnv] at e
    simp [-gcr2_0, d_ways_from, cap_eq, es_whl, e]
    rw [fin]
    exact ⟨rfl, rfl⟩
  · rintro m env S' ⟨a, o4, o5, o6, rfl, rfl, ha, ham⟩
    have hw := WaysOk.laps (k := a) hx h.ends
    have hf := hw.few (by omega)
    have hnear := lap_ext (ps := ps) (d := lapsW ps x a) (k := a)
    have hend := fun q => ways_end (k := a) h hx q
    have hstep : lapsW ps x (a + 1) = lapW ps (lapsW ps x a) a := rfl
    have g1 : (twoW S (lapsW ps x a) a).get (S.n + 1) = some (.lst (((keysW (lapsW ps x a)).drop a).map Val.int)) := ug_new' (by simp)
    have eN := gc_ne_nil (cf := callF T (n - 1)) (env := wEnv i x ps S.n o4 o5 o6) (i := 3) (twoW_wf hS (d := lapsW ps x a) (m := a)) (by simp) g1
    refine ⟨_, eN, ?_⟩
    by_cases hz : (lapsW ps x a).length = a
    · have e0 : (keysW (lapsW ps x a)).drop a = [] := List.drop_eq_nil_of_le (by rw [keys_len]; omega)
      refine .inl ⟨by rw [e0]; rfl, o4, o5, o6, rfl, rfl, ?_⟩
      rw [twoW, e0, hend hz]
      rfl
    · have hlt : a < (keysW (lapsW ps x a)).length := by rw [keys_len]; omega
      have e1 : (keysW (lapsW ps x a)).drop a = (keysW (lapsW ps x a))[a] :: (keysW (lapsW ps x a)).drop (a + 1) := List.drop_eq_getElem_cons hlt
      have hh : (keysW (lapsW ps x a))[a] ∈ keysW (lapsW ps x a) := List.getElem_mem hlt
      have hq : (keysW (lapsW ps x a))[a]? = some (keysW (lapsW ps x a))[a] := List.getElem?_eq_getElem hlt
      rw [lapW, hq] at hstep
      dsimp only at hstep
      generalize (keysW (lapsW ps x a))[a] = here at *
      obtain ⟨p5, p6, el⟩ := from_loop (T := T) (n := n) (S := S) hn h (x := x) (m := a + 1) (k := S.n + 2) hw hh (by rw [keys_len] at hlt; omega) (o5 := o5) (o6 := o6)
      have pp := pop_lst (n := 0) (v := .int here) g1 (by rw [e1]; rfl) (by rw [List.length_map, List.length_drop, keys_len]; omega)
      have p1 : (twoW S (lapsW ps x a) a).put (S.n + 1) (.lst ((((keysW (lapsW ps x a)).drop a).map Val.int).eraseIdx 0)) = twoW S (lapsW ps x a) (a + 1) := by
        rw [up_top' (by simp), e1]
        rfl
      rw [p1] at pp
      have rp := recv_pop g1
      rw [← hstep] at el
      obtain ⟨e, he⟩ := scan_ext (ps := ps) (here := here) (d := lapsW ps x a) ps.length
      refine .inr ⟨by rw [e1]; rfl, .next, wEnv i x ps S.n (some (.int here)) p5 p6, twoW S (lapsW ps x (a + 1)) (a + 1), ?_, m - 1, by omega, a + 1, _, _, _, rfl, rfl, ?_, by omega⟩
      · have r1 := range1 (S := twoW S (lapsW ps x a) (a + 1)) (show -(2 ^ 62) ≤ (ps.length : Int) by omega) (show (ps.length : Int) < 2 ^ 62 by omega)
        have n2 : (twoW S (lapsW ps x a) (a + 1)).n = S.n + 2 := rfl
        generalize twoW S (lapsW ps x a) a = U0 at *
        generalize twoW S (lapsW ps x a) (a + 1) = U1 at *
        generalize twoW S (lapsW ps x (a + 1)) (a + 1) = U2 at *
        simp only [wEnv] at el
        simp at pp
        simp [B_ways_from_1, rp, pp, es_for, r1, n2, el]
      · rw [hstep, he, List.length_append]
        rw [keys_len] at hlt
        omega
end
end Mp

set_option Elab.async false
set_option linter.all false
set_option maxRecDepth 100000
set_option maxHeartbeats 1600000
/-! ways through a free house: the law's. -/
namespace Mp
open PySem
variable {T : Nat → Option MDef} {n : Nat} {S : Sto} {r : Nat}
def flatO (k : Nat) : Option Val → Bool
  | none => true
  | some v => (nrs k v).isEmpty
/-- what the names hold no longer is dropped -/
theorem gcE_nil {S1 : Sto} {k : Nat} {env : Env} (hk : S.n = k) (h : S.wf) (hn : k ≤ S1.n) (hold : S1.old k = S.l) (he : env.all (flatO k) = true) : gcE k [] env S1 = (env, S) := by
  have e1 : env.map (renO k []) = env := by
    have : ∀ o ∈ env, renO k [] o = o := fun o ho => by
      have hf := List.all_eq_true.mp he o ho
      cases o with
      | none => rfl
      | some v =>
        have hv : nrs k v = [] := List.isEmpty_iff.mp hf
        simp only [renO, hv, List.all_nil, if_true]
        rw [gc_flat.ren_flat v hv]
    conv => rhs; rw [← List.map_id env]
    exact List.map_congr_left this
  unfold gcE
  rw [show optAll (slotRef env) [] = some [] from rfl]
  dsimp only
  rw [if_pos (by simp), keep_some (rs := []) (os := []) hk h hn hold rfl rfl]
  dsimp only
  rw [e1]
  subst hk
  rfl
section
variable [Has T F_k27_over d_k27_over]
abbrev vEnv (i x : Int) (ps : List (Int × Int)) (q : Nat) (o2 o5 o6 o7 : Option Val) : Env := [some (houseF i ps), some (.int x), o2, some (.ref q), some (.ref (q + 1)), o5, o6, o7]
theorem ways_loop (hn : 2 ≤ n) {i x here : Int} {ps : List (Int × Int)} (h : Free i ps) {d : Ways} {k : Nat} {o : SO} (hd : WaysOk i ps d) (hh : here ∈ keysW d) {o2 o6 o7 : Option Val} :
    ∃ p6 p7, (∀ K, flatO K o6 = true → flatO K o7 = true → flatO K p6 = true ∧ flatO K p7 = true) ∧ forS (callF T (n - 1)) k (.nm 6) B_k27_ways_0 (.val (.rng 0 (ps.length : Int))) (vEnv i x ps S.n o2 (some (.int here)) o6 o7) ((twoL S d).new o) = .ok (.next, vEnv i x ps S.n o2 (some (.int here)) p6 p7) ((twoL S (scanW ps here d ps.length)).new o) := by
  have hl := h.len
  have loop := for_next (cf := callF T (n - 1)) (k := k) (g := .nm 6) (src := .val (.rng 0 (ps.length : Int))) (xs := rngL 0 (ps.length : Int)) (env := vEnv i x ps S.n o2 (some (.int here)) o6 o7) (S := (twoL S d).new o) (p := B_k27_ways_0)
    (fun j env S' => ∃ p6 p7, (∀ K, flatO K o6 = true → flatO K o7 = true → flatO K p6 = true ∧ flatO K p7 = true) ∧ env = vEnv i x ps S.n o2 (some (.int here)) p6 p7 ∧ S' = (twoL S (scanW ps here d j)).new o)
    (by rw [rngL_len]; omega) (fun i env S' _ => gives_rng (rgOk_of (by omega) (by omega) (by omega) (by omega) (by omega)) i) ?_ ⟨o6, o7, fun K a b => ⟨a, b⟩, rfl, rfl⟩
  · obtain ⟨env', S', e, p6, p7, hF, rfl, rfl⟩ := loop
    rw [rngL_len] at e
    exact ⟨p6, p7, hF, by simpa using e⟩
  · rintro j z env S' hz ⟨p6, p7, _, rfl, rfl⟩
    have hj : j < (rngL 0 (ps.length : Int)).length := (List.getElem?_eq_some_iff.mp hz).1
    rw [rngL_len] at hj
    obtain ⟨rfl, _⟩ := rngL_get hz
    have hj2 : j < ps.length := by omega
    obtain ⟨e, he⟩ := scan_ext (ps := ps) (here := here) (d := d) j
    have hD := hd.scan h.ends hh j (by omega)
    have hD6 := hD.few (by have := h.lo; omega)
    have h6 := h.hi
    have hh2 : here ∈ keysW (scanW ps here d j) := by rw [he]; exact mem_ext hh
    have eb := sr_over (T := T) (n := n - 1) (S := (twoL S (scanW ps here d j)).new o) (i := i) (x := here) (by omega) hj2
    rw [show scanW ps here d (j + 1) = addW (scanW ps here d j) here j (over ps[j] here) by rw [scanW, List.getD_eq_getElem?_getD, List.getElem?_eq_getElem hj2]; rfl]
    generalize scanW ps here d j = D at *
    have g0 : ((twoL S D).new o).get S.n = some (.lst ((keysW D).map Val.int)) := by rw [ug_old (show S.n < S.n + 1 + 1 by omega), ug_old (show S.n < S.n + 1 by omega), ug_new]
    cases ho : over ps[j] here with
    | none =>
      rw [ho] at eb
      simp only [optV, houseF] at eb
      exact ⟨vEnv i x ps S.n o2 (some (.int here)) (some (.int (j : Int))) (some .non), (twoL S D).new o, by simp [B_k27_ways_0, eb], _, _, fun _ _ _ => ⟨rfl, rfl⟩, rfl, rfl⟩
    | some t =>
      rw [ho] at eb
      simp only [optV, houseF] at eb
      have nm := nmem_lst (x := t) g0
      by_cases ht : t ∈ keysW D
      · exact ⟨vEnv i x ps S.n o2 (some (.int here)) (some (.int (j : Int))) (some (.int t)), (twoL S D).new o, by simp [B_k27_ways_0, eb, nm, ht], _, _, fun _ _ _ => ⟨rfl, rfl⟩, rfl, by simp [addW, ht]⟩
      · obtain ⟨w, hw⟩ := look_of hh2
        have ra := recv_append g0
        have ap := append_lst (v := .int t) g0 (by rw [List.length_map, keys_len]; omega)
        have p2 : ((twoL S D).new o).put S.n (.lst ((keysW D).map Val.int ++ [.int t])) = ((S.new (.lst ((keysW (D ++ [(t, w ++ [(j : Int)])])).map Val.int))).new (.dci (encW D))).new o := by
          rw [keys_app, List.map_append, up_old (show S.n < S.n + 1 + 1 by omega), up_old (show S.n < S.n + 1 by omega), up_top]
          rfl
        rw [p2] at ap
        have g2 : (((S.new (.lst ((keysW (D ++ [(t, w ++ [(j : Int)])])).map Val.int))).new (.dci (encW D))).new o).get (S.n + 1) = some (.dci (encW D)) := by
          rw [ug_old (by simp)]
          exact ug_new' (by simp)
        have gw := get_ways g2 hw
        have wl := hD.short _ (look_mem hw)
        have sw := set_ways (x := t) (w := w ++ [(j : Int)]) g2 ht (by omega)
        have p3 : (((S.new (.lst ((keysW (D ++ [(t, w ++ [(j : Int)])])).map Val.int))).new (.dci (encW D))).new o).put (S.n + 1) (.dci (encW (D ++ [(t, w ++ [(j : Int)])]))) = (twoL S (D ++ [(t, w ++ [(j : Int)])])).new o := by
          rw [up_old (by simp), up_top' (by simp)]
        rw [p3] at sw
        refine ⟨vEnv i x ps S.n o2 (some (.int here)) (some (.int (j : Int))) (some (.int t)), (twoL S (D ++ [(t, w ++ [(j : Int)])])).new o, ?_, _, _, fun _ _ _ => ⟨rfl, rfl⟩, rfl, by simp [addW, ht, hw]⟩
        have hwl : w.length + 1 ≤ 1000000 := by simp at wl; omega
        rw [List.map_append] at sw
        generalize (twoL S D).new o = U0 at *
        generalize (twoL S (D ++ [(t, w ++ [(j : Int)])])).new o = U2 at *
        generalize ((S.new (.lst ((keysW (D ++ [(t, w ++ [(j : Int)])])).map Val.int))).new (.dci (encW D))).new o = U1 at *
        simp at sw
        simp [B_k27_ways_0, eb, nm, ht, gw, hwl, cap_eq, sw, ra, ap]
variable [Has T F_k27_ways d_k27_ways]
theorem sr_ways (hn : 2 ≤ n) (hS : S.wf) {i x : Int} {ps : List (Int × Int)} (h : Free i ps) (hx : 0 ≤ x ∧ x < i) :
    callF T n F_k27_ways [houseF i ps, .int x] S = .ok (.ref S.n) (S.new (.dci (encW (waysF i ps x)))) := by
  have hl := h.len
  have h6 := h.hi
  have loop := for_next (cf := callF T (n - 1)) (k := S.n + 2) (g := .nm 2) (src := .val (.rng 0 i)) (xs := rngL 0 i) (env := vEnv i x ps S.n none none none none) (S := twoL S (lapsW ps x 0)) (p := B_k27_ways_2)
    (fun a env S' => ∃ o2 o5 o6 o7, env = vEnv i x ps S.n o2 o5 o6 o7 ∧ (flatO (S.n + 2) o5 = true ∧ flatO (S.n + 2) o6 = true ∧ flatO (S.n + 2) o7 = true) ∧ S' = twoL S (lapsW ps x a))
    (by rw [rngL_len]; omega) (fun i env S' _ => gives_rng (rgOk_of (by omega) (by omega) (by omega) (by omega) (by omega)) i) ?_ ⟨none, none, none, none, rfl, ⟨rfl, rfl, rfl⟩, rfl⟩
  · obtain ⟨env', S', e, o2, o5, o6, o7, rfl, _, rfl⟩ := loop
    rw [rngL_len, show (i - 0).toNat = i.toNat by simp] at e
    have fin := gcr2_1 (S := S) (k := S.n) (r := S.n + 1) (a := .lst ((keysW (waysF i ps x)).map Val.int)) (b := .dci (encW (waysF i ps x))) rfl hS rfl encW_pure
    have r1 := range1 (S := twoL S (lapsW ps x 0)) (show -(2 ^ 62) ≤ i by omega) (show i < 2 ^ 62 by omega)
    have e0 : twoL S (lapsW ps x 0) = (S.new (.lst [.int x])).new (.dci [(x, .tup [])]) := rfl
    rw [e0] at e r1
    rw [call_eq (by omega) _ rfl]
    simp only [vEnv] at e
    simp [-gcr2_1, d_k27_ways, cap_eq, es_for, r1, e]
    rw [show twoL S (lapsW ps x i.toNat) = twoL S (waysF i ps x) from rfl, fin]
    exact ⟨rfl, rfl⟩
  · rintro a z env S' hz ⟨o2, o5, o6, o7, rfl, ⟨f5, f6, f7⟩, rfl⟩
    have ha : a < (rngL 0 i).length := (List.getElem?_eq_some_iff.mp hz).1
    rw [rngL_len] at ha
    obtain ⟨rfl, _⟩ := rngL_get hz
    have hw := WaysOk.laps (k := a) hx h.ends
    have hf := hw.few (by omega)
    have g0 : (twoL S (lapsW ps x a)).get S.n = some (.lst ((keysW (lapsW ps x a)).map Val.int)) := by rw [ug_old (show S.n < S.n + 1 by omega), ug_new]
    have sl := getSl_lst (l := some (a : Int)) (h := some ((a : Int) + 1)) g0
    rw [show ((a : Int) + 1) = ((a + 1 : Nat) : Int) by omega, cut_mid, ← List.map_take, ← List.map_drop] at sl
    have mid : ∃ o5' o6' o7', (flatO (S.n + 2) o5' = true ∧ flatO (S.n + 2) o6' = true ∧ flatO (S.n + 2) o7' = true) ∧ forS (callF T (n - 1)) (S.n + 3) (.nm 5) B_k27_ways_1 (.val (.ref (S.n + 2))) (vEnv i x ps S.n (some (.int (a : Int))) o5 o6 o7) ((twoL S (lapsW ps x a)).new (.lst ((((keysW (lapsW ps x a)).take (a + 1)).drop a).map Val.int)))
        = .ok (.next, vEnv i x ps S.n (some (.int (a : Int))) o5' o6' o7') ((twoL S (lapsW ps x (a + 1))).new (.lst ((((keysW (lapsW ps x a)).take (a + 1)).drop a).map Val.int))) := by
      have hstep : lapsW ps x (a + 1) = lapW ps (lapsW ps x a) a := rfl
      by_cases hlt : a < (keysW (lapsW ps x a)).length
      · have e1 : ((keysW (lapsW ps x a)).take (a + 1)).drop a = [(keysW (lapsW ps x a))[a]] := by
          rw [List.drop_take, show a + 1 - a = 1 by omega, List.drop_eq_getElem_cons hlt]
          rfl
        have hh : (keysW (lapsW ps x a))[a] ∈ keysW (lapsW ps x a) := List.getElem_mem hlt
        have hq : (keysW (lapsW ps x a))[a]? = some (keysW (lapsW ps x a))[a] := List.getElem?_eq_getElem hlt
        rw [lapW, hq] at hstep
        dsimp only at hstep
        rw [e1]
        generalize (keysW (lapsW ps x a))[a] = here at *
        obtain ⟨p6, p7, hF, el⟩ := ways_loop (T := T) (n := n) (S := S) hn h (x := x) (k := S.n + 3) (o := .lst [.int here]) hw hh (o2 := some (.int (a : Int))) (o6 := o6) (o7 := o7)
        rw [← hstep] at el
        have go := for_next (cf := callF T (n - 1)) (k := S.n + 3) (g := .nm 5) (src := .val (.ref (S.n + 2))) (xs := [.int here]) (env := vEnv i x ps S.n (some (.int (a : Int))) o5 o6 o7) (S := (twoL S (lapsW ps x a)).new (.lst [.int here])) (p := B_k27_ways_1)
          (fun j env S' => (j = 0 ∧ env = vEnv i x ps S.n (some (.int (a : Int))) o5 o6 o7 ∧ S' = (twoL S (lapsW ps x a)).new (.lst [.int here])) ∨ (j = 1 ∧ env = vEnv i x ps S.n (some (.int (a : Int))) (some (.int here)) p6 p7 ∧ S' = (twoL S (lapsW ps x (a + 1))).new (.lst [.int here])))
          (by simp) ?_ ?_ (.inl ⟨rfl, rfl, rfl⟩)
        · obtain ⟨env', S', e, q | q⟩ := go
          · cases q.1
          · obtain ⟨_, rfl, rfl⟩ := q
            exact ⟨some (.int here), p6, p7, ⟨rfl, hF _ f6 f7⟩, e⟩
        · rintro j env S' (⟨rfl, rfl, rfl⟩ | ⟨rfl, rfl, rfl⟩)
          · exact gives_ref (ug_new' rfl) 0
          · exact gives_ref (ug_new' rfl) 1
        · rintro j z env S' hz (⟨rfl, rfl, rfl⟩ | ⟨rfl, rfl, rfl⟩)
          · cases hz
            refine ⟨_, _, ?_, .inr ⟨rfl, rfl, rfl⟩⟩
            have r1 := range1 (S := (twoL S (lapsW ps x a)).new (.lst [.int here])) (show -(2 ^ 62) ≤ (ps.length : Int) by omega) (show (ps.length : Int) < 2 ^ 62 by omega)
            have n2 : ((twoL S (lapsW ps x a)).new (.lst [.int here])).n = S.n + 3 := rfl
            generalize (twoL S (lapsW ps x a)).new (.lst [.int here]) = U0 at *
            generalize (twoL S (lapsW ps x (a + 1))).new (.lst [.int here]) = U1 at *
            simp only [vEnv] at el
            simp [B_k27_ways_1, es_for, r1, n2, el]
          · cases hz
      · have e1 : ((keysW (lapsW ps x a)).take (a + 1)).drop a = [] := List.drop_eq_nil_of_le (by rw [List.length_take]; omega)
        rw [lapW, List.getElem?_eq_none (by omega)] at hstep
        dsimp only at hstep
        rw [hstep, e1]
        have go := for_next (cf := callF T (n - 1)) (k := S.n + 3) (g := .nm 5) (src := .val (.ref (S.n + 2))) (xs := []) (env := vEnv i x ps S.n (some (.int (a : Int))) o5 o6 o7) (S := (twoL S (lapsW ps x a)).new (.lst [])) (p := B_k27_ways_1)
          (fun j env S' => env = vEnv i x ps S.n (some (.int (a : Int))) o5 o6 o7 ∧ S' = (twoL S (lapsW ps x a)).new (.lst []))
          (by simp) (fun j env S' q => by rw [q.2]; exact gives_ref (ug_new' rfl) j) (fun j z env S' hz _ => by cases hz) ⟨rfl, rfl⟩
        obtain ⟨env', S', e, rfl, rfl⟩ := go
        exact ⟨o5, o6, o7, ⟨f5, f6, f7⟩, e⟩
    obtain ⟨o5', o6', o7', ⟨k5, k6, k7⟩, em⟩ := mid
    refine ⟨vEnv i x ps S.n (some (.int (a : Int))) o5' o6' o7', twoL S (lapsW ps x (a + 1)), ?_, _, _, _, _, rfl, ⟨k5, k6, k7⟩, rfl⟩
    have fin := gcE_nil (S := twoL S (lapsW ps x (a + 1))) (S1 := (twoL S (lapsW ps x (a + 1))).new (.lst ((((keysW (lapsW ps x a)).take (a + 1)).drop a).map Val.int))) (k := S.n + 2) (env := vEnv i x ps S.n (some (.int (a : Int))) o5' o6' o7') rfl (twoL_wf hS) (by show S.n + 2 ≤ S.n + 3; omega)
      (by rw [old_new (show S.n + 2 ≤ S.n + 1 + 1 by omega)]; exact old_self (twoL_wf hS)) (by simp [flatO, pures_nrs _ (encD_pure _ _), nrs]; exact ⟨k5, k6, k7⟩)
    have n1 : (twoL S (lapsW ps x a)).n = S.n + 2 := rfl
    rw [n1] at sl
    generalize (twoL S (lapsW ps x (a + 1))).new (.lst ((((keysW (lapsW ps x a)).take (a + 1)).drop a).map Val.int)) = U2 at *
    generalize hU1 : (twoL S (lapsW ps x a)).new (.lst ((((keysW (lapsW ps x a)).take (a + 1)).drop a).map Val.int)) = U1 at *
    have n3 : U1.n = S.n + 3 := by rw [← hU1]; rfl
    generalize twoL S (lapsW ps x a) = U0 at *
    generalize twoL S (lapsW ps x (a + 1)) = U3 at *
    simp only [vEnv] at em fin
    simp at sl
    simp [B_k27_ways_2, es_for, partOf, isNon, sl, n3, em, fin]
end
end Mp

set_option Elab.async false
set_option linter.all false
set_option maxRecDepth 100000
set_option maxHeartbeats 1600000
/-! loops of a free house, in plain lists. -/
namespace Mp
open PySem
variable {S : Sto} {r : Nat}
theorem itemAt_last {xs : List Val} : itemAt xs (-1) = xs.getLast? := by
  unfold itemAt L2.atI L2.ixN
  rw [if_neg (by omega), List.getLast?_eq_getElem?]
  cases xs with
  | nil => simp
  | cons x xs =>
    rw [if_pos (by simp; omega), Option.bind_some]
    congr 1
    simp
    omega
theorem cut_last {xs : List Val} : cut xs (some (-1)) none = xs.getLast?.toList := by
  unfold cut
  rw [HT.sIx_none, List.getLast?_eq_getElem?]
  cases xs with
  | nil => simp
  | cons x xs =>
    have e : HT.sIx (x :: xs).length 0 (some (-1)) = xs.length := by
      unfold HT.sIx
      simp
      omega
    rw [e, List.take_of_length_le (by simp), show (x :: xs).length - 1 = xs.length by simp, List.drop_eq_getElem_cons (by simp), List.getElem?_eq_getElem (by simp)]
    simp
/-- the last doors of all ways -/
def lastsW (d : Ways) : List Int := d.filterMap fun p => p.2.getLast?
def stepL (W : Ways) (j : Nat) (q : Int × Int) : List (List Int) := if (j : Int) ∉ lastsW W ∧ q.1 ∈ keysW W then [(look q.1 W).getD [] ++ [(j : Int)] ++ ((look q.2 W).getD []).reverse] else []
def loopsN (W : Ways) (ps : List (Int × Int)) : Nat → List (List Int)
  | 0 => []
  | j + 1 => loopsN W ps j ++ stepL W j (ps.getD j (0, 0))
def loopsF (i : Int) (ps : List (Int × Int)) (x : Int) : List (List Int) := loopsN (waysF i ps x) ps ps.length
theorem look_only {x : Int} {w : List Int} : ∀ {d : Ways}, (keysW d).Nodup → (x, w) ∈ d → look x d = some w
  | p :: d, hn, hm => by
    have hn2 : p.1 ∉ keysW d ∧ (keysW d).Nodup := List.nodup_cons.mp hn
    simp only [look]
    rcases List.mem_cons.mp hm with h | h
    · rw [← h, if_pos rfl]
    · have hx : x ∈ keysW d := List.mem_map.mpr ⟨(x, w), h, rfl⟩
      rw [if_neg fun (q : p.1 = x) => hn2.1 (by rw [q]; exact hx), look_only hn2.2 h]
theorem mem_lasts {d : Ways} {j : Int} : j ∈ lastsW d ↔ ∃ p ∈ d, p.2.getLast? = some j := by unfold lastsW; rw [List.mem_filterMap]
theorem lasts_here {i : Int} {ps : List (Int × Int)} {W : Ways} (hW : WaysOk i ps W) {j : Nat} (hj : j < ps.length) {w1 w2 : List Int} (h1 : look ps[j].1 W = some w1) (h2 : look ps[j].2 W = some w2) :
    (j : Int) ∈ lastsW W ↔ (w1.getLast? = some (j : Int) ∨ w2.getLast? = some (j : Int)) := by
  rw [mem_lasts]
  constructor
  · rintro ⟨⟨t, w⟩, hp, hl⟩
    obtain ⟨k, hk, q, hq, ht⟩ := hW.last _ hp _ hl
    have : k = j := by omega
    subst this
    rw [List.getElem?_eq_getElem hj] at hq
    cases hq
    have ho := look_only hW.once hp
    dsimp only at ht ho hl
    rcases ht with ht | ht
    · rw [ht, h1] at ho
      cases ho
      exact .inl hl
    · rw [ht, h2] at ho
      cases ho
      exact .inr hl
  · rintro (h | h)
    · exact ⟨_, look_mem h1, h⟩
    · exact ⟨_, look_mem h2, h⟩
theorem veq_one {w : List Int} {j : Int} : veq (.tup ((w.map Val.int).getLast?.toList)) (.tup [.int j]) = decide (w.getLast? = some j) := by
  have k1 : keyOk 2 (.tup ((w.map Val.int).getLast?.toList)) = true := by
    rw [List.getLast?_map]
    cases w.getLast? <;> rfl
  rw [Bool.eq_iff_iff, veq_iff 2 2 _ _ k1 rfl, decide_eq_true_eq, List.getLast?_map]
  cases w.getLast? <;> simp
theorem nmem_two {w1 w2 : List Int} {j : Int} : cop .nmem (.tup [.int j]) (.tup [.tup ((w1.map Val.int).getLast?.toList), .tup ((w2.map Val.int).getLast?.toList)]) S = .ok (.bl (!(decide (w1.getLast? = some j) || decide (w2.getLast? = some j)))) S := by
  have k1 : ∀ w : List Int, keyOk 12 (.tup ((w.map Val.int).getLast?.toList)) = true := fun w => by
    rw [List.getLast?_map]
    cases w.getLast? <;> rfl
  rw [cop_nmem_tup rfl (by rw [List.all_cons, List.all_cons, k1, k1]; rfl)]
  simp only [List.any_cons, List.any_nil, Bool.or_false, veq_one]
theorem cop_ne_tnil {xs : List Val} : cop .ne (.tup xs) (.tup []) S = .ok (.bl (!xs.isEmpty)) S := by cases xs <;> rfl
/-- a walked dict's values -/
theorem gives_values {kvs : List (Int × Val)} (h : S.get r = some (.ldi kvs)) : Gives S (.values r) (kvs.map (·.2)) := fun i => by
  simp only [nextAt, h, List.getElem?_map]
end Mp

set_option Elab.async false
set_option linter.all false
set_option maxRecDepth 100000
set_option maxHeartbeats 1600000
/-! loops of a free house: the program's, the law's. -/
namespace Mp
open PySem
variable {T : Nat → Option MDef} {n : Nat} {S : Sto} {r : Nat}
def encL (w : List Int) : Val := .tup (w.map Val.int)
theorem encL_pure (ls : List (List Int)) : pureVs (ls.map encL) = true := by
  rw [pureVs_all]
  intro v hv
  obtain ⟨p, _, rfl⟩ := List.mem_map.mp hv
  simp [encL, pureV]
theorem es_lki {cf : Nat → List Val → Sto → R Val} {k i : Nat} {s : MS} {env : Env} {kvs : List (Int × Val)} (hi : env[i]? = some (some (.ref r))) (hg : S.get r = some (.dci kvs)) :
    evS cf k (.lk i s) env S = (evS cf S.n s env (S.put r (.ldi kvs))).bind fun v S1 => unlockAt r v S1 := by simp only [evS, lockAt, hi, hg]
theorem unlock_i {α : Type} {a : α} {kvs : List (Int × Val)} (hg : S.get r = some (.ldi kvs)) : unlockAt r a S = .ok a (S.put r (.dci kvs)) := by simp only [unlockAt, hg]
theorem enum_get {xs : List Val} {j : Nat} {z : Val} (h : (xs.mapIdx fun i x => Val.tup [.int (i : Int), x])[j]? = some z) : ∃ y, xs[j]? = some y ∧ z = .tup [.int (j : Int), y] := by
  rw [List.getElem?_mapIdx] at h
  obtain ⟨y, hy, rfl⟩ := Option.map_eq_some_iff.mp h
  exact ⟨y, hy, rfl⟩
theorem over_one {q : Int × Int} : over q q.1 = some q.2 := by unfold over; rw [if_pos rfl]
theorem loopsN_len {W : Ways} {ps : List (Int × Int)} : ∀ j, (loopsN W ps j).length ≤ j
  | 0 => Nat.le_refl _
  | j + 1 => by
    have := loopsN_len (W := W) (ps := ps) j
    rw [loopsN, List.length_append]
    have : (stepL W j (ps.getD j (0, 0))).length ≤ 1 := by unfold stepL; split <;> simp
    omega
section
variable [Has T F_beyond d_beyond] [Has T F_ways_from d_ways_from] [Has T F_loops_in d_loops_in]
abbrev jEnv (i x : Int) (ps : List (Int × Int)) (q : Nat) (o5 o6 o7 o8 o9 : Option Val) : Env := [some (houseF i ps), some (.int x), some (.ref q), some (.ref (q + 1)), some (.ref (q + 2)), o5, o6, o7, o8, o9]
abbrev threeW (S : Sto) (W : Ways) (ls : List (List Int)) : Sto := ((S.new (.dci (encW W))).new (.lst ((lastsW W).map Val.int))).new (.lst (ls.map encL))
theorem loops_loop {i x : Int} {ps : List (Int × Int)} (h : Free i ps) (hx : 0 ≤ x ∧ x < i) {k : Nat} {o5 o6 o7 o8 o9 : Option Val} {cf : Nat → List Val → Sto → R Val} :
    ∃ p5 p7 p8 p9, forS cf k (.tup (.cons (.nm 5) (.cons (.tup (.cons (.nm 7) (.cons (.nm 8) (.cons (.nm 9) .nil)))) .nil))) B_loops_in_0 (.enum (.tup (ps.map (encD ps.length)))) (jEnv i x ps S.n o5 o6 o7 o8 o9) (threeW S (waysF i ps x) [])
      = .ok (.next, jEnv i x ps S.n p5 o6 p7 p8 p9) (threeW S (waysF i ps x) (loopsF i ps x)) := by
  have hl := h.len
  have hW := h.ways hx
  have hnear := fun {j : Nat} {y t : Int} => h.near hx (j := j) (y := y) (t := t)
  have h6 := hW.few (by omega)
  have hi := h.hi
  unfold loopsF
  generalize waysF i ps x = W at *
  have loop := for_next (cf := cf) (k := k) (g := .tup (.cons (.nm 5) (.cons (.tup (.cons (.nm 7) (.cons (.nm 8) (.cons (.nm 9) .nil)))) .nil))) (src := .enum (.tup (ps.map (encD ps.length)))) (xs := (ps.map (encD ps.length)).mapIdx fun i x => .tup [.int (i : Int), x]) (env := jEnv i x ps S.n o5 o6 o7 o8 o9) (S := threeW S W []) (p := B_loops_in_0)
    (fun j env S' => ∃ p5 p7 p8 p9, env = jEnv i x ps S.n p5 o6 p7 p8 p9 ∧ S' = threeW S W (loopsN W ps j))
    (by simp; omega) (fun j env S' _ => gives_enumT j) ?_ ⟨o5, o7, o8, o9, rfl, rfl⟩
  · obtain ⟨env', S', e, p5, p7, p8, p9, rfl, rfl⟩ := loop
    rw [List.length_mapIdx, List.length_map] at e
    exact ⟨p5, p7, p8, p9, e⟩
  · rintro j z env S' hz ⟨p5, p7, p8, p9, rfl, rfl⟩
    obtain ⟨y, hy, rfl⟩ := enum_get hz
    rw [List.getElem?_map] at hy
    obtain ⟨q, hq, rfl⟩ := Option.map_eq_some_iff.mp hy
    obtain ⟨hj, hq2⟩ := List.getElem?_eq_some_iff.mp hq
    have hLj := loopsN_len (W := W) (ps := ps) j
    rw [loopsN, List.getD_eq_getElem?_getD, hq, Option.getD_some]
    generalize loopsN W ps j = L at *
    have g0 : (threeW S W L).get S.n = some (.dci (encW W)) := by rw [ug_old (show S.n < S.n + 1 + 1 by omega), ug_old (show S.n < S.n + 1 by omega), ug_new]
    have g1 : (threeW S W L).get (S.n + 1) = some (.lst ((lastsW W).map Val.int)) := by rw [ug_old (show S.n + 1 < S.n + 1 + 1 by omega)]; exact ug_new' rfl
    have g2 : (threeW S W L).get (S.n + 2) = some (.lst (L.map encL)) := ug_new' rfl
    have m1 := nmem_lst (x := (j : Int)) g1
    have m2 := mem_ways (x := q.1) g0
    by_cases c1 : (j : Int) ∈ lastsW W
    · refine ⟨jEnv i x ps S.n (some (.int (j : Int))) o6 (some (.int q.1)) (some (.int q.2)) (some (.tup ((rangeI (ps.length + 1)).map Val.int))), threeW S W L, ?_, _, _, _, _, rfl, by simp [stepL, c1]⟩
      generalize threeW S W L = U0 at *
      simp [B_loops_in_0, encD, m1, c1]
    · by_cases c2 : q.1 ∈ keysW W
      · have c3 : q.2 ∈ keysW W := hnear c2 hj (by rw [hq2]; exact over_one)
        obtain ⟨w1, e1⟩ := look_of c2
        obtain ⟨w2, e2⟩ := look_of c3
        have a1 := get_ways g0 e1
        have a2 := get_ways g0 e2
        have l1 := hW.short _ (look_mem e1)
        have l2 := hW.short _ (look_mem e2)
        dsimp only at l1 l2
        have ap := append_lst (v := encL (w1 ++ [(j : Int)] ++ w2.reverse)) g2 (by simp; omega)
        have p1 : (threeW S W L).put (S.n + 2) (.lst (L.map encL ++ [encL (w1 ++ [(j : Int)] ++ w2.reverse)])) = threeW S W (L ++ [w1 ++ [(j : Int)] ++ w2.reverse]) := by
          rw [up_top' (by simp), threeW, List.map_append]
          rfl
        rw [p1] at ap
        have ra := recv_append g2
        refine ⟨jEnv i x ps S.n (some (.int (j : Int))) o6 (some (.int q.1)) (some (.int q.2)) (some (.tup ((rangeI (ps.length + 1)).map Val.int))), threeW S W (L ++ [w1 ++ [(j : Int)] ++ w2.reverse]), ?_, _, _, _, _, rfl, by simp [stepL, c1, c2, e1, e2]⟩
        have b1 : w1.length + 1 ≤ 1000000 := by omega
        have b2 : w1.length + (w2.length + 1) ≤ 1000000 := by omega
        have b3 : w1.length + 1 + w2.length ≤ 1000000 := by omega
        generalize threeW S W L = U0 at *
        generalize threeW S W (L ++ [w1 ++ [(j : Int)] ++ w2.reverse]) = U1 at *
        simp [encL] at ap
        simp [B_loops_in_0, encD, m1, c1, m2, c2, a1, a2, ra, cap_eq, b1, b2, b3, ap]
      · refine ⟨jEnv i x ps S.n (some (.int (j : Int))) o6 (some (.int q.1)) (some (.int q.2)) (some (.tup ((rangeI (ps.length + 1)).map Val.int))), threeW S W L, ?_, _, _, _, _, rfl, by simp [stepL, c2]⟩
        generalize threeW S W L = U0 at *
        simp [B_loops_in_0, encD, m1, c1, m2, c2]
theorem sr_loops_in (hn : 3 ≤ n) (hS : S.wf) {i x : Int} {ps : List (Int × Int)} (h : Free i ps) (hx : 0 ≤ x ∧ x < i) :
    callF T n F_loops_in [houseF i ps, .int x] S = .ok (.tup ((loopsF i ps x).map encL)) S := by
  have ew := sr_from (T := T) (n := n - 1) (by omega) hS h hx
  have hW := h.ways hx
  have h6 := hW.few (by omega)
  have hi := h.hi
  obtain ⟨p5, p7, p8, p9, el⟩ := loops_loop (S := S) h hx (k := S.n + 3) (o5 := none) (o6 := none) (o7 := none) (o8 := none) (o9 := none) (cf := callF T (n - 1))
  generalize waysF i ps x = W at *
  generalize loopsF i ps x = L at *
  have g0 : (S.new (.dci (encW W))).get S.n = some (.dci (encW W)) := ug_new
  have g1 : (S.new (.ldi (encW W))).get S.n = some (.ldi (encW W)) := ug_new
  have e1 : evE (callF T (n - 1)) (.lc [6] (.values (.var 2)) (.nm 6) (.cmp .ne (.var 6) (.tup .nil)) (.ix (.var 6) (.neg (.int 1)))) [some (houseF i ps), some (.int x), some (.ref S.n), none, none, none, none, none, none, none] (S.new (.ldi (encW W))) = .ok (.ref (S.n + 1)) ((S.new (.ldi (encW W))).new (.lst ((lastsW W).map Val.int))) := by
    have lf := lc_fil (cf := callF T (n - 1)) (own := [6]) (s := .values (.var 2)) (g := .nm 6) (c := .cmp .ne (.var 6) (.tup .nil)) (e := .ix (.var 6) (.neg (.int 1))) (env := [some (houseF i ps), some (.int x), some (.ref S.n), none, none, none, none, none, none, none]) (S := S.new (.ldi (encW W))) (src := .values S.n) (xs := (encW W).map (·.2))
      (f := fun v => match v with
        | .tup vs => vs.getLast?
        | _ => none) (by simp only [evI, ev_var, varR_succ, varR_zero, bind_ok_]) (gives_values g1) (by simp [encW]; omega) fun z hz => by
        obtain ⟨p, hp, rfl⟩ := List.mem_map.mp hz
        obtain ⟨q, hq, rfl⟩ := List.mem_map.mp hp
        dsimp only
        cases hw : q.2.map Val.int with
        | nil => simp [lcTurn_eq, wipe, cop_ne_tnil, cap_eq]
        | cons v vs => 
          simp [-List.getLast?_cons_cons, lcTurn_eq, wipe, cop_ne_tnil, cap_eq, itemAt_last]
          cases hh : (v :: vs).getLast? with
          | none => simp at hh
          | some u => rfl
    rw [lf]
    have e2 : (((encW W).map (·.2)).filterMap fun v => match v with
        | Val.tup vs => vs.getLast?
        | _ => none) = (lastsW W).map Val.int := by
      unfold encW lastsW
      rw [List.map_map, List.filterMap_map, List.map_filterMap]
      congr 1
      funext p
      simp
    rw [e2]
    rfl
  have fin := gcf3 (S := S) (v := .tup (L.map encL)) (k := S.n) (a := .dci (encW W)) (b := .lst ((lastsW W).map Val.int)) (c := .lst (L.map encL)) rfl hS (by rw [nrs_tup]; exact pures_nrs _ (encL_pure L))
  have lk := es_lki (cf := callF T (n - 1)) (k := S.n) (i := 2) (s := .asg (.nm 3) (.lc [6] (.values (.var 2)) (.nm 6) (.cmp .ne (.var 6) (.tup .nil)) (.ix (.var 6) (.neg (.int 1))))) (env := [some (houseF i ps), some (.int x), some (.ref S.n), none, none, none, none, none, none, none]) (by simp) g0
  rw [up_top, es_asg, e1] at lk
  simp only [bind_ok_, ag_nm, List.set_cons_succ, List.set_cons_zero] at lk
  rw [unlock_i (kvs := encW W) (by rw [ug_old (by simp), ug_new]), up_old (by simp), up_top] at lk
  have g2 : (threeW S W L).get (S.n + 2) = some (.lst (L.map encL)) := ug_new' rfl
  have t2 := tuple_lst g2
  rw [call_eq (by omega) _ rfl]
  simp only [houseF, jEnv, threeW, List.map_nil] at ew lk el t2
  simp [-gcf3, d_loops_in, ew, lk, cap_eq, es_for, el, t2, fin]
end
end Mp

set_option Elab.async false
set_option linter.all false
set_option maxRecDepth 100000
set_option maxHeartbeats 1600000
/-! loops of a free house: the law's. -/
namespace Mp
open PySem
variable {T : Nat → Option MDef} {n : Nat} {S : Sto} {r : Nat}
section
variable [Has T F_k27_over d_k27_over] [Has T F_k27_ways d_k27_ways] [Has T F_k28_loops d_k28_loops]
abbrev lEnv (i x : Int) (ps : List (Int × Int)) (q : Nat) (o4 o5 o6 o7 o8 o9 : Option Val) : Env := [some (houseF i ps), some (.int x), some (.ref q), some (.ref (q + 1)), o4, o5, o6, o7, o8, o9]
abbrev twoO (S : Sto) (W : Ways) (ls : List (List Int)) : Sto := (S.new (.dci (encW W))).new (.lst (ls.map encL))
theorem due_loop {i x : Int} {ps : List (Int × Int)} (h : Free i ps) (hx : 0 ≤ x ∧ x < i) {k : Nat} {o4 o5 o6 o7 o8 o9 : Option Val} {cf : Nat → List Val → Sto → R Val} :
    ∃ p4 p5 p6 p7 p8 p9, forS cf k (.tup (.cons (.nm 4) (.cons (.tup (.cons (.nm 5) (.cons (.nm 6) (.cons (.nm 7) .nil)))) .nil))) B_k28_loops_0 (.enum (.tup (ps.map (encD ps.length)))) (lEnv i x ps S.n o4 o5 o6 o7 o8 o9) (twoO S (waysF i ps x) [])
      = .ok (.next, lEnv i x ps S.n p4 p5 p6 p7 p8 p9) (twoO S (waysF i ps x) (loopsF i ps x)) := by
  have hl := h.len
  have hW := h.ways hx
  have hnear := fun {j : Nat} {y t : Int} => h.near hx (j := j) (y := y) (t := t)
  have h6 := hW.few (by omega)
  have hi := h.hi
  unfold loopsF
  generalize waysF i ps x = W at *
  have loop := for_next (cf := cf) (k := k) (g := .tup (.cons (.nm 4) (.cons (.tup (.cons (.nm 5) (.cons (.nm 6) (.cons (.nm 7) .nil)))) .nil))) (src := .enum (.tup (ps.map (encD ps.length)))) (xs := (ps.map (encD ps.length)).mapIdx fun i x => .tup [.int (i : Int), x]) (env := lEnv i x ps S.n o4 o5 o6 o7 o8 o9) (S := twoO S W []) (p := B_k28_loops_0)
    (fun j env S' => ∃ p4 p5 p6 p7 p8 p9, env = lEnv i x ps S.n p4 p5 p6 p7 p8 p9 ∧ S' = twoO S W (loopsN W ps j))
    (by simp; omega) (fun j env S' _ => gives_enumT j) ?_ ⟨o4, o5, o6, o7, o8, o9, rfl, rfl⟩
  · obtain ⟨env', S', e, p4, p5, p6, p7, p8, p9, rfl, rfl⟩ := loop
    rw [List.length_mapIdx, List.length_map] at e
    exact ⟨p4, p5, p6, p7, p8, p9, e⟩
  · rintro j z env S' hz ⟨p4, p5, p6, p7, p8, p9, rfl, rfl⟩
    obtain ⟨y, hy, rfl⟩ := enum_get hz
    rw [List.getElem?_map] at hy
    obtain ⟨q, hq, rfl⟩ := Option.map_eq_some_iff.mp hy
    obtain ⟨hj, hq2⟩ := List.getElem?_eq_some_iff.mp hq
    have hLj := loopsN_len (W := W) (ps := ps) j
    rw [loopsN, List.getD_eq_getElem?_getD, hq, Option.getD_some]
    generalize loopsN W ps j = L at *
    have g0 : (twoO S W L).get S.n = some (.dci (encW W)) := by rw [ug_old (show S.n < S.n + 1 by omega), ug_new]
    have g1 : (twoO S W L).get (S.n + 1) = some (.lst (L.map encL)) := ug_new' rfl
    have m2 := mem_ways (x := q.1) g0
    by_cases c2 : q.1 ∈ keysW W
    · have c3 : q.2 ∈ keysW W := hnear c2 hj (by rw [hq2]; exact over_one)
      obtain ⟨w1, e1⟩ := look_of c2
      obtain ⟨w2, e2⟩ := look_of c3
      have a1 := get_ways g0 e1
      have a2 := get_ways g0 e2
      have l1 := hW.short _ (look_mem e1)
      have l2 := hW.short _ (look_mem e2)
      dsimp only at l1 l2
      have hlast := lasts_here hW hj (w1 := w1) (w2 := w2) (by rw [hq2]; exact e1) (by rw [hq2]; exact e2)
      have nm := nmem_two (S := twoO S W L) (w1 := w1) (w2 := w2) (j := (j : Int))
      rw [show (decide (w1.getLast? = some (j : Int)) || decide (w2.getLast? = some (j : Int))) = decide ((j : Int) ∈ lastsW W) by rw [Bool.eq_iff_iff, Bool.or_eq_true, decide_eq_true_eq, decide_eq_true_eq, decide_eq_true_eq, hlast]] at nm
      have s1 : ∀ (w : List Int) (S : Sto), getSl (.tup (w.map Val.int)) (some (some (-1))) (some none) S = .ok (.tup ((w.map Val.int).getLast?.toList)) S := fun w S => by rw [getSl_tup, cut_last]
      by_cases c1 : (j : Int) ∈ lastsW W
      · refine ⟨lEnv i x ps S.n (some (.int (j : Int))) (some (.int q.1)) (some (.int q.2)) (some (.tup ((rangeI (ps.length + 1)).map Val.int))) (some (.tup (w1.map Val.int))) (some (.tup (w2.map Val.int))), twoO S W L, ?_, _, _, _, _, _, _, rfl, by simp [stepL, c1]⟩
        generalize twoO S W L = U0 at *
        simp [-getSl_tup, -List.getLast?_map, B_k28_loops_0, encD, m2, c2, a1, a2, s1, nm, c1, cap_eq]
      · have ap := append_lst (v := encL (w1 ++ [(j : Int)] ++ w2.reverse)) g1 (by simp; omega)
        have p1 : (twoO S W L).put (S.n + 1) (.lst (L.map encL ++ [encL (w1 ++ [(j : Int)] ++ w2.reverse)])) = twoO S W (L ++ [w1 ++ [(j : Int)] ++ w2.reverse]) := by
          rw [up_top' (by simp), twoO, List.map_append]
          rfl
        rw [p1] at ap
        have ra := recv_append g1
        refine ⟨lEnv i x ps S.n (some (.int (j : Int))) (some (.int q.1)) (some (.int q.2)) (some (.tup ((rangeI (ps.length + 1)).map Val.int))) (some (.tup (w1.map Val.int))) (some (.tup (w2.map Val.int))), twoO S W (L ++ [w1 ++ [(j : Int)] ++ w2.reverse]), ?_, _, _, _, _, _, _, rfl, by simp [stepL, c1, c2, e1, e2]⟩
        have b1 : w1.length + 1 ≤ 1000000 := by omega
        have b2 : w1.length + (w2.length + 1) ≤ 1000000 := by omega
        have b3 : w1.length + 1 + w2.length ≤ 1000000 := by omega
        generalize twoO S W L = U0 at *
        generalize twoO S W (L ++ [w1 ++ [(j : Int)] ++ w2.reverse]) = U1 at *
        simp [encL] at ap
        simp [-getSl_tup, -List.getLast?_map, B_k28_loops_0, encD, m2, c2, a1, a2, s1, nm, c1, cap_eq, ra, b1, b2, b3, ap]
    · refine ⟨lEnv i x ps S.n (some (.int (j : Int))) (some (.int q.1)) (some (.int q.2)) (some (.tup ((rangeI (ps.length + 1)).map Val.int))) p8 p9, twoO S W L, ?_, _, _, _, _, _, _, rfl, by simp [stepL, c2]⟩
      generalize twoO S W L = U0 at *
      simp [B_k28_loops_0, encD, m2, c2]
theorem sr_loops_due (hn : 3 ≤ n) (hS : S.wf) {i x : Int} {ps : List (Int × Int)} (h : Free i ps) (hx : 0 ≤ x ∧ x < i) :
    callF T n F_k28_loops [houseF i ps, .int x] S = .ok (.tup ((loopsF i ps x).map encL)) S := by
  have ew := sr_ways (T := T) (n := n - 1) (by omega) hS h hx
  obtain ⟨p4, p5, p6, p7, p8, p9, el⟩ := due_loop (S := S) h hx (k := S.n + 2) (o4 := none) (o5 := none) (o6 := none) (o7 := none) (o8 := none) (o9 := none) (cf := callF T (n - 1))
  generalize waysF i ps x = W at *
  generalize loopsF i ps x = L at *
  have fin := gcf2 (S := S) (v := .tup (L.map encL)) (k := S.n) (a := .dci (encW W)) (b := .lst (L.map encL)) rfl hS (by rw [nrs_tup]; exact pures_nrs _ (encL_pure L))
  have g2 : (twoO S W L).get (S.n + 1) = some (.lst (L.map encL)) := ug_new' rfl
  have t2 := tuple_lst g2
  rw [call_eq (by omega) _ rfl]
  simp only [houseF, lEnv, twoO, List.map_nil] at ew el t2
  simp [-gcf2, d_k28_loops, ew, cap_eq, es_for, el, t2, fin]
end
end Mp

set_option Elab.async false
set_option linter.all false
set_option maxRecDepth 100000
set_option maxHeartbeats 1600000
/-! k28: the law's turns. -/
namespace Mp
open PySem
variable {T : Nat → Option MDef} {n : Nat} {S : Sto} {r : Nat}
/-- the loops of a free house are short and of its doors -/
theorem loops_small {i : Int} {ps : List (Int × Int)} {W : Ways} (h : Free i ps) (hW : WaysOk i ps W) (hl : W.length ≤ 6) : ∀ j, j ≤ ps.length → ∀ w ∈ loopsN W ps j, w.length ≤ 13 ∧ ∀ k ∈ w, 0 ≤ k ∧ k < 7
  | 0, _, w, hw => by cases hw
  | j + 1, hj, w, hw => by
    rw [loopsN] at hw
    rcases List.mem_append.mp hw with hw | hw
    · exact loops_small h hW hl j (by omega) w hw
    · have h7 := h.len
      have each : ∀ (y : Int), ((look y W).getD []).length ≤ 6 ∧ ∀ k ∈ (look y W).getD [], 0 ≤ k ∧ k < 7 := fun y => by
        cases e : look y W with
        | none => exact ⟨Nat.zero_le _, fun k hk => by cases hk⟩
        | some u =>
          have a := hW.short _ (look_mem e)
          have b := hW.doors _ (look_mem e)
          dsimp only at a b
          exact ⟨Nat.le_trans a hl, fun k hk => by have := b k hk; omega⟩
      unfold stepL at hw
      split at hw
      · rw [List.mem_singleton.mp hw]
        have a := each (ps.getD j (0, 0)).1
        have b := each (ps.getD j (0, 0)).2
        refine ⟨by simp only [List.length_append, List.length_reverse, List.length_singleton]; omega, fun k hk => ?_⟩
        rcases List.mem_append.mp hk with hk | hk
        · rcases List.mem_append.mp hk with hk | hk
          · exact a.2 k hk
          · rw [List.mem_singleton.mp hk]; omega
        · exact b.2 k (List.mem_reverse.mp hk)
      · cases hw
theorem loops_repr {i x : Int} {ps : List (Int × Int)} (h : Free i ps) (hx : 0 ≤ x ∧ x < i) : ∃ b, ∀ S, reprOf S (.tup ((loopsF i ps x).map encL)) = some b := by
  have hW := h.ways hx
  have h6 := hW.few (by omega)
  have hi := h.hi
  have hl := h.len
  have sm := loops_small h hW (by omega) ps.length (Nat.le_refl _)
  have hlen := loopsN_len (W := waysF i ps x) (ps := ps) ps.length
  unfold loopsF
  generalize loopsN (waysF i ps x) ps ps.length = L at *
  refine ⟨(toD (.tup (L.map encL))).shown, fun S => repr_pure ?_ ?_⟩
  · rw [smV]
    rw [List.all_map, List.all_eq_true]
    intro w hw
    show smV 11 (encL w) = true
    rw [encL, smV]
    rw [List.all_map, List.all_eq_true]
    intro k hk
    have := (sm w hw).2 k hk
    show decide (k.natAbs < 10 ^ 30) = true
    rw [decide_eq_true_eq]
    omega
  · have : ∀ L : List (List Int), (∀ w ∈ L, w.length ≤ 13) → nVs (L.map encL) ≤ 14 * L.length := fun L => by
      induction L with
      | nil => intro _; simp
      | cons w L ih =>
        intro hm
        have a := ih fun u hu => hm u (List.mem_cons_of_mem _ hu)
        have b := hm w (List.mem_cons_self ..)
        rw [List.map_cons, nVs, encL, nV_tup, nVs_ints, List.length_cons]
        omega
    have := this L fun w hw => (sm w hw).1
    rw [nV_tup]
    omega
theorem house_repr {i : Int} {ps : List (Int × Int)} (h : Free i ps) : ∃ b, ∀ S, reprOf S (houseF i ps) = some b := by
  refine ⟨(toD (houseF i ps)).shown, fun S => repr_pure ?_ ?_⟩
  · exact smV_up 5 12 _ (by omega) (hv_sm h.drawn.hv).1
  · exact Nat.le_trans h.drawn.nV (by omega)
/-- what the names hold no longer is dropped -/
theorem gcE_drop {S1 : Sto} {k : Nat} {env : Env} (hk : S.n = k) (h : S.wf) (hn : k ≤ S1.n) (hold : S1.old k = S.l) : gcE k [] env S1 = (env.map (renO k []), S) := by
  unfold gcE
  rw [show optAll (slotRef env) [] = some [] from rfl]
  dsimp only
  rw [if_pos (by simp), keep_some (rs := []) (os := []) hk h hn hold rfl rfl]
  subst hk
  rfl
theorem ren_keep {k : Nat} {v : Val} (h : nrs k v = []) : renO k [] (some v) = some v := by
  simp only [renO, h, List.all_nil, if_true]
  rw [gc_flat.ren_flat v h]
section
variable [Has T F_is_whole d_is_whole] [Has T F_is_among d_is_among] [Has T F_rises d_rises] [Has T F_is_door_of d_is_door_of] [Has T F_is_house_of d_is_house_of] [Has T F_is_house d_is_house] [Has T F_need_house d_need_house] [Has T F_many_keys d_many_keys] [Has T F_free_in d_free_in] [Has T F_need_room d_need_room]
variable [Has T F_beyond d_beyond] [Has T F_ways_from d_ways_from] [Has T F_loops_in d_loops_in] [Has T F_loops d_loops]
theorem sr_loops (hn : 8 ≤ n) (hS : S.wf) {i x : Int} {ps : List (Int × Int)} (h : Free i ps) (hx : 0 ≤ x ∧ x < i) :
    callF T n F_loops [houseF i ps, .int x] S = .ok (.tup ((loopsF i ps x).map encL)) S := by
  have e1 := sr_need_room (T := T) (n := n - 1) (by omega) hS h hx
  have e2 := sr_loops_in (T := T) (n := n - 1) (by omega) hS h hx
  rw [call_eq (by omega) _ rfl]
  simp only [houseF] at e1 e2
  simp [d_loops, e1, e2, pures_nrs _ (encL_pure _)]
variable [Has T F_k27_over d_k27_over] [Has T F_k27_ways d_k27_ways] [Has T F_k28_loops d_k28_loops]
theorem k28_room (hn : 8 ≤ n) (hS : S.wf) {i x : Int} {ps : List (Int × Int)} (h : Free i ps) (hx : 0 ≤ x ∧ x < i) {q : Nat} (hq : q < S.n) {o0 o1 o3 o6 o7 o8 o9 : Option Val} :
    ∃ p0 p1 p3 p5 p6 p7 p8 p9, evB (callF T n) S.n B_k28_law_0 [o0, o1, some (.ref q), o3, some (houseF i ps), some (.int x), o6, o7, o8, o9] S = .ok (.next, [p0, p1, some (.ref q), p3, some (houseF i ps), p5, p6, p7, p8, p9]) S := by
  obtain ⟨a, ha⟩ := house_repr h
  obtain ⟨b, hb⟩ := loops_repr h hx
  have e1 := sr_loops_due (T := T) (n := n) (by omega) hS h hx
  have e2 := sr_loops (T := T) (n := n) hn hS h hx
  have lm := lc_map (cf := callF T n) (own := [9]) (s := .val (.blt .range (.cons (.int 2) .nil))) (g := .nm 9) (c := .bl true) (e := .blt .repr (.cons (.call F_loops (.cons (.var 4) (.cons (.var 5) .nil))) .nil)) (env := [o0, o1, some (.ref q), o3, some (houseF i ps), some (.int x), o6, some (.str a), some (.str b), o9]) (S := S) (src := .val (.rng 0 2)) (xs := rngL 0 2)
    (f := fun _ => .str b) (by simp [range1]) (gives_rng (rgOk_of (by omega) (by omega) (by omega) (by omega) (by omega))) (by simp [rngL_len]) fun z hz => by
      simp only [houseF] at e2
      simp [lcTurn_eq, wipe, e2, hb]
  rw [show (rngL 0 2).map (fun _ => Val.str b) = [.str b, .str b] from rfl] at lm
  have ce : evE (callF T n) (.gc (.cmp .ne (.var 6) (.lst (.cons (.var 8) (.cons (.var 8) .nil))))) [o0, o1, some (.ref q), o3, some (houseF i ps), some (.int x), some (.ref S.n), some (.str a), some (.str b), o9] (S.new (.lst [.str b, .str b])) = .ok (.bl false) (S.new (.lst [.str b, .str b])) := by
    refine gc_by (v := .bl false) (S1 := (S.new (.lst [.str b, .str b])).new (.lst [.str b, .str b])) ?_ (gcf1 rfl (by simp [hS]) rfl)
    have cn := cop_ne_lst (S := (S.new (.lst [.str b, .str b])).new (.lst [.str b, .str b])) (r := S.n) (q := S.n + 1) (xs := [.str b, .str b]) (ys := [.str b, .str b]) (by rw [ug_old (by simp), ug_new]) (ug_new' rfl) rfl rfl
    rw [(veqs_iff 11 11 [.str b, .str b] [.str b, .str b] rfl rfl).mpr rfl] at cn
    simp [cap_eq, cn]
  have gd := gcE_drop (S := S) (S1 := S.new (.lst [.str b, .str b])) (k := S.n) (env := [o0, o1, some (.ref q), o3, some (houseF i ps), some (.int x), some (.ref S.n), some (.str a), some (.str b), o9]) rfl hS (by simp) (by rw [old_new (Nat.le_refl _)]; exact old_self hS)
  refine ⟨renO S.n [] o0, renO S.n [] o1, renO S.n [] o3, renO S.n [] (some (.int x)), renO S.n [] (some (.ref S.n)), renO S.n [] (some (.str a)), renO S.n [] (some (.str b)), renO S.n [] o9, ?_⟩
  simp only [List.map_cons, List.map_nil] at gd
  rw [ren_keep (v := .ref q) (by simp [nrs, hq]), ren_keep (v := houseF i ps) (by simp [pures_nrs _ (encD_pure _ _)])] at gd
  simp only [houseF] at e1 lm ce ha gd
  unfold B_k28_law_0
  simp [ha, hb, e1, lm, ce, gd, ne_same]
end
end Mp

set_option Elab.async false
set_option linter.all false
set_option maxRecDepth 100000
set_option maxHeartbeats 1600000
/-! k28: the law. -/
namespace Mp
open PySem
variable {T : Nat → Option MDef} {n : Nat} {S : Sto} {r : Nat}
section
variable [Has T F_is_whole d_is_whole] [Has T F_is_among d_is_among] [Has T F_rises d_rises] [Has T F_is_door_of d_is_door_of] [Has T F_is_house_of d_is_house_of] [Has T F_is_house d_is_house] [Has T F_need_house d_need_house] [Has T F_many_keys d_many_keys] [Has T F_free_in d_free_in] [Has T F_need_room d_need_room]
variable [Has T F_beyond d_beyond] [Has T F_ways_from d_ways_from] [Has T F_loops_in d_loops_in] [Has T F_loops d_loops]
variable [Has T F_k27_over d_k27_over] [Has T F_k27_ways d_k27_ways] [Has T F_k28_loops d_k28_loops]
variable [Has T F_k27_next d_k27_next] [Has T F_k27_draw d_k27_draw] [Has T F_k27_house d_k27_house]
/-- a lap: a house, each of its rooms -/
theorem k28_lap (hn : 8 ≤ n) (hS : S.wf) {q : Nat} (hq : PenAt S q) {o0 o1 o3 o4 o5 o6 o7 o8 o9 : Option Val} :
    ∃ a f b p0 p1 p3 p4 p5 p6 p7 p8 p9, evB (callF T n) S.n B_k28_law_1 [o0, o1, some (.ref q), o3, o4, o5, o6, o7, o8, o9] S = .ok (.next, [p0, p1, some (.ref q), p3, p4, p5, p6, p7, p8, p9]) (S.put q (penL a f b)) := by
  have hlt := hq.lt
  obtain ⟨i, ps, a, f, b, F, e1⟩ := sr_house (T := T) (n := n) (by omega) hS hq
  have hw := hq.wf hS (a := a) (f := f) (b := b)
  have hlo := F.lo
  have hhi := F.hi
  have loop := for_next (cf := callF T n) (k := S.n) (g := .nm 5) (src := .val (.rng 0 i)) (xs := rngL 0 i) (p := B_k28_law_0) (env := [o0, o1, some (.ref q), o3, some (houseF i ps), o5, o6, o7, o8, o9]) (S := S.put q (penL a f b))
    (fun _ env S' => S' = S.put q (penL a f b) ∧ ∃ o0 o1 o3 o5 o6 o7 o8 o9, env = [o0, o1, some (.ref q), o3, some (houseF i ps), o5, o6, o7, o8, o9])
    (by rw [rngL_len]; omega) (fun j env S' _ => gives_rng (rgOk_of (by omega) (by omega) (by omega) (by omega) (by omega)) j) ?_ ⟨rfl, _, _, _, _, _, _, _, _, rfl⟩
  · obtain ⟨env', S', e2, rfl, p0, p1, p3, p5, p6, p7, p8, p9, rfl⟩ := loop
    have gd := gcE_drop (S := S.put q (penL a f b)) (S1 := S.put q (penL a f b)) (k := S.n) (env := [p0, p1, some (.ref q), p3, some (houseF i ps), p5, p6, p7, p8, p9]) rfl hw (Nat.le_refl _) (old_self hw)
    simp only [List.map_cons, List.map_nil] at gd
    rw [ren_keep (v := .ref q) (by simp [nrs, hlt])] at gd
    refine ⟨a, f, b, renO S.n [] p0, renO S.n [] p1, renO S.n [] p3, renO S.n [] (some (houseF i ps)), renO S.n [] p5, renO S.n [] p6, renO S.n [] p7, renO S.n [] p8, renO S.n [] p9, ?_⟩
    · have r1 := range1 (S := S.put q (penL a f b)) (show -(2 ^ 62) ≤ i by omega) (show i < 2 ^ 62 by omega)
      have ix : itemAt [.int i, .tup (ps.map (encD ps.length))] 0 = some (.int i) := rfl
      simp only [houseF] at e1 e2 gd ⊢
      simp [B_k28_law_1, e1, es_for, r1, e2, gd]
  · rintro j z env S' hz ⟨rfl, o0, o1, o3, o5, o6, o7, o8, o9, rfl⟩
    obtain ⟨rfl, hj⟩ := rngL_get hz
    obtain ⟨p0, p1, p3, p5, p6, p7, p8, p9, e⟩ := k28_room (T := T) (n := n) hn hw F (x := 0 + (j : Int)) (by omega) (q := q) (by simpa using hlt) (o0 := o0) (o1 := o1) (o3 := o3) (o6 := o6) (o7 := o7) (o8 := o8) (o9 := o9)
    refine ⟨_, _, ?_, rfl, p0, p1, p3, p5, p6, p7, p8, p9, rfl⟩
    rw [n_put] at e
    simp only [ag_nm, bind_ok_, List.set_cons_succ, List.set_cons_zero]
    exact e
variable [Has T F_k15_pen_of d_k15_pen_of]
/-- a cell: its laps -/
theorem k28_cell (hn : 8 ≤ n) (hS : S.wf) {c : Int} {o0 o2 o3 o4 o5 o6 o7 o8 o9 : Option Val} :
    ∃ p0 p1 p2 p3 p4 p5 p6 p7 p8 p9, evB (callF T n) S.n B_k28_law_2 [o0, some (.int c), o2, o3, o4, o5, o6, o7, o8, o9] S = .ok (.next, [p0, p1, p2, p3, p4, p5, p6, p7, p8, p9]) S := by
  obtain ⟨a, f, b, e1⟩ := sr_pen (T := T) (n := n) (by omega) hS (c := c)
  have loop := for_next (cf := callF T n) (k := S.n + 1) (g := .nm 3) (src := .val (.rng 0 4)) (xs := rngL 0 4) (p := B_k28_law_1) (env := [o0, some (.int c), some (.ref S.n), o3, o4, o5, o6, o7, o8, o9]) (S := S.new (penL a f b))
    (fun _ env S' => (∃ a f b, S' = S.new (penL a f b)) ∧ ∃ o0 o1 o3 o4 o5 o6 o7 o8 o9, env = [o0, o1, some (.ref S.n), o3, o4, o5, o6, o7, o8, o9])
    (by rw [rngL_len]; omega) (fun j env S' _ => gives_rng (rgOk_of (by omega) (by omega) (by omega) (by omega) (by omega)) j) ?_ ⟨⟨a, f, b, rfl⟩, _, _, _, _, _, _, _, _, _, rfl⟩
  · obtain ⟨env', S', e2, ⟨a1, f1, b1, rfl⟩, p0, p1, p3, p4, p5, p6, p7, p8, p9, rfl⟩ := loop
    have gd := gcE_drop (S := S) (S1 := S.new (penL a1 f1 b1)) (k := S.n) (env := [p0, p1, some (.ref S.n), p3, p4, p5, p6, p7, p8, p9]) rfl hS (by simp) (by rw [old_new (Nat.le_refl _)]; exact old_self hS)
    simp only [List.map_cons, List.map_nil] at gd
    refine ⟨renO S.n [] p0, renO S.n [] p1, renO S.n [] (some (.ref S.n)), renO S.n [] p3, renO S.n [] p4, renO S.n [] p5, renO S.n [] p6, renO S.n [] p7, renO S.n [] p8, renO S.n [] p9, ?_⟩
    · have r1 := range1 (S := S.new (penL a f b)) (show -(2 ^ 62) ≤ (4 : Int) by omega) (show (4 : Int) < 2 ^ 62 by omega)
      simp [B_k28_law_2, e1, es_for, r1, e2, gd]
  · rintro j z env S' hz ⟨⟨a, f, b, rfl⟩, o0, o1, o3, o4, o5, o6, o7, o8, o9, rfl⟩
    have pen : PenAt (S.new (penL a f b)) S.n := ⟨a, f, b, ug_new⟩
    obtain ⟨a1, f1, b1, p0, p1, p3, p4, p5, p6, p7, p8, p9, e⟩ := k28_lap (T := T) (n := n) hn (S := S.new (penL a f b)) (by simp [hS]) pen (o0 := o0) (o1 := o1) (o3 := some z) (o4 := o4) (o5 := o5) (o6 := o6) (o7 := o7) (o8 := o8) (o9 := o9)
    refine ⟨_, _, ?_, ⟨a1, f1, b1, rfl⟩, p0, p1, p3, p4, p5, p6, p7, p8, p9, rfl⟩
    rw [n_new, up_top] at e
    simp only [ag_nm, bind_ok_, List.set_cons_succ, List.set_cons_zero]
    exact e
variable [Has T F_k01_cell_at d_k01_cell_at] [Has T F_k28_law d_k28_law]
theorem sp_k28_law (hn : 9 ≤ n) (hS : S.wf) {ns : List Int} : ∃ S', callF T n F_k28_law [.fl (ns.map Val.int)] S = .ok (.bl true) S' := by
  obtain ⟨c, ec⟩ := sq_cell (T := T) (n := n - 1) (S := S) (by omega) (ns := ns) (k := 0)
  have hc : cut (ns.map Val.int) (some 1) (some 4) = ((ns.take 4).drop 1).map Val.int := by
    have := cut_mid (xs := ns.map Val.int) (n := 1) (m := 4)
    rw [← List.map_take, ← List.map_drop] at this
    exact this
  have hl : ((ns.take 4).drop 1).length ≤ 3 := by rw [List.length_drop, List.length_take]; omega
  generalize (ns.take 4).drop 1 = ms at hc hl
  have e1 : evE (callF T (n - 1)) (.gc (.bin .add (.lst (.cons (.call F_k01_cell_at (.cons (.var 0) (.cons (.int 0) .nil))) .nil)) (.sl (.var 0) (.int 1) (.int 4)))) [some (.fl (ns.map Val.int)), none, none, none, none, none, none, none, none, none] S = .ok (.ref S.n) (S.new (.lst ((c :: ms).map Val.int))) := by
    refine gc_by (v := .ref (S.n + 2)) (S1 := ((S.new (.lst [.int c])).new (.lst (ms.map Val.int))).new (.lst ((c :: ms).map Val.int))) ?_ ?_
    · have g := bop_lst (S := (S.new (.lst [.int c])).new (.lst (ms.map Val.int))) (r := S.n) (q := S.n + 1) (xs := [.int c]) (ys := ms.map Val.int) (by rw [ug_old (by simp), ug_new]) (ug_new' rfl) (by simp; omega)
      have ec' : callF T (n - 1) F_k01_cell_at [.fl (ns.map Val.int), .int 0] S = .ok (.int c) S := ec
      have sl : ∀ S : Sto, getSl (.fl (ns.map Val.int)) (some (some 1)) (some (some 4)) S = .ok (.ref S.n) (S.new (.lst (ms.map Val.int))) := fun S => by rw [← hc]; rfl
      simp [ec', cap_eq, sl, g]
    · exact gcr3_2 (S := S) (k := S.n) (r := S.n + 2) (a := .lst [.int c]) (b := .lst (ms.map Val.int)) (c := .lst ((c :: ms).map Val.int)) rfl hS rfl (ints_rlt _)
  have hw : (S.new (.lst ((c :: ms).map Val.int))).wf := by simp [hS, ints_rlt]
  have loop := for_next (cf := callF T (n - 1)) (k := S.n + 1) (g := .nm 1) (src := .val (.ref S.n)) (xs := (c :: ms).map Val.int) (p := B_k28_law_2) (env := [some (.fl (ns.map Val.int)), none, none, none, none, none, none, none, none, none]) (S := S.new (.lst ((c :: ms).map Val.int)))
    (fun _ env S' => S' = S.new (.lst ((c :: ms).map Val.int)) ∧ ∃ o0 o1 o2 o3 o4 o5 o6 o7 o8 o9, env = [o0, o1, o2, o3, o4, o5, o6, o7, o8, o9])
    (by simp; omega) (fun j env S' q => by rw [q.1]; exact gives_ref ug_new j) ?_ ⟨rfl, _, _, _, _, _, _, _, _, _, _, rfl⟩
  · obtain ⟨env', S', e2, rfl, p0, p1, p2, p3, p4, p5, p6, p7, p8, p9, rfl⟩ := loop
    refine ⟨S, ?_⟩
    rw [call_eq (by omega) _ rfl]
    simp only [List.map_cons] at e1 e2 hw
    simp [d_k28_law, es_for, e1, e2, hS]
  · rintro j z env S' hz ⟨rfl, o0, o1, o2, o3, o4, o5, o6, o7, o8, o9, rfl⟩
    rw [List.getElem?_map] at hz
    obtain ⟨y, _, rfl⟩ := Option.map_eq_some_iff.mp hz
    obtain ⟨p0, p1, p2, p3, p4, p5, p6, p7, p8, p9, e⟩ := k28_cell (T := T) (n := n - 1) (by omega) hw (c := y) (o0 := o0) (o2 := o2) (o3 := o3) (o4 := o4) (o5 := o5) (o6 := o6) (o7 := o7) (o8 := o8) (o9 := o9)
    refine ⟨_, _, ?_, rfl, p0, p1, p2, p3, p4, p5, p6, p7, p8, p9, rfl⟩
    rw [n_new] at e
    simp only [ag_nm, bind_ok_, List.set_cons_succ, List.set_cons_zero]
    exact e
end
end Mp

set_option Elab.async false
set_option linter.all false
set_option maxRecDepth 1000000
set_option maxHeartbeats 0
namespace K28
open PySem PySem.Spec PyProof.Rows L2 Mp
def tab0 : List MDef := [d_is_whole, d_is_among, d_rises, d_is_door_of, d_is_house_of, d_is_house, d_need_house, d_many_keys, d_free_in, d_need_room, d_beyond, d_ways_from, d_loops_in, d_loops, d_k01_cell_at, d_k27_next, d_k15_pen_of, d_k27_draw, d_k27_house, d_k27_over]
def tab1 : List MDef := [d_k27_ways, d_k28_loops, d_k28_law]
def tab : List MDef := tab0 ++ tab1
def fnl0 : List (Str × Nat) := [("is_whole", 8), ("is_among", 9), ("rises", 10), ("is_door_of", 11), ("is_house_of", 12), ("is_house", 13), ("need_house", 14), ("many_keys", 15), ("free_in", 16), ("need_room", 18), ("beyond", 19), ("ways_from", 20), ("loops_in", 21), ("loops", 22), ("_law_cell_at", 24), ("_law_next", 25), ("_law_pen_of", 26), ("_law_draw", 27), ("_law_house", 28), ("_law_over", 29), ("_law_ways", 30), ("_law_loops", 31), ("law", 32)]
def fnl : List (Str × Nat) := fnl0
def frees : List Str := ["all", "bool", "enumerate", "int", "isinstance", "len", "list", "max", "range", "repr", "tuple", "zip"]
def cI : List (Str × Int) := [("MOST_ROOMS", 6), ("MOST_DOORS", 7)]
def cS : List (Str × Str) := []
def loose0 : List Str := ["KeepError", "NoHouse", "NotFree", "NoRoom", "MOST_ROOMS", "MOST_DOORS", "is_whole", "is_among", "rises", "is_door_of", "is_house_of", "is_house", "need_house", "many_keys", "free_in", "need_room", "beyond", "ways_from", "loops_in", "loops", "_law_cell_at", "_law_next", "_law_pen_of", "_law_draw", "_law_house", "_law_over", "_law_ways", "_law_loops"]
def loose : List Str := loose0
abbrev RR : PySem.W.OpenLaw := PySem.Challenge.rw_keykeep_k28_loops_told
def top (i : Nat) : Stmt := PySem.Challenge.pw_keykeep_k28_loops_told.main.body.getD i (.Pass ⟨0, 0, 0, 0⟩)
abbrev rowR : PySem.W.OpenRow := PySem.W.OpenLaw.row RR
def fnD : List He.DefD := fnl.map (mkD top)
def faD : List He.Fa := faOf fnl frees cI cS
abbrev hk : PySem.W.Hook := He.hookD 4 faD fnD
def ob (s : PySem.W.SharedT) : He.AlD := He.obsDG 4 faD fnD (HandSHeadRun.getT s)
theorem ob_eq (s : PySem.W.SharedT) : ob s = hk.obs s.abs := He.obsDG_eq (HandSHeadRun.getT_eq s)
theorem run (w : World) : HandSHeadRun.RunEq rowR (PySem.W.view rowR.prog [32]) hk ob 6000 loose w := by
  intro os
  kernel_rfl
def gl : Gl0 := glOf frees cI cS tab
theorem ck : ckAll gl top tab fnl = true := by kernel_rfl
instance : Has gl.T F_is_whole d_is_whole := ⟨by kernel_rfl⟩
instance : Has gl.T F_is_among d_is_among := ⟨by kernel_rfl⟩
instance : Has gl.T F_rises d_rises := ⟨by kernel_rfl⟩
instance : Has gl.T F_is_door_of d_is_door_of := ⟨by kernel_rfl⟩
instance : Has gl.T F_is_house_of d_is_house_of := ⟨by kernel_rfl⟩
instance : Has gl.T F_is_house d_is_house := ⟨by kernel_rfl⟩
instance : Has gl.T F_need_house d_need_house := ⟨by kernel_rfl⟩
instance : Has gl.T F_many_keys d_many_keys := ⟨by kernel_rfl⟩
instance : Has gl.T F_free_in d_free_in := ⟨by kernel_rfl⟩
instance : Has gl.T F_need_room d_need_room := ⟨by kernel_rfl⟩
instance : Has gl.T F_beyond d_beyond := ⟨by kernel_rfl⟩
instance : Has gl.T F_ways_from d_ways_from := ⟨by kernel_rfl⟩
instance : Has gl.T F_loops_in d_loops_in := ⟨by kernel_rfl⟩
instance : Has gl.T F_loops d_loops := ⟨by kernel_rfl⟩
instance : Has gl.T F_k01_cell_at d_k01_cell_at := ⟨by kernel_rfl⟩
instance : Has gl.T F_k27_next d_k27_next := ⟨by kernel_rfl⟩
instance : Has gl.T F_k15_pen_of d_k15_pen_of := ⟨by kernel_rfl⟩
instance : Has gl.T F_k27_draw d_k27_draw := ⟨by kernel_rfl⟩
instance : Has gl.T F_k27_house d_k27_house := ⟨by kernel_rfl⟩
instance : Has gl.T F_k27_over d_k27_over := ⟨by kernel_rfl⟩
instance : Has gl.T F_k27_ways d_k27_ways := ⟨by kernel_rfl⟩
instance : Has gl.T F_k28_loops d_k28_loops := ⟨by kernel_rfl⟩
instance : Has gl.T F_k28_law d_k28_law := ⟨by kernel_rfl⟩
theorem ans (ns : List Int) (_ : ns.length ≤ 63) : ∃ S, callF gl.T 60 22 [.fl (ns.map Val.int)] ⟨0, []⟩ = .ok (.bl true) S := sp_k28_law (T := gl.T) (n := 60) (S := ⟨0, []⟩) (by omega) wf_nil
end K28
open PySem PySem.W PySem.Calls PyProof.Rows in
theorem PySem.Challenge.cw_keykeep_k28_loops_told_holds : PySem.Challenge.rw_keykeep_k28_loops_told.Holds := by
  w_on; o_law
  refine HandSHeadRun.head_any (r := K28.rowR) (q := view K28.rowR.prog [32]) (H := K28.hk) (ob := K28.ob) (M := 6000) (loose := K28.loose) (d := HandSHeadRun.topDef K28.rowR.prog 32) (kwd := []) K28.ob_eq
    (by kernel_rfl) (fun s => by kernel_rfl) K28.run (by kernel_rfl) (by kernel_rfl) (by kernel_rfl) (by rfl) (by first | assumption | decide +kernel) (by decide +kernel) ⟨rfl, rfl, rfl, rfl, rfl, by decide +kernel⟩ ?hw ?hc
  case hw => w_witness2
  case hc =>
    refine Mp.walk_M (l := K28.RR) (most := 63) (n := 60) (lawi := 22) (g := K28.gl) (ld := Mp.d_k28_law) (x := "_law_script") rfl (by rw [sizeLine_eq]; decide) (by kernel_rfl) ⟨rfl, by decide, by decide⟩ (by kernel_rfl) (by kernel_rfl) (by kernel_rfl) ?F K28.ans
    intro w mg h Y G
    obtain ⟨K, KX, c⟩ := Y
    exact ⟨K, KX, Mp.tab_of KX G c K28.ck⟩
