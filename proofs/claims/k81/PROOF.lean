import PyProof.Rows.All
import Wide.All
import OpenK.AllK
import Wide.FinOn
import PyProof.Rows.SetFrom
import HandS.List
import HandS.Text
import KE.SortData
import HandS.ForMost
import HandS.Wide
import HandS.TupAny
import HandS.TupMul
import HandS.Lambda
import HandS.Style
import HandS.Deep
import HandS.NoneIn
import HandS.Strs
import HandS.TupLe
import HandS.Rev
import HandS.Zip
import KE.SortKeyHeap
import HandS.Keys
import HandS.IsInst
import HandS.Property
import HandS.Dict
import HandS.RevTup
import HandS.Walk
import KE.GoesZip
import KE.GoesEnum
import KE.GoesMore
import HandS.Star
import KE.KCallOwn
import PyProof.ReprRoads
import HandS.Exc
import HandS.Head0
import HandS.Head1
import HandS.Head2
import HandS.HeadEnd
import HandS.HeadHook1
import HandS.HeadHook2
import HandS.HeadHook3
import HandS.HeadHook4
import HandS.EndTab
import HandS.HeadWalk
import HandS.Defaults
import PyProof.Rows.KernelRfl
import PyProof.StrLawsIn
import PySem.Challenge.RW_fiveparcels_k81_whole_broken_bounds_judg
set_option Elab.async false
set_option linter.all false
set_option autoImplicit false
set_option maxRecDepth 100000
set_option maxHeartbeats 4000000
namespace DL
open PySem L2

/-- data without addresses -/
inductive D where
  | non | bl (b : Bool) | int (i : Int) | str (x : Str)
  | lst (xs : List D) | tup (xs : List D)
  | ins (C : Nat) (xs : List D)
  | emp
deriving Inhabited

inductive Cell where
  | lst (xs : List D)
  | dct (kvs : List (List Key × D))
  | dead
abbrev S := List Cell

inductive R where
  | d (x : D) | c (k : Nat)
deriving Inhabited
abbrev EnvR := List (Option R)
abbrev DSem := List R → S → Option (R × S)

def lim : Nat := 1000000
def D.isInt : D → Option Int
  | .int i => some i
  | _ => none
def intsOf : List D → Option (List Int)
  | [] => some []
  | .int i :: r => (intsOf r).map (i :: ·)
  | _ :: _ => none
def strsOf : List D → Option (List Str)
  | [] => some []
  | .str i :: r => (strsOf r).map (i :: ·)
  | _ :: _ => none
def blsOf : List D → Option (List Bool)
  | [] => some []
  | .bl i :: r => (blsOf r).map (i :: ·)
  | _ :: _ => none
mutual
/-- == -/
def eqD : D → D → Bool
  | .non, .non => true
  | .bl a, .bl b => a == b
  | .bl a, .int b => (if a then 1 else 0) == b
  | .int a, .bl b => a == (if b then 1 else 0)
  | .int a, .int b => a == b
  | .str a, .str b => a == b
  | .lst xs, .lst ys => eqDs xs ys
  | .tup xs, .tup ys => eqDs xs ys
  | .emp, .emp => true
  | _, _ => false
def eqDs : List D → List D → Bool
  | [], [] => true
  | x :: xs, y :: ys => eqD x y && eqDs xs ys
  | _, _ => false
end
mutual
/-- data that == is told of here, not deeper than n -/
def shp : Nat → D → Bool
  | _, .non => true
  | _, .bl _ => true
  | _, .int _ => true
  | _, .str _ => true
  | 0, .lst xs => xs.isEmpty
  | 0, .tup xs => xs.isEmpty
  | n + 1, .lst xs => shps n xs
  | n + 1, .tup xs => shps n xs
  | _, _ => false
def shps : Nat → List D → Bool
  | _, [] => true
  | n, x :: xs => shp n x && shps n xs
end
def mulOk (i j : Int) : Bool := decide (-(2 ^ 64) < i ∧ i < 2 ^ 64) || decide (-(2 ^ 64) < j ∧ j < 2 ^ 64) || decide (i.natAbs.log2 + j.natAbs.log2 < 1000000)
def binD : Operator → D → D → Option D
  | .Add, .int i, .int j => some (.int (i + j))
  | .Add, .str x, .str y => if x.length + y.length ≤ lim then some (.str (x ++ y)) else none
  | .Add, .lst xs, .lst ys => if xs.length + ys.length ≤ lim then some (.lst (xs ++ ys)) else none
  | .Add, .tup xs, .tup ys => if xs.length + ys.length ≤ lim then some (.tup (xs ++ ys)) else none
  | .Sub, .int i, .int j => some (.int (i - j))
  | .Mult, .int i, .int j => if mulOk i j then some (.int (i * j)) else none
  | .Mult, .tup xs, .int j => if xs.length ≤ 1000 ∧ -1000 ≤ j ∧ j ≤ 1000 then some (.tup (List.replicate j.toNat xs).flatten) else none
  | .Mult, .lst xs, .int j => if xs.length ≤ 1000 ∧ -1000 ≤ j ∧ j ≤ 1000 then some (.lst (List.replicate j.toNat xs).flatten) else none
  | .FloorDiv, .int i, .int j => if 0 < j ∧ j.natAbs.log2 < 9000 then some (.int (i / j)) else none
  | .Mod, .int i, .int j => if 0 < j then some (.int (i % j)) else none
  | .Pow, .int i, .int j => if 0 ≤ j ∧ j ≤ 1000000 ∧ i.natAbs < 2 ^ 64 then some (.int (i ^ j.toNat)) else none
  | .LShift, .int i, .int j => if 0 ≤ j ∧ j ≤ 1000000 ∧ i.natAbs < 2 ^ 64 then some (.int (i * 2 ^ j.toNat)) else none
  | .RShift, .int i, .int j => if 0 ≤ j then some (.int (i / 2 ^ j.toNat)) else none
  | .BitAnd, .int i, .int j => some (.int (Builtin.bitAnd i j))
  | _, _, _ => none
def inD (x : D) : List D → Bool
  | [] => false
  | y :: ys => eqD y x || inD x ys
def cmpD : CmpOp → D → D → Option D
  | .Eq, x, y => if shp 20 x && shp 20 y then some (.bl (eqD x y)) else none
  | .NotEq, x, y => if shp 20 x && shp 20 y then some (.bl (!eqD x y)) else none
  | .Lt, .int i, .int j => some (.bl (decide (i < j)))
  | .LtE, .int i, .int j => some (.bl (decide (i ≤ j)))
  | .Gt, .int i, .int j => some (.bl (decide (j < i)))
  | .GtE, .int i, .int j => some (.bl (decide (j ≤ i)))
  | .In, .str x, .str y => some (.bl (!(Builtin.Str.occurrences y x 0 y.length 1).isEmpty))
  | .NotIn, .str x, .str y => some (.bl (!(!(Builtin.Str.occurrences y x 0 y.length 1).isEmpty)))
  | .In, x, .lst ys => if shp 20 x && shps 20 ys then some (.bl (inD x ys)) else none
  | .In, x, .tup ys => if shp 20 x && shps 20 ys then some (.bl (inD x ys)) else none
  | .NotIn, x, .lst ys => if shp 20 x && shps 20 ys then some (.bl (!inD x ys)) else none
  | .NotIn, x, .tup ys => if shp 20 x && shps 20 ys then some (.bl (!inD x ys)) else none
  | .Is, .non, .non => some (.bl true)
  | .Is, _, .non => some (.bl false)
  | .IsNot, .non, .non => some (.bl false)
  | .IsNot, _, .non => some (.bl true)
  | .Is, .bl a, .bl b => some (.bl (decide (a = b)))
  | .IsNot, .bl a, .bl b => some (.bl (!decide (a = b)))
  | _, _, _ => none
def chars (x : Str) : List D := x.cps.toList.map fun c => D.str ⟨#[c]⟩
/-- what a for walks -/
def seqD : D → Option (List D)
  | .lst xs => some xs
  | .tup xs => some xs
  | _ => none
def itemsD : D → Option (List D)
  | .lst xs => some xs
  | .tup xs => some xs
  | .str x => some (chars x)
  | _ => none
def idxD : D → D → Option D
  | .lst xs, .int i => atI xs i
  | .tup xs, .int i => atI xs i
  | .str x, .int i => if x.length ≤ lim then (atI x.cps.toList i).map fun c => .str ⟨#[c]⟩ else none
  | _, _ => none
def cutL {α : Type} (xs : List α) (lo hi : Option Int) : List α := (xs.drop (HT.sIx xs.length 0 lo)).take (HT.sIx xs.length xs.length hi - HT.sIx xs.length 0 lo)
def sliceD : D → Option Int → Option Int → Option D
  | .lst xs, lo, hi => some (.lst (cutL xs lo hi))
  | .tup xs, lo, hi => some (.tup (cutL xs lo hi))
  | _, _, _ => none
def truthD : D → Option Bool
  | .bl b => some b
  | .int i => some (i != 0)
  | .lst xs => some (!xs.isEmpty)
  | .tup xs => some (!xs.isEmpty)
  | .non => some false
  | _ => none
mutual
def toPy : D → Option PyData
  | .non => some .none
  | .bl b => some (.bool b)
  | .int i => some (.int i)
  | .str x => some (.str x)
  | .tup xs => (toPys xs).map .tuple
  | .lst xs => (toPys xs).map .list
  | _ => none
def toPys : List D → Option (List PyData)
  | [] => some []
  | x :: xs => (toPy x).bind fun p => (toPys xs).map (p :: ·)
end
def insK {α : Type} (le : α → α → Bool) (a : α) : List α → List α
  | [] => [a]
  | b :: l => if le a b then a :: b :: l else b :: insK le a l
def isort {α : Type} (le : α → α → Bool) : List α → List α
  | [] => []
  | a :: l => insK le a (isort le l)
/-- what a lambda captures: a datum -/
def fvE (δ : EnvR) (i : Nat) : Option R := match δ[i]? with
  | some (some (.d y)) => some (.d y)
  | _ => none
def tupC : PyData → Bool
  | .tuple (_ :: _) => true
  | _ => false
def plainC : PyData → Bool
  | .tuple _ => false
  | .none => false
  | _ => true
def okKeys (kz : List PyData) : Bool := (kz.all fun a => kz.all fun b => PySem.W.alike a b) && (kz.all tupC || kz.all plainC) && kz.all fun a => decide (a.depth ≤ 50)
def keyOf (f : D → Option (D × S)) (x : D) : Option PyData := (f x).bind fun q => if q.2.isEmpty then toPy q.1 else none
def keysOf (f : D → Option (D × S)) : List D → Option (List PyData)
  | [] => some []
  | x :: xs => (keyOf f x).bind fun p => (keysOf f xs).map (p :: ·)
def sortD (f : D → Option (D × S)) (xs : List D) : Option (List D) := (keysOf f xs).bind fun kz => if okKeys kz = true then some (isort (PySem.W.dataLe false fun x => (keyOf f x).getD .none) xs) else none
/-- the text that repr gives -/
def rprD (d : D) : Option Str := (toPy d).bind fun p => if p.showable = true ∧ p.hasDict = false ∧ p.depth ≤ 50 ∧ p.shown.length ≤ lim then some p.shown else none
def isIns : D → Bool
  | .ins _ _ => true
  | _ => false
/-- the builtins that are called by name -/
inductive BI where
  | len | tuple | list | sum | min1 | max1 | min2 | max2 | all | abs | int | str | repr | divmod | sorted
deriving DecidableEq
def minL : List Int → Option Int
  | [] => none
  | x :: r => some (r.foldl (fun a b => if b < a then b else a) x)
def maxL : List Int → Option Int
  | [] => none
  | x :: r => some (r.foldl (fun a b => if a < b then b else a) x)
def biD : BI → List D → Option D
  | .len, [.lst xs] => some (.int xs.length)
  | .len, [.tup xs] => some (.int xs.length)
  | .len, [.str x] => if x.length ≤ lim then some (.int x.length) else none
  | .tuple, [.lst xs] => some (.tup xs)
  | .tuple, [.tup xs] => some (.tup xs)
  | .list, [.lst xs] => some (.lst xs)
  | .list, [.tup xs] => some (.lst xs)
  | .sum, [.lst xs] => (intsOf xs).map fun ns => .int ns.sum
  | .min1, [.lst xs] => (intsOf xs).bind fun ns => (minL ns).map .int
  | .max1, [.lst xs] => (intsOf xs).bind fun ns => (maxL ns).map .int
  | .min2, [.int i, .int j] => some (.int (if j < i then j else i))
  | .max2, [.int i, .int j] => some (.int (if j > i then j else i))
  | .all, [.lst xs] => (blsOf xs).map fun bs => .bl (bs.all id)
  | .sorted, [.lst xs] => (toPys xs).bind fun kz => if okKeys kz = true then some (.lst (isort (PySem.W.dataLe false fun x => (toPy x).getD .none) xs)) else none
  | .abs, [.int i] => some (.int (if i < 0 then -i else i))
  | .int, [.int i] => some (.int i)
  | .int, [.bl b] => some (.int (if b then 1 else 0))
  | .str, [.int i] => if i.natAbs.log2 < 1920 then some (.str (Str.ofString (toString i))) else none
  | .repr, [.bl b] => some (.str (if b then "True" else "False"))
  | .divmod, [.int i, .int j] => if 0 < j ∧ j < 1073741824 then some (.tup [.int (i / j), .int (i % j)]) else none
  | _, _ => none
/-- isinstance of a builtin class -/
inductive TyN where
  | int | bool | str | tuple | list
deriving DecidableEq
def TyN.name : TyN → String
  | .int => "int" | .bool => "bool" | .str => "str" | .tuple => "tuple" | .list => "list"
def isiD : TyN → D → Bool
  | .int, .int _ => true
  | .int, .bl _ => true
  | .bool, .bl _ => true
  | .str, .str _ => true
  | .tuple, .tup _ => true
  | .list, .lst _ => true
  | _, _ => false
def zipD : List D → List D → List D
  | x :: xs, y :: ys => .tup [x, y] :: zipD xs ys
  | _, _ => []
def zip3D : List D → List D → List D → List D
  | x :: xs, y :: ys, z :: zs => .tup [x, y, z] :: zip3D xs ys zs
  | _, _, _ => []
def enumD : Nat → List D → List D
  | _, [] => []
  | n, x :: xs => .tup [.int n, x] :: enumD (n + 1) xs
def rngD (lo : Int) : Nat → List D
  | 0 => []
  | n + 1 => .int lo :: rngD (lo + 1) n
inductive MI where
  | index | split | join | count | upper
deriving DecidableEq
def indexL (x : D) : Nat → List D → Option Nat
  | _, [] => none
  | n, y :: ys => if eqD y x then some n else indexL x (n + 1) ys
def miD : MI → D → List D → Option D
  | .index, .lst xs, [y] => if shps 20 xs && shp 20 y then (indexL y 0 xs).map fun (n : Nat) => D.int (n : Int) else none
  | .index, .tup xs, [y] => if shps 20 xs && shp 20 y then (indexL y 0 xs).map fun (n : Nat) => D.int (n : Int) else none
  | .split, .str x, [.str sep] => if sep.length ≠ 0 ∧ x.length + 2 ≤ lim then some (.lst ((Txt.split x sep).map .str)) else none
  | .upper, .str x, [] => if x.length ≤ lim then some (.str (Txt.upper x)) else none
  | .join, .str sep, [.lst xs] => (strsOf xs).bind fun ys => if (ys.map (·.length)).sum + sep.length * ys.length ≤ lim then some (.str (Txt.join sep ys)) else none
  | .join, .str sep, [.tup xs] => (strsOf xs).bind fun ys => if (ys.map (·.length)).sum + sep.length * ys.length ≤ lim then some (.str (Txt.join sep ys)) else none
  | _, _, _ => none

/-- how many different ones -/
def dedupN (ns : List Int) : Nat := (PyProof.Rows.firstMet (fun i => ns.getD i 0) ns.length).length

/-- targets -/
inductive CT where
  | nm (i : Nat) | tp (r : CT) | nil | cons (a r : CT)
mutual
inductive CE where
  | var (i : Nat) | glob (x : Str) (d : D)
  | cint (i : Int) | cstr (s : Str) | cbl (b : Bool) | cnon
  | bin (op : Operator) (a b : CE) | neg (a : CE)
  | cmp (op : CmpOp) (a b : CE) | chain (o1 o2 : CmpOp) (a b c : CE)
  | one (a : CE) | andc (a r : CE) | orc (a r : CE) | not (a : CE) | ite (t a b : CE)
  | tup (es : CA) | lst (es : CA) | emp
  | call (j : Nat) (es : CA) | blt (b : BI) (es : CA) | isi (t : TyN) (a : CE)
  | mth (m : MI) (o : CE) (es : CA)
  | att (o : CE) (f : Str) | prp (j : Nat) (o : CE) (f : Str) | lenO (j : Nat) (o : CE)
  | idx (a b : CE) | slL (a lo : CE) | slH (a hi : CE) | slB (a lo hi : CE) | rev (a : CE)
  | zip2 (a b : CE) | zip3 (a b c : CE) | enm (a : CE) | rng1 (a : CE) | rng2 (a b : CE)
  | comp (elt : CE) (tg : CT) (it cnd : CE) (own : List Nat) | yes
  | comp2 (elt : CE) (tg : CT) (it cnd : CE) (tg1 : CT) (it1 cnd1 : CE) (own own1 : List Nat)
  | mk (j : Nat) (es : CA)
  | lam (j : Nat) (e : CE) | nev
  | lenSet (a : CE) | lenC (i : Nat) | tupC (i : Nat) | idxC (i : Nat) (e : CE) | inC (neg : Bool) (e : CE) (i : Nat) | popC (i : Nat) (e : CE)
  | idxD (i : Nat) (ks : CA) | getD (i : Nat) (e f : CE)
  | sortK (j : Nat) (a pb : CE) (fv : List Nat)
  | isC (j : Nat) (a : CE) | strO (j : Nat) (a : CE) | lstS (a b : CE) | rpr (a : CE)
inductive CA where
  | nil | cons (e : CE) (r : CA) | cel (i : Nat) (r : CA) | ccl (j : Nat) (as : CA) (r : CA) | fre (e : CE) (r : CA)
end
inductive CS where
  | skip | seq (a b : CS) | gho (i : Nat) (r : CS)
  | pass | asg (tg : CT) (e : CE) | asg2 (i j : Nat) (es : CA) | asg3 (i j k : Nat) (es : CA)
  | asgC (i : Nat) (e : CE) | asgD (i : Nat) (ks : CA) (v : CE) | setC (i : Nat) (ix e : CE) | setD (i : Nat) (ks : CA) (e : CE) | asgX (i : Nat) (ix : CE) (j : Nat) (e : CE) | appC (i : Nat) (e : CE)
  | expr (e : CE)
  | ite (t : CE) (a b : CS) | for_ (tg : CT) (it : CE) (body : CS)
  | whl (m : CE) (t : CE) (body : CS)
  | ret (e : CE) | retF (e : CE) | retP (i j : Nat) | asgP (i j dp : Nat) (as : CA) | retN | brk | cnt | never

def wipeE : EnvR → List Nat → EnvR
  | δ, [] => δ
  | δ, v :: vs => (wipeE δ vs).set v none
mutual
def asgT : CT → D → EnvR → Option EnvR
  | .nm i, d, δ => some (δ.set i (some (.d d)))
  | .tp r, .tup xs, δ => asgTs r xs δ
  | .tp r, .lst xs, δ => asgTs r xs δ
  | _, _, _ => none
def asgTs : CT → List D → EnvR → Option EnvR
  | .nil, [], δ => some δ
  | .cons a r, x :: xs, δ => (asgT a x δ).bind fun δ' => asgTs r xs δ'
  | _, _, _ => none
end
def dsOf : List R → Option (List D)
  | [] => some []
  | .d x :: r => (dsOf r).map (x :: ·)
  | .c _ :: _ => none
/-- a comprehension's turns -/
def compL (f : D → S → Option (Option D × S)) : List D → S → Option (List D × S)
  | [], s => some ([], s)
  | x :: xs, s => (f x s).bind fun p => (compL f xs p.2).map fun q => (match p.1 with | some y => y :: q.1 | none => q.1, q.2)
def compL2 (f : D → S → Option (List D × S)) : List D → S → Option (List D × S)
  | [], s => some ([], s)
  | x :: xs, s => (f x s).bind fun p => (compL2 f xs p.2).map fun q => (p.1 ++ q.1, q.2)
def fstOf (s : S) : Option (R × S) → Option (D × S)
  | some (.d d, s') => some (d, s')
  | _ => none
/-- what the arguments made is no more -/
def cutOf (s : S) : Option (R × S) → Option (D × S)
  | some (.d d, s') => some (d, s'.take s.length)
  | _ => none
def atD (δ : EnvR) (i : Nat) : Option D := match δ[i]? with
  | some (some (.d x)) => some x
  | _ => none
def atC (δ : EnvR) (i : Nat) : Option Nat := match δ[i]? with
  | some (some (.c k)) => some k
  | _ => none
def keyInts : D → Option (List Key)
  | .tup xs => (intsOf xs).map fun ns => ns.map Sum.inl
  | _ => none
def lookK (k : List Key) : List (List Key × D) → Option D
  | [] => none
  | (k', v) :: r => if k' = k then some v else lookK k r
def putKD (k : List Key) (v : D) (kvs : List (List Key × D)) : List (List Key × D) :=
  if (kvs.any fun kv => decide (kv.1 = k)) = true then kvs.map (fun kv => if kv.1 = k then (kv.1, v) else kv) else kvs ++ [(k, v)]
def fieldsD (C : Nat) : List Str := if C = 0 then ["spots", "links"] else []
mutual
def ev (g : List DSem) (fl : Nat → List Str) : CE → EnvR → S → Option (D × S)
  | .var i, δ, s => (atD δ i).map fun x => (x, s)
  | .glob _ d, _, s => some (d, s)
  | .cint i, _, s => some (.int i, s)
  | .cstr x, _, s => some (.str x, s)
  | .cbl b, _, s => some (.bl b, s)
  | .cnon, _, s => some (.non, s)
  | .bin op a b, δ, s => (ev g fl a δ s).bind fun p => (ev g fl b δ p.2).bind fun q => (binD op p.1 q.1).map fun z => (z, q.2)
  | .neg a, δ, s => (ev g fl a δ s).bind fun p => p.1.isInt.map fun i => (.int (-i), p.2)
  | .cmp op a b, δ, s => (ev g fl a δ s).bind fun p => (ev g fl b δ p.2).bind fun q => (cmpD op p.1 q.1).map fun z => (z, q.2)
  | .chain o1 o2 a b c, δ, s => (ev g fl a δ s).bind fun p => (ev g fl b δ p.2).bind fun q => match cmpD o1 p.1 q.1 with
    | some (.bl true) => (ev g fl c δ q.2).bind fun r => (cmpD o2 q.1 r.1).map fun z => (z, r.2)
    | some (.bl false) => some (.bl false, q.2)
    | _ => none
  | .one a, δ, s => ev g fl a δ s
  | .andc a r, δ, s => (ev g fl a δ s).bind fun p => match p.1 with
    | .bl true => ev g fl r δ p.2
    | .bl false => some (.bl false, p.2)
    | _ => none
  | .orc a r, δ, s => (ev g fl a δ s).bind fun p => match p.1 with
    | .bl true => some (.bl true, p.2)
    | .bl false => ev g fl r δ p.2
    | _ => none
  | .not a, δ, s => (ev g fl a δ s).bind fun p => match p.1 with
    | .bl b => some (.bl (!b), p.2)
    | _ => none
  | .ite t a b, δ, s => (ev g fl t δ s).bind fun p => match truthD p.1 with
    | some true => ev g fl a δ p.2
    | some false => ev g fl b δ p.2
    | none => none
  | .tup es, δ, s => (evA g fl es δ s).bind fun p => (dsOf p.1).bind fun xs => if xs.length ≤ lim then some (.tup xs, p.2) else none
  | .lst es, δ, s => (evA g fl es δ s).bind fun p => (dsOf p.1).bind fun xs => if xs.length ≤ lim then some (.lst xs, p.2) else none
  | .emp, _, s => some (.emp, s)
  | .call j es, δ, s => (evA g fl es δ s).bind fun p => match g[j]? with
    | some f => cutOf s (f p.1 p.2)
    | none => none
  | .blt b es, δ, s => (evA g fl es δ s).bind fun p => (dsOf p.1).bind fun xs => (biD b xs).map fun z => (z, p.2)
  | .isi t a, δ, s => (ev g fl a δ s).map fun p => (.bl (isiD t p.1), p.2)
  | .nev, _, _ => none
  | .mth m o es, δ, s => (ev g fl o δ s).bind fun p => (evA g fl es δ p.2).bind fun q => (dsOf q.1).bind fun xs => (miD m p.1 xs).map fun z => (z, q.2)
  | .att o f, δ, s => (ev g fl o δ s).bind fun p => match p.1 with
    | .ins C xs => (((fl C).zip xs).lookup f).map fun z => (z, p.2)
    | _ => none
  | .prp j o _, δ, s => (ev g fl o δ s).bind fun p => match p.1, g[j]? with
    | .ins C xs, some f => fstOf s (f [.d (.ins C xs)] p.2)
    | _, _ => none
  | .lenO j o, δ, s => (ev g fl o δ s).bind fun p => match p.1, g[j]? with
    | .ins C xs, some f => (fstOf s (f [.d (.ins C xs)] p.2)).bind fun r => match r.1 with
      | .int i => if 0 ≤ i ∧ i < 2 ^ 62 then some (.int i, r.2) else none
      | _ => none
    | _, _ => none
  | .idx a b, δ, s => (ev g fl a δ s).bind fun p => (ev g fl b δ p.2).bind fun q => (idxD p.1 q.1).map fun z => (z, q.2)
  | .slL a lo, δ, s => (ev g fl a δ s).bind fun p => (ev g fl lo δ p.2).bind fun q => q.1.isInt.bind fun i => (sliceD p.1 (some i) none).map fun z => (z, q.2)
  | .slH a hi, δ, s => (ev g fl a δ s).bind fun p => (ev g fl hi δ p.2).bind fun q => q.1.isInt.bind fun i => (sliceD p.1 none (some i)).map fun z => (z, q.2)
  | .slB a lo hi, δ, s => (ev g fl a δ s).bind fun p => (ev g fl lo δ p.2).bind fun q => (ev g fl hi δ q.2).bind fun r => q.1.isInt.bind fun i => r.1.isInt.bind fun j => (sliceD p.1 (some i) (some j)).map fun z => (z, r.2)
  | .rev a, δ, s => (ev g fl a δ s).bind fun p => match p.1 with
    | .lst xs => some (.lst xs.reverse, p.2)
    | .tup xs => some (.tup xs.reverse, p.2)
    | _ => none
  | .zip2 a b, δ, s => (ev g fl a δ s).bind fun p => (ev g fl b δ p.2).bind fun q => match p.1, q.1 with
    | .lst xs, .lst ys => some (.lst (zipD xs ys), q.2)
    | .tup xs, .tup ys => some (.lst (zipD xs ys), q.2)
    | .lst xs, .tup ys => some (.lst (zipD xs ys), q.2)
    | .tup xs, .lst ys => some (.lst (zipD xs ys), q.2)
    | _, _ => none
  | .zip3 a b c, δ, s => (ev g fl a δ s).bind fun p => (ev g fl b δ p.2).bind fun q => (ev g fl c δ q.2).bind fun r => match seqD p.1, seqD q.1, seqD r.1 with
    | some xs, some ys, some zs => some (.lst (zip3D xs ys zs), r.2)
    | _, _, _ => none
  | .enm a, δ, s => (ev g fl a δ s).bind fun p => match p.1 with
    | .lst xs => some (.lst (enumD 0 xs), p.2)
    | .tup xs => some (.lst (enumD 0 xs), p.2)
    | _ => none
  | .rng1 a, δ, s => (ev g fl a δ s).bind fun p => match p.1 with
    | .int i => if -1000000 ≤ i ∧ i ≤ lim then some (.lst (rngD 0 i.toNat), p.2) else none
    | _ => none
  | .rng2 a b, δ, s => (ev g fl a δ s).bind fun p => (ev g fl b δ p.2).bind fun q => match p.1, q.1 with
    | .int i, .int j => if -1000000 ≤ i ∧ i ≤ lim ∧ -1000000 ≤ j ∧ j ≤ lim then some (.lst (rngD i (j - i).toNat), q.2) else none
    | _, _ => none
  | .comp elt tg it cnd own, δ, s => (ev g fl it δ s).bind fun p => (itemsD p.1).bind fun xs => if lim < xs.length then none else
      (compL (fun x s1 => (asgT tg x (wipeE δ own)).bind fun δ1 => (ev g fl cnd δ1 s1).bind fun c => match truthD c.1 with
        | some true => (ev g fl elt δ1 c.2).map fun r => (some r.1, r.2)
        | some false => some (none, c.2)
        | none => none) xs p.2).map fun q => (.lst q.1, q.2)
  | .yes, _, s => some (.bl true, s)
  | .comp2 elt tg it cnd tg1 it1 cnd1 own own1, δ, s => (ev g fl it δ s).bind fun p => (itemsD p.1).bind fun xs =>
      (compL2 (fun x s1 => (asgT tg x (wipeE δ own)).bind fun δ1 => (ev g fl cnd δ1 s1).bind fun c => match truthD c.1 with
        | some true => (ev g fl it1 δ1 c.2).bind fun p1 => (itemsD p1.1).bind fun ys =>
            compL (fun y s2 => (asgT tg1 y (wipeE δ1 own1)).bind fun δ2 => (ev g fl cnd1 δ2 s2).bind fun c1 => match truthD c1.1 with
              | some true => (ev g fl elt δ2 c1.2).map fun r => (some r.1, r.2)
              | some false => some (none, c1.2)
              | none => none) ys p1.2
        | some false => some ([], c.2)
        | none => none) xs p.2).bind fun q => if q.1.length < lim then some (.lst q.1, q.2) else none
  | .mk j es, δ, s => (evA g fl es δ s).bind fun p => match g[j]? with
    | some f => fstOf s (f p.1 p.2)
    | none => none
  | .lam j e, δ, s => match g[j]? with
    | some _ => ev g fl e δ s
    | none => none
  | .lenSet a, δ, s => (ev g fl a δ s).bind fun p => match p.1 with
    | .lst xs => (intsOf xs).bind fun ns => if ns.length ≤ 4000 then some (.int (dedupN ns : Nat), p.2) else none
    | _ => none
  | .lenC i, δ, s => (atC δ i).bind fun k => match s[k]? with
    | some (.lst xs) => some (.int xs.length, s)
    | _ => none
  | .tupC i, δ, s => (atC δ i).bind fun k => match s[k]? with
    | some (.lst xs) => some (.tup xs, s)
    | _ => none
  | .idxC i e, δ, s => (atC δ i).bind fun k => (ev g fl e δ s).bind fun p => match p.2[k]? with
    | some (.lst xs) => (idxD (.lst xs) p.1).map fun z => (z, p.2)
    | _ => none
  | .inC neg e i, δ, s => (ev g fl e δ s).bind fun p => (atC δ i).bind fun k => match p.2[k]? with
    | some (.lst xs) => if shp 20 p.1 && shps 20 xs then some (.bl (if neg then !inD p.1 xs else inD p.1 xs), p.2) else none
    | _ => none
  | .popC i e, δ, s => (atC δ i).bind fun k => match s[k]? with
    | some (.lst _) => (ev g fl e δ s).bind fun p => (match p.2[k]?, p.1 with
      | some (.lst xs), .int j => if -(2 ^ 63) ≤ j ∧ j < 2 ^ 63 then (ixN xs.length j).bind fun m => (xs[m]?).map fun z => (z, p.2.set k (.lst (xs.eraseIdx m))) else none
      | _, _ => none)
    | _ => none
  | .idxD i ks, δ, s => (atC δ i).bind fun k => (evA g fl ks δ s).bind fun p => (dsOf p.1).bind fun xs => (intsOf xs).bind fun ns => match p.2[k]? with
    | some (.dct kvs) => (lookK (ns.map Sum.inl) kvs).map fun z => (z, p.2)
    | _ => none
  | .getD i e f, δ, s => (atC δ i).bind fun k => (ev g fl e δ s).bind fun p => (ev g fl f δ p.2).bind fun q => match q.2[k]? with
    | some (.dct kvs) => (keyInts p.1).map fun key => ((lookK key kvs).getD q.1, q.2)
    | _ => none
  | .sortK j a pb fv, δ, s => (ev g fl a δ s).bind fun p => match p.1, g[j]? with
    | .lst xs, some _ => (sortD (fun x => ev g fl pb (some (.d x) :: fv.map (fvE δ)) []) xs).map fun z => (.lst z, p.2)
    | _, _ => none
  | .isC j a, δ, s => (ev g fl a δ s).bind fun p => match g[j]? with
    | some _ => some (.bl (isIns p.1), p.2)
    | none => none
  | .strO j o, δ, s => (ev g fl o δ s).bind fun p => match p.1, g[j]? with
    | .ins C xs, some f => (fstOf s (f [.d (.ins C xs)] p.2)).bind fun r => match r.1 with
      | .str x => some (.str x, r.2)
      | _ => none
    | _, _ => none
  | .lstS a b, δ, s => (ev g fl a δ s).bind fun p => (ev g fl b δ p.2).bind fun q => (seqD q.1).bind fun xs => if xs.length < lim then some (.lst (p.1 :: xs), q.2) else none
  | .rpr a, δ, s => (ev g fl a δ s).bind fun p => (rprD p.1).map fun x => (.str x, p.2)
def evA (g : List DSem) (fl : Nat → List Str) : CA → EnvR → S → Option (List R × S)
  | .nil, _, s => some ([], s)
  | .cons e r, δ, s => (ev g fl e δ s).bind fun p => (evA g fl r δ p.2).map fun q => (.d p.1 :: q.1, q.2)
  | .cel i r, δ, s => (atC δ i).bind fun k => (evA g fl r δ s).map fun q => (.c k :: q.1, q.2)
  | .ccl j es r, δ, s => (evA g fl es δ s).bind fun p => match g[j]? with
    | some f => (fstOf p.2 (f p.1 p.2)).bind fun x => match x.1 with
      | .lst xs => (evA g fl r δ (x.2 ++ [.lst xs])).map fun q => (.c x.2.length :: q.1, q.2)
      | _ => none
    | none => none
  | .fre e r, δ, s => (ev g fl e δ s).bind fun p => match p.1 with
    | .lst xs => (evA g fl r δ (p.2 ++ [.lst xs])).map fun q => (.c p.2.length :: q.1, q.2)
    | _ => none
end
inductive Out where
  | nx | rt (r : R) | bk | ct | rf (xs : List D) | rp (xs ys : List D)
/-- a loop's turns -/
def forL (f : D → EnvR → S → Option (Out × EnvR × S)) : List D → EnvR → S → Option (Out × EnvR × S)
  | [], δ, s => some (.nx, δ, s)
  | x :: xs, δ, s => (f x δ s).bind fun p => match p.1 with
    | .nx => forL f xs p.2.1 p.2.2
    | .ct => forL f xs p.2.1 p.2.2
    | .bk => some (.nx, p.2.1, p.2.2)
    | .rt r => some (.rt r, p.2.1, p.2.2)
    | .rf r => some (.rf r, p.2.1, p.2.2)
    | .rp r q => some (.rp r q, p.2.1, p.2.2)
def whlL (t : EnvR → S → Option (Bool × S)) (f : EnvR → S → Option (Out × EnvR × S)) : Nat → EnvR → S → Option (Out × EnvR × S)
  | 0, _, _ => none
  | n + 1, δ, s => (t δ s).bind fun c => if c.1 then (f δ c.2).bind fun p => match p.1 with
      | .nx => whlL t f n p.2.1 p.2.2
      | .ct => whlL t f n p.2.1 p.2.2
      | .bk => some (.nx, p.2.1, p.2.2)
      | .rt r => some (.rt r, p.2.1, p.2.2)
      | .rf r => some (.rf r, p.2.1, p.2.2)
      | .rp r q => some (.rp r q, p.2.1, p.2.2)
    else some (.nx, δ, c.2)
def isC (k : Nat) : Option R → Bool
  | some (.c j) => j == k
  | _ => false
/-- no name but the i-th holds the cell k -/
def soleC (k i : Nat) (δ : EnvR) : Bool := !((δ.set i none).any (isC k))
/-- b: the store's length at the def's entry -/
def ex (g : List DSem) (fl : Nat → List Str) (b : Nat) : CS → EnvR → S → Option (Out × EnvR × S)
  | .skip, δ, s => some (.nx, δ, s)
  | .pass, δ, s => some (.nx, δ, s)
  | .seq a c, δ, s => (ex g fl b a δ s).bind fun p => match p.1 with
    | .nx => ex g fl b c p.2.1 p.2.2
    | o => some (o, p.2.1, p.2.2)
  | .gho i r, δ, s => (atC δ i).bind fun k => match s[k]? with
    | some (.lst xs) => if b ≤ k ∧ k + 1 = s.length ∧ soleC k i δ = true then ex g fl b r (δ.set i (some (.d (.lst xs)))) (s.take k) else none
    | _ => none
  | .asg tg e, δ, s => (ev g fl e δ s).bind fun p => (asgT tg p.1 δ).map fun δ' => (.nx, δ', p.2)
  | .asg2 i j es, δ, s => (evA g fl es δ s).bind fun p => match p.1 with
    | [x, y] => some (.nx, (δ.set i (some x)).set j (some y), p.2)
    | _ => none
  | .asg3 i j k es, δ, s => (evA g fl es δ s).bind fun p => match p.1 with
    | [x, y, z] => some (.nx, ((δ.set i (some x)).set j (some y)).set k (some z), p.2)
    | _ => none
  | .asgC i e, δ, s => (ev g fl e δ s).bind fun p => match p.1 with
    | .lst xs => some (.nx, δ.set i (some (.c p.2.length)), p.2 ++ [.lst xs])
    | _ => none
  | .asgD i ks v, δ, s => (evA g fl ks δ s).bind fun p => (dsOf p.1).bind fun xs => (intsOf xs).bind fun ns => (ev g fl v δ p.2).map fun q => (.nx, δ.set i (some (.c q.2.length)), q.2 ++ [.dct [(ns.map Sum.inl, q.1)]])
  | .setC i ix e, δ, s => (ev g fl e δ s).bind fun q => (atC δ i).bind fun k => (ev g fl ix δ q.2).bind fun p => match p.2[k]?, p.1 with
    | some (.lst xs), .int j => (ixN xs.length j).map fun m => (.nx, δ, p.2.set k (.lst (xs.set m q.1)))
    | _, _ => none
  | .setD i ks e, δ, s => (ev g fl e δ s).bind fun q => (atC δ i).bind fun k => (evA g fl ks δ q.2).bind fun p => (dsOf p.1).bind fun xs => (intsOf xs).bind fun ns => match p.2[k]? with
    | some (.dct kvs) => if kvs.length < lim then some (.nx, δ, p.2.set k (.dct (putKD (ns.map Sum.inl) q.1 kvs))) else none
    | _ => none
  | .asgX i ix j e, δ, s => (ev g fl e δ s).bind fun q => (atC δ i).bind fun k => (ev g fl ix δ q.2).bind fun p => match p.2[k]?, p.1, q.1 with
    | some (.lst xs), .int m0, .tup [a, c] => (ixN xs.length m0).map fun m => (.nx, δ.set j (some (.d c)), p.2.set k (.lst (xs.set m a)))
    | _, _, _ => none
  | .appC i e, δ, s => (atC δ i).bind fun k => match s[k]? with
    | some (.lst _) => (ev g fl e δ s).bind fun p => (match p.2[k]? with
      | some (.lst xs) => if xs.length < lim then some (.nx, δ, p.2.set k (.lst (xs ++ [p.1]))) else none
      | _ => none)
    | _ => none
  | .expr e, δ, s => (ev g fl e δ s).map fun p => (.nx, δ, p.2)
  | .ite t a c, δ, s => (ev g fl t δ s).bind fun p => match truthD p.1 with
    | some true => ex g fl b a δ p.2
    | some false => ex g fl b c δ p.2
    | none => none
  | .for_ tg it body, δ, s => (ev g fl it δ s).bind fun p => (itemsD p.1).bind fun xs => forL (fun x δ1 s1 => (asgT tg x δ1).bind fun δ2 => ex g fl b body δ2 s1) xs δ p.2
  | .whl m t body, δ, s => (ev g fl m δ s).bind fun p => match p.1 with
    | .int n => whlL (fun δ1 s1 => (ev g fl t δ1 s1).bind fun c => (truthD c.1).map fun k => (k, c.2)) (fun δ1 s1 => ex g fl b body δ1 s1) (n.natAbs + 1) δ s
    | _ => none
  | .ret e, δ, s => (ev g fl e δ s).map fun p => (.rt (.d p.1), δ, p.2)
  | .retF e, δ, s => (ev g fl e δ s).bind fun p => match p.1 with
    | .lst xs => some (.rf xs, δ, p.2)
    | _ => none
  | .retP i j, δ, s => (atC δ i).bind fun k => (atC δ j).bind fun l => match s[k]?, s[l]? with
    | some (.lst xs), some (.lst ys) => if b ≤ k ∧ b ≤ l ∧ k ≠ l then some (.rp xs ys, δ, s) else none
    | _, _ => none
  | .asgP i j dp as, δ, s => (evA g fl as δ s).bind fun p => match g[dp]? with
    | some f => (fstOf p.2 (f p.1 p.2)).bind fun x => match x.1 with
      | .tup [.lst xs, .lst ys] => some (.nx, (δ.set i (some (.c (x.2.length + 1)))).set j (some (.c x.2.length)), (x.2 ++ [.lst ys]) ++ [.lst xs])
      | _ => none
    | none => none
  | .retN, δ, s => some (.rt (.d .non), δ, s)
  | .brk, δ, s => some (.bk, δ, s)
  | .cnt, δ, s => some (.ct, δ, s)
  | .never, _, _ => none
/-- a def: its parameters' number, its slots, its body, its callees -/
def run (g : List DSem) (fl : Nat → List Str) (na nslots : Nat) (body : CS) : DSem := fun as s =>
  if as.length = na then
    (ex g fl s.length body (as.map some ++ List.replicate (nslots - as.length) none) s).bind fun p => match p.1 with
      | .nx => some (.d .non, p.2.2.take s.length)
      | .rt (.d d) => some (.d d, p.2.2.take s.length)
      | _ => none
  else none
/-- a def that returns a fresh list -/
def runF (g : List DSem) (fl : Nat → List Str) (na nslots : Nat) (body : CS) : DSem := fun as s =>
  if as.length = na then
    (ex g fl s.length body (as.map some ++ List.replicate (nslots - as.length) none) s).bind fun p => match p.1 with
      | .rf xs => some (.d (.lst xs), p.2.2.take s.length)
      | _ => none
  else none
/-- a def that returns a pair of fresh lists -/
def runP (g : List DSem) (fl : Nat → List Str) (na nslots : Nat) (body : CS) : DSem := fun as s =>
  if as.length = na then
    (ex g fl s.length body (as.map some ++ List.replicate (nslots - as.length) none) s).bind fun p => match p.1 with
      | .rp xs ys => some (.d (.tup [.lst xs, .lst ys]), p.2.2.take s.length)
      | _ => none
  else none
/-- what it makes of the argument: t1, t3 tests that must be false, e2 the name's value, e5 the second field's -/
def initD (g : List DSem) (fl : Nat → List Str) (t1 e2 t3 e5 : CE) : DSem := fun rs st => match rs with
  | [.d p] => (ev g fl t1 [none, some (.d p), none] st).bind fun a => if truthD a.1 = some false then
      (ev g fl e2 [none, some (.d p), none] a.2).bind fun b => (ev g fl t3 [none, some (.d p), some (.d b.1)] b.2).bind fun c => if truthD c.1 = some false then
        (ev g fl e5 [none, some (.d p), some (.d b.1)] c.2).map fun q => (.d (.ins 0 [p, q.1]), q.2) else none else none
  | _ => none
end DL

set_option Elab.async false
set_option linter.all false
set_option autoImplicit false
set_option maxRecDepth 100000
set_option maxHeartbeats 4000000
namespace DL
open PySem L2

/-- what is fixed through a run: the written part, the own classes' addresses and their fields' names, the tables of code objects -/
structure Wd where
  K : PySem.W.Frag
  cls : Nat → Addr
  flds : Nat → List Str
  T : List (Addr × Str)

/-- a tuple's own object -/
def TupO (o : Obj) : Prop := o.cls = .type "tuple" ∧ o.dict = none
mutual
inductive Den (w : Wd) (G : Hp) : D → V → Prop
  | non : Den w G .non .non
  | bl (b : Bool) : Den w G (.bl b) (.bl b)
  | int (i : Int) : Den w G (.int i) (.int i)
  | str (x : Str) : Den w G (.str x) (.str x)
  | lst {xs : List D} {a : Addr} {vs : List V} : SqL w.K G a vs → Dens w G xs vs → Den w G (.lst xs) (.ref a)
  | tup {xs : List D} {a : Addr} {vs : List V} {o : Obj} : G a = some (.frz o (.tup vs)) → TupO o → Dens w G xs vs → Den w G (.tup xs) (.ref a)
  | ins {C : Nat} {xs : List D} {a dx : Addr} {vs : List V} : G a = some (.ins (w.cls C) dx ((w.flds C).zip vs)) → vs.length = (w.flds C).length → Dens w G xs vs → Den w G (.ins C xs) (.ref a)
  | emp {a : Addr} : G a = some (.dK []) → Den w G .emp (.ref a)
inductive Dens (w : Wd) (G : Hp) : List D → List V → Prop
  | nil : Dens w G [] []
  | cons {d : D} {v : V} {ds : List D} {vs : List V} : Den w G d v → Dens w G ds vs → Dens w G (d :: ds) (v :: vs)
end

/-- all that G holds, H holds -/
def Le (G H : Hp) : Prop := ∀ b o, G b = some o → H b = some o
theorem Le.refl (G : Hp) : Le G G := fun _ _ h => h
theorem Le.trans {A B C : Hp} (h1 : Le A B) (h2 : Le B C) : Le A C := fun b o h => h2 b o (h1 b o h)
theorem Le.rd {G H : Hp} {a : Addr} {u : HO} (h : Le G H) (r : Rd G a u) : Rd H a u := by
  rcases r with r | ⟨o, r⟩
  · exact .inl (h _ _ r)
  · exact .inr ⟨o, h _ _ r⟩
theorem Le.sl {K : PySem.W.Frag} {G H : Hp} {a : Addr} {xs : List V} (h : Le G H) (r : SqL K G a xs) : SqL K H a xs := by
  rcases r with r | r
  · exact .inl (h.rd r)
  · exact .inr r
theorem Le.st {K : PySem.W.Frag} {G H : Hp} {a : Addr} {xs : List V} (h : Le G H) (r : SqT K G a xs) : SqT K H a xs := by
  rcases r with r | r
  · exact .inl (h.rd r)
  · exact .inr r
theorem pre_get {A B : List Addr} (h : A <+: B) {k : Nat} {a : Addr} (e : A[k]? = some a) : B[k]? = some a := by
  obtain ⟨r, rfl⟩ := h
  obtain ⟨hl, _⟩ := List.getElem?_eq_some_iff.mp e
  rw [List.getElem?_append_left hl]
  exact e

mutual
theorem Den.mono {w : Wd} {G H : Hp} (h : Le G H) : ∀ {d : D} {v : V}, Den w G d v → Den w H d v
  | _, _, .non => .non
  | _, _, .bl b => .bl b
  | _, _, .int i => .int i
  | _, _, .str x => .str x
  | _, _, .lst s r => .lst (h.sl s) (Dens.mono h r)
  | _, _, .tup s t r => .tup (h _ _ s) t (Dens.mono h r)
  | _, _, .ins e l r => .ins (h _ _ e) l (Dens.mono h r)
  | _, _, .emp e => .emp (h _ _ e)
theorem Dens.mono {w : Wd} {G H : Hp} (h : Le G H) : ∀ {ds : List D} {vs : List V}, Dens w G ds vs → Dens w H ds vs
  | _, _, .nil => .nil
  | _, _, .cons r s => .cons (Den.mono h r) (Dens.mono h s)
end
theorem Dens.length {w : Wd} {G : Hp} : ∀ {ds : List D} {vs : List V}, Dens w G ds vs → ds.length = vs.length
  | _, _, .nil => rfl
  | _, _, .cons _ s => by rw [List.length_cons, List.length_cons, Dens.length s]
theorem Dens.get {w : Wd} {G : Hp} : ∀ {ds : List D} {vs : List V} {i : Nat} {d : D}, Dens w G ds vs → ds[i]? = some d → ∃ v, vs[i]? = some v ∧ Den w G d v
  | _, _, _, _, .nil, e => by simp at e
  | _, _, 0, _, .cons r _, e => by simp at e; subst e; exact ⟨_, rfl, r⟩
  | _, _, i + 1, d, .cons _ s, e => by
    obtain ⟨v, h1, h2⟩ := Dens.get (i := i) (d := d) s (by simpa using e)
    exact ⟨v, by simpa using h1, h2⟩
theorem Dens.getV {w : Wd} {G : Hp} : ∀ {ds : List D} {vs : List V} {i : Nat} {v : V}, Dens w G ds vs → vs[i]? = some v → ∃ d, ds[i]? = some d ∧ Den w G d v
  | _, _, _, _, .nil, e => by simp at e
  | _, _, 0, _, .cons r _, e => by simp at e; subst e; exact ⟨_, rfl, r⟩
  | _, _, i + 1, v, .cons _ s, e => by
    obtain ⟨d, h1, h2⟩ := Dens.getV (i := i) (v := v) s (by simpa using e)
    exact ⟨d, by simpa using h1, h2⟩
theorem Dens.append {w : Wd} {G : Hp} : ∀ {ds es : List D} {vs us : List V}, Dens w G ds vs → Dens w G es us → Dens w G (ds ++ es) (vs ++ us)
  | _, _, _, _, .nil, s => s
  | _, _, _, _, .cons r t, s => .cons r (Dens.append t s)
theorem Dens.take {w : Wd} {G : Hp} : ∀ {ds : List D} {vs : List V} (n : Nat), Dens w G ds vs → Dens w G (ds.take n) (vs.take n)
  | _, _, 0, _ => by simp only [List.take_zero]; exact .nil
  | _, _, _ + 1, .nil => .nil
  | _, _, n + 1, .cons r t => .cons r (Dens.take n t)
theorem Dens.drop {w : Wd} {G : Hp} : ∀ {ds : List D} {vs : List V} (n : Nat), Dens w G ds vs → Dens w G (ds.drop n) (vs.drop n)
  | _, _, 0, r => r
  | _, _, _ + 1, .nil => .nil
  | _, _, n + 1, .cons r t => Dens.drop n t
theorem Dens.set {w : Wd} {G : Hp} {d : D} {v : V} (r : Den w G d v) : ∀ {ds : List D} {vs : List V} (i : Nat), Dens w G ds vs → Dens w G (ds.set i d) (vs.set i v)
  | _, _, _, .nil => .nil
  | _, _, 0, .cons _ t => .cons r t
  | _, _, i + 1, .cons q t => .cons q (Dens.set r i t)
theorem Dens.eraseIdx {w : Wd} {G : Hp} : ∀ {ds : List D} {vs : List V} (i : Nat), Dens w G ds vs → Dens w G (ds.eraseIdx i) (vs.eraseIdx i)
  | _, _, _, .nil => .nil
  | _, _, 0, .cons _ t => t
  | _, _, i + 1, .cons q t => .cons q (Dens.eraseIdx i t)
theorem Dens.reverse {w : Wd} {G : Hp} : ∀ {ds : List D} {vs : List V}, Dens w G ds vs → Dens w G ds.reverse vs.reverse
  | _, _, .nil => .nil
  | _, _, .cons r t => by
    rw [List.reverse_cons, List.reverse_cons]
    exact Dens.append (Dens.reverse t) (.cons r .nil)
theorem Dens.nil_iff {w : Wd} {G : Hp} {ds : List D} {vs : List V} (h : Dens w G ds vs) : ds = [] ↔ vs = [] := by
  cases h with
  | nil => simp
  | cons _ _ => simp

/-- a cell's content at its address -/
def CellOk (w : Wd) (G H : Hp) (a : Addr) : Cell → Prop
  | .lst xs => ∃ vs, H a = some (.lst vs) ∧ Dens w G xs vs
  | .dct kvs => ∃ vs : List (List Key × V), H a = some (.dT vs) ∧ vs.map (·.1) = kvs.map (·.1) ∧ Dens w G (kvs.map (·.2)) (vs.map (·.2))
  | .dead => False
def notTbl (o : HO) : Prop := ∀ ps, o ≠ .tbl ps

structure Ok (w : Wd) (kap : List Addr) (G : Hp) (st : S) (H : Hp) : Prop where
  le : Le G H
  nt : ∀ b o, G b = some o → notTbl o
  len : kap.length = st.length
  nd : kap.Nodup
  fr : ∀ a ∈ kap, G a = none
  cells : ∀ (k : Nat) c a, st[k]? = some c → kap[k]? = some a → CellOk w G H a c
  tabs : LamX.Tabs w.T H
  ntc : ∀ a ∈ kap, ∀ ps, H a ≠ some (.tbl ps)

/-- fr: what the frozen part takes anew was not there (or was a table) -/
structure Step (kap : List Addr) (G H : Hp) (kap' : List Addr) (G' H' : Hp) : Prop where
  g : Le G G'
  k : kap <+: kap'
  fr : ∀ b, G' b ≠ none → G b = none → ∀ o, H b = some o → ¬ notTbl o
  frk : ∀ b ∈ kap', b ∉ kap → ∀ o, H b = some o → ¬ notTbl o
  ext : ∀ b o, H b = some o → b ∉ kap → notTbl o → H' b = some o
  dom : ∀ b o, H b = some o → notTbl o → ∃ o', H' b = some o' ∧ notTbl o'

theorem Step.refl {kap : List Addr} {G H : Hp} : Step kap G H kap G H :=
  ⟨Le.refl _, List.prefix_refl _, fun _ h1 h2 => absurd h2 h1, fun _ h1 h2 => absurd h1 h2, fun _ _ h _ _ => h, fun _ o h n => ⟨o, h, n⟩⟩
theorem Step.trans {A B C : List Addr} {G H G1 H1 G2 H2 : Hp} (s : Step A G H B G1 H1) (t : Step B G1 H1 C G2 H2) : Step A G H C G2 H2 := by
  refine ⟨s.g.trans t.g, s.k.trans t.k, fun b h1 h2 o h n => ?_, fun b h1 h2 o h n => ?_, fun b o h hn hb => ?_, fun b o h n => ?_⟩
  · by_cases e : G1 b = none
    · obtain ⟨o', h', n'⟩ := s.dom b o h n
      exact t.fr b h1 e o' h' n'
    · exact s.fr b e h2 o h n
  · by_cases e : b ∈ B
    · exact s.frk b e h2 o h n
    · obtain ⟨o', h', n'⟩ := s.dom b o h n
      exact t.frk b h1 e o' h' n'
  · refine t.ext b o (s.ext b o h hn hb) (fun e => ?_) hb
    exact s.frk b e hn o h hb
  · obtain ⟨o', h', n'⟩ := s.dom b o h n
    exact t.dom b o' h' n'

/-- a new object that is never written -/
theorem Step.new {w : Wd} {kap : List Addr} {G H : Hp} {st : S} {p : Addr} {o : HO} (k : Ok w kap G st H) (hp : H p = none) (ho : notTbl o) :
    Step kap G H kap (upd G p o) (upd H p o) ∧ Ok w kap (upd G p o) st (upd H p o) := by
  have hg : G p = none := by
    cases q : G p with
    | none => rfl
    | some u => rw [k.le p u q] at hp; cases hp
  have leG : Le G (upd G p o) := fun b u h => by rw [upd_ne (ne_of_none h hg)]; exact h
  have cne : ∀ (k1 : Nat) c a, st[k1]? = some c → kap[k1]? = some a → a ≠ p := fun k1 c a h1 h2 e => by
    have z := k.cells k1 c a h1 h2
    subst e
    cases c with
    | lst xs => obtain ⟨vs, e, _⟩ := z; rw [hp] at e; cases e
    | dct xs => obtain ⟨vs, e, _⟩ := z; rw [hp] at e; cases e
    | dead => exact z.elim
  have kne : ∀ a ∈ kap, a ≠ p := fun a ha e => by
    obtain ⟨i, hi⟩ := List.getElem?_of_mem ha
    obtain ⟨hl, _⟩ := List.getElem?_eq_some_iff.mp hi
    have hl2 : i < st.length := by rw [← k.len]; exact hl
    exact cne i st[i] a (by simp [hl2]) hi e
  refine ⟨⟨leG, List.prefix_refl _, fun b h1 h2 => ?_, fun _ h1 h2 => absurd h1 h2, fun b u h _ _ => ?_, fun b u h n => ⟨u, ?_, n⟩⟩, ⟨fun b u h => ?_, fun b u h => ?_, k.len, k.nd, fun a ha => ?_, fun k1 c a h1 h2 => ?_, k.tabs.ext fun b u h => ?_, fun a ha ps => ?_⟩⟩
  · by_cases e : b = p
    · rw [e, hp]; intro o z; cases z
    · rw [upd_ne e] at h1; exact absurd h2 h1
  · rw [upd_ne (ne_of_none h hp)]; exact h
  · rw [upd_ne (ne_of_none h hp)]; exact h
  · by_cases e : b = p
    · subst e; rw [upd_same] at h ⊢; exact h
    · rw [upd_ne e] at h ⊢; exact k.le b u h
  · by_cases e : b = p
    · subst e; rw [upd_same] at h; cases h; exact ho
    · rw [upd_ne e] at h; exact k.nt b u h
  · rw [upd_ne (kne a ha)]; exact k.fr a ha
  · have ne := cne k1 c a h1 h2
    have z := k.cells k1 c a h1 h2
    cases c with
    | lst xs => obtain ⟨vs, e, d⟩ := z; exact ⟨vs, by rw [upd_ne ne]; exact e, d.mono leG⟩
    | dct xs => obtain ⟨vs, e, d1, d⟩ := z; exact ⟨vs, by rw [upd_ne ne]; exact e, d1, d.mono leG⟩
    | dead => exact z.elim
  · rw [upd_ne (ne_of_none h hp)]; exact h
  · rw [upd_ne (kne a ha)]; exact k.ntc a ha ps
theorem nt_lst {xs : List V} : notTbl (.lst xs) := fun _ h => by cases h
theorem nt_frz {o : Obj} {u : HO} : notTbl (.frz o u) := fun _ h => by cases h
theorem nt_dK {xs : List (Key × V)} : notTbl (.dK xs) := fun _ h => by cases h
theorem nt_dT {xs : List (List Key × V)} : notTbl (.dT xs) := fun _ h => by cases h
theorem nt_ins {C dx : Addr} {fs : List (Str × V)} : notTbl (.ins C dx fs) := fun _ h => by cases h

/-- a datum, or a cell at its address -/
def DenR (w : Wd) (kap : List Addr) (G : Hp) : R → V → Prop
  | .d x, v => Den w G x v
  | .c k, v => ∃ a, kap[k]? = some a ∧ v = .ref a
theorem DenR.mono {w : Wd} {A B : List Addr} {G H : Hp} (h : Le G H) (k : A <+: B) : ∀ {r : R} {v : V}, DenR w A G r v → DenR w B H r v
  | .d _, _, r => Den.mono h r
  | .c _, _, ⟨a, e, z⟩ => ⟨a, pre_get k e, z⟩
inductive DenRs (w : Wd) (kap : List Addr) (G : Hp) : List R → List V → Prop
  | nil : DenRs w kap G [] []
  | cons {r : R} {v : V} {rs : List R} {vs : List V} : DenR w kap G r v → DenRs w kap G rs vs → DenRs w kap G (r :: rs) (v :: vs)
theorem DenRs.mono {w : Wd} {A B : List Addr} {G H : Hp} (h : Le G H) (k : A <+: B) : ∀ {rs : List R} {vs : List V}, DenRs w A G rs vs → DenRs w B H rs vs
  | _, _, .nil => .nil
  | _, _, .cons r s => .cons (r.mono h k) (DenRs.mono h k s)
theorem DenRs.length {w : Wd} {A : List Addr} {G : Hp} : ∀ {ds : List R} {vs : List V}, DenRs w A G ds vs → ds.length = vs.length
  | _, _, .nil => rfl
  | _, _, .cons _ s => by rw [List.length_cons, List.length_cons, DenRs.length s]

/-- what an expression's end must bring: from (kap, G, H) with the store st' and the datum d -/
def Post (w : Wd) (kap : List Addr) (G H : Hp) (st' : S) (d : D) (Q : VK) : Prop :=
  ∀ v kap' G' H', Step kap G H kap' G' H' → Ok w kap' G' st' H' → Den w G' d v → Q v H'
def PostR (w : Wd) (kap : List Addr) (G H : Hp) (st' : S) (d : R) (Q : VK) : Prop :=
  ∀ v kap' G' H', Step kap G H kap' G' H' → Ok w kap' G' st' H' → DenR w kap' G' d v → Q v H'
/-- the slots bear the names' data -/
structure Slots (w : Wd) (kap : List Addr) (G : Hp) (de : EnvR) (sg : L2.St) : Prop where
  len : de.length = sg.length
  at_ : ∀ (i : Nat) d, de[i]? = some (some d) → ∃ v, sg[i]? = some (some v) ∧ DenR w kap G d v
theorem Slots.mono {w : Wd} {A B : List Addr} {G H : Hp} {de : EnvR} {sg : L2.St} (s : Slots w A G de sg) (h : Le G H) (k : A <+: B) : Slots w B H de sg :=
  ⟨s.len, fun i d e => let ⟨v, a, b⟩ := s.at_ i d e; ⟨v, a, b.mono h k⟩⟩
theorem Slots.set {w : Wd} {A : List Addr} {G : Hp} {de : EnvR} {sg : L2.St} {d : R} {v : V} (s : Slots w A G de sg) (r : DenR w A G d v) (i : Nat) : Slots w A G (de.set i (some d)) (sg.set i (some v)) := by
  refine ⟨by simp [s.len], fun j e h => ?_⟩
  by_cases q : j = i
  · subst q
    by_cases hl : j < de.length
    · rw [List.getElem?_set_self hl] at h
      cases h
      exact ⟨v, by rw [List.getElem?_set_self (by rw [← s.len]; exact hl)], r⟩
    · rw [List.getElem?_eq_none (by simpa using hl)] at h
      cases h
  · rw [List.getElem?_set_ne (Ne.symm q)] at h
    obtain ⟨u, h1, h2⟩ := s.at_ j e h
    exact ⟨u, by rw [List.getElem?_set_ne (Ne.symm q)]; exact h1, h2⟩
theorem Slots.wipe1 {w : Wd} {A : List Addr} {G : Hp} {de : EnvR} {sg : L2.St} (s : Slots w A G de sg) (i : Nat) : Slots w A G (de.set i none) (sg.set i none) := by
  refine ⟨by simp [s.len], fun j e h => ?_⟩
  by_cases q : j = i
  · subst q
    by_cases hl : j < de.length
    · rw [List.getElem?_set_self hl] at h
      cases h
    · rw [List.getElem?_eq_none (by simpa using hl)] at h
      cases h
  · rw [List.getElem?_set_ne (Ne.symm q)] at h
    obtain ⟨u, h1, h2⟩ := s.at_ j e h
    exact ⟨u, by rw [List.getElem?_set_ne (Ne.symm q)]; exact h1, h2⟩
end DL

set_option Elab.async false
set_option linter.all false
set_option autoImplicit false
set_option maxRecDepth 100000
set_option maxHeartbeats 4000000
namespace DL
open PySem L2

inductive Dep where
  | fn (x : Str) | prop (f : Str) | len | mk (x : Str) | tld (x : Str) | fnF (x : Str) | fnP (x : Str) | lamk | fnG (x : Str) | cls (x : Str) | strd | fnD (x : Str) (i : Int)
structure Fx where
  N : List Str
  deps : List Dep
  frees : List Str
  globs : List (Str × D)
  lam : Bool
  gd : Bool := false
def Dep.isFn (x : Str) : Option Dep → Bool
  | some (.fn y) => y == x
  | _ => false
def Dep.isMk (x : Str) : Option Dep → Bool
  | some (.mk y) => y == x
  | _ => false
def Dep.isProp (x : Str) : Option Dep → Bool
  | some (.prop y) => y == x
  | _ => false
def Dep.isLen : Option Dep → Bool
  | some .len => true
  | _ => false
def Dep.isTld (x : Str) : Option Dep → Bool
  | some (.tld y) => y == x
  | _ => false

def Dep.lamy : Dep → Bool
  | .tld _ => true
  | .lamk => true
  | _ => false
def Dep.isLamk : Option Dep → Bool
  | some .lamk => true
  | _ => false
def Dep.isFnF (x : Str) : Option Dep → Bool
  | some (.fnF y) => y == x
  | _ => false
def Dep.isFnP (x : Str) : Option Dep → Bool
  | some (.fnP y) => y == x
  | _ => false
def Dep.isFnG (x : Str) : Option Dep → Bool
  | some (.fnG y) => y == x
  | _ => false
def Dep.isFnD (x : Str) : Option Dep → Bool
  | some (.fnD y _) => y == x
  | _ => false
def Dep.isCls (x : Str) : Option Dep → Bool
  | some (.cls y) => y == x
  | _ => false
def Dep.isStr : Option Dep → Bool
  | some .strd => true
  | _ => false
def visB (sc : Scope) (x : Str) : Bool := (match sc.names.lookup x with
  | some .local => true
  | some .cell => true
  | some .free => true
  | _ => false) && !(x == ("__debug__" : Str)) && !(x == ("__classdict__" : Str))
def glB (sc : Scope) (x : Str) : Bool := (match sc.names.lookup x with
  | some .globalImplicit => true
  | _ => false) && !(x == ("__debug__" : Str)) && !(x == ("__name__" : Str))
def locB (sc : Scope) (x : Str) : Bool := match sc.names.lookup x with
  | some .local => true
  | some .cell => true
  | _ => false
def isLocal (sc : Scope) (x : Str) : Bool := match sc.names.lookup x with
  | some .local => true
  | _ => false
def star : Expr → Bool
  | .Starred .. => true
  | _ => false
def noStars (es : List Expr) : Bool := es.all fun e => !star e
/-- not of the form f() -/
def noBare : Expr → Bool
  | .Call (.Name _ _) [] [] _ => false
  | _ => true
def notSet : Expr → Bool
  | .Set .. => false
  | _ => true
def itTp : CE → Bool
  | .zip2 .. => true
  | .zip3 .. => true
  | .enm .. => true
  | _ => false
def ctIx : CT → List Nat
  | .nm i => [i]
  | .tp r => ctIx r
  | .nil => []
  | .cons a r => ctIx a ++ ctIx r
def isTp : CT → Bool
  | .tp _ => true
  | _ => false
def noSlice : Expr → Bool
  | .Slice .. => false
  | _ => true
def sameFlat : D → D → Bool
  | .int i, .int j => i == j
  | .str x, .str y => x == y
  | _, _ => false
def BI.nm : BI → Str
  | .len => "len" | .tuple => "tuple" | .list => "list" | .sum => "sum" | .min1 => "min" | .max1 => "max" | .min2 => "min" | .max2 => "max"
  | .all => "all" | .abs => "abs" | .int => "int" | .str => "str" | .repr => "repr" | .divmod => "divmod" | .sorted => "sorted"
def TyN.nm : TyN → Str
  | .int => "int" | .bool => "bool" | .str => "str" | .tuple => "tuple" | .list => "list"
def isUp : MI → CA → List Expr → Bool
  | .upper, .nil, [] => true
  | _, _, _ => false
def MI.nm : MI → Str
  | .index => "index" | .split => "split" | .join => "join" | .count => "count" | .upper => "upper"
/-- a comprehension's block: own are the places of its own names -/
def blkB (N : List Str) (sc scope : Scope) (own : List Nat) : Bool :=
  decide (scope.kind = .function) && (scope.names.all fun y => decide (scope.names.lookup y.1 = some y.2)) && own.all (fun i => decide (i < N.length)) &&
  (scope.names.all fun y => (!decide (y.2 = .free) || decide (sc.names.lookup y.1 = some .cell) || decide (sc.names.lookup y.1 = some .free)) &&
    (!(decide (y.2 = .local) || decide (y.2 = .cell)) || (own.any fun i => decide (N[i]? = some y.1)) || !N.contains y.1))
mutual
def chkT (N : List Str) (sc : Scope) : CT → Expr → Bool
  | .nm i, .Name x _ => decide (N[i]? = some x) && locB sc x
  | .tp r, .Tuple es _ _ => chkTs N sc r es
  | _, _ => false
def chkTs (N : List Str) (sc : Scope) : CT → List Expr → Bool
  | .nil, [] => true
  | .cons a r, e :: es => !star e && chkT N sc a e && chkTs N sc r es
  | _, _ => false
end
def vName : Expr → Option (Str)
  | .Name x _ => some x
  | _ => none
theorem vName_ok {e : Expr} {x : Str} (hv : vName e = some x) : ∃ p, e = .Name x p := by
  unfold vName at hv
  split at hv
  · cases hv
    first | exact ⟨_, rfl⟩ | exact ⟨_, _, rfl⟩ | exact ⟨_, _, _, _, _, rfl⟩ | rfl
  · cases hv
def vBin : Expr → Option (Operator × Expr × Expr)
  | .BinOp x o y _ => some (o, x, y)
  | _ => none
theorem vBin_ok {e : Expr} {o : Operator} {x : Expr} {y : Expr} (hv : vBin e = some (o, x, y)) : ∃ p, e = .BinOp x o y p := by
  unfold vBin at hv
  split at hv
  · cases hv
    first | exact ⟨_, rfl⟩ | exact ⟨_, _, rfl⟩ | exact ⟨_, _, _, _, _, rfl⟩ | rfl
  · cases hv
def vNeg : Expr → Option (Expr)
  | .UnaryOp .USub x _ => some x
  | _ => none
theorem vNeg_ok {e : Expr} {x : Expr} (hv : vNeg e = some x) : ∃ p, e = .UnaryOp .USub x p := by
  unfold vNeg at hv
  split at hv
  · cases hv
    first | exact ⟨_, rfl⟩ | exact ⟨_, _, rfl⟩ | exact ⟨_, _, _, _, _, rfl⟩ | rfl
  · cases hv
def vNot : Expr → Option (Expr)
  | .UnaryOp .Not x _ => some x
  | _ => none
theorem vNot_ok {e : Expr} {x : Expr} (hv : vNot e = some x) : ∃ p, e = .UnaryOp .Not x p := by
  unfold vNot at hv
  split at hv
  · cases hv
    first | exact ⟨_, rfl⟩ | exact ⟨_, _, rfl⟩ | exact ⟨_, _, _, _, _, rfl⟩ | rfl
  · cases hv
def vCmp : Expr → Option (CmpOp × Expr × Expr)
  | .Compare x [o] [y] _ => some (o, x, y)
  | _ => none
theorem vCmp_ok {e : Expr} {o : CmpOp} {x : Expr} {y : Expr} (hv : vCmp e = some (o, x, y)) : ∃ p, e = .Compare x [o] [y] p := by
  unfold vCmp at hv
  split at hv
  · cases hv
    first | exact ⟨_, rfl⟩ | exact ⟨_, _, rfl⟩ | exact ⟨_, _, _, _, _, rfl⟩ | rfl
  · cases hv
def vChain : Expr → Option (CmpOp × CmpOp × Expr × Expr × Expr)
  | .Compare x [o, q] [y, z] _ => some (o, q, x, y, z)
  | _ => none
theorem vChain_ok {e : Expr} {o : CmpOp} {q : CmpOp} {x : Expr} {y : Expr} {z : Expr} (hv : vChain e = some (o, q, x, y, z)) : ∃ p, e = .Compare x [o, q] [y, z] p := by
  unfold vChain at hv
  split at hv
  · cases hv
    first | exact ⟨_, rfl⟩ | exact ⟨_, _, rfl⟩ | exact ⟨_, _, _, _, _, rfl⟩ | rfl
  · cases hv
def vOne : Expr → Option (Expr)
  | .BoolOp _ [x] _ => some x
  | _ => none
theorem vOne_ok {e : Expr} {x : Expr} (hv : vOne e = some x) : ∃ o p, e = .BoolOp o [x] p := by
  unfold vOne at hv
  split at hv
  · cases hv
    first | exact ⟨_, rfl⟩ | exact ⟨_, _, rfl⟩ | exact ⟨_, _, _, _, _, rfl⟩ | rfl
  · cases hv
def vAnd : Expr → Option (Expr × Expr × List Expr × Pos)
  | .BoolOp .And (x :: y :: r) p => some (x, y, r, p)
  | _ => none
theorem vAnd_ok {e : Expr} {x : Expr} {y : Expr} {r : List Expr} {p : Pos} (hv : vAnd e = some (x, y, r, p)) : e = .BoolOp .And (x :: y :: r) p := by
  unfold vAnd at hv
  split at hv
  · cases hv
    first | exact ⟨_, rfl⟩ | exact ⟨_, _, rfl⟩ | exact ⟨_, _, _, _, _, rfl⟩ | rfl
  · cases hv
def vOr : Expr → Option (Expr × Expr × List Expr × Pos)
  | .BoolOp .Or (x :: y :: r) p => some (x, y, r, p)
  | _ => none
theorem vOr_ok {e : Expr} {x : Expr} {y : Expr} {r : List Expr} {p : Pos} (hv : vOr e = some (x, y, r, p)) : e = .BoolOp .Or (x :: y :: r) p := by
  unfold vOr at hv
  split at hv
  · cases hv
    first | exact ⟨_, rfl⟩ | exact ⟨_, _, rfl⟩ | exact ⟨_, _, _, _, _, rfl⟩ | rfl
  · cases hv
def vIf : Expr → Option (Expr × Expr × Expr)
  | .IfExp t a b _ => some (t, a, b)
  | _ => none
theorem vIf_ok {e : Expr} {t : Expr} {a : Expr} {b : Expr} (hv : vIf e = some (t, a, b)) : ∃ p, e = .IfExp t a b p := by
  unfold vIf at hv
  split at hv
  · cases hv
    first | exact ⟨_, rfl⟩ | exact ⟨_, _, rfl⟩ | exact ⟨_, _, _, _, _, rfl⟩ | rfl
  · cases hv
def vTup : Expr → Option (List Expr)
  | .Tuple es _ _ => some es
  | _ => none
theorem vTup_ok {e : Expr} {es : List Expr} (hv : vTup e = some es) : ∃ k p, e = .Tuple es k p := by
  unfold vTup at hv
  split at hv
  · cases hv
    first | exact ⟨_, rfl⟩ | exact ⟨_, _, rfl⟩ | exact ⟨_, _, _, _, _, rfl⟩ | rfl
  · cases hv
def vLst : Expr → Option (List Expr)
  | .List es _ => some es
  | _ => none
theorem vLst_ok {e : Expr} {es : List Expr} (hv : vLst e = some es) : ∃ p, e = .List es p := by
  unfold vLst at hv
  split at hv
  · cases hv
    first | exact ⟨_, rfl⟩ | exact ⟨_, _, rfl⟩ | exact ⟨_, _, _, _, _, rfl⟩ | rfl
  · cases hv
def vLstS : Expr → Option (Expr × Expr)
  | .List [x, .Starred y _] _ => some (x, y)
  | _ => none
theorem vLstS_ok {e : Expr} {x y : Expr} (hv : vLstS e = some (x, y)) : ∃ p q, e = .List [x, .Starred y p] q := by
  unfold vLstS at hv
  split at hv
  · cases hv
    exact ⟨_, _, rfl⟩
  · cases hv
def vCall : Expr → Option (Str × List Expr)
  | .Call (.Name f _) xs [] _ => some (f, xs)
  | _ => none
theorem vCall_ok {e : Expr} {f : Str} {xs : List Expr} (hv : vCall e = some (f, xs)) : ∃ q p, e = .Call (.Name f q) xs [] p := by
  unfold vCall at hv
  split at hv
  · cases hv
    first | exact ⟨_, rfl⟩ | exact ⟨_, _, rfl⟩ | exact ⟨_, _, _, _, _, rfl⟩ | rfl
  · cases hv
def vMeth : Expr → Option (Expr × Str × List Expr × Pos × Pos)
  | .Call (.Attribute y n a) xs [] c => some (y, n, xs, a, c)
  | _ => none
theorem vMeth_ok {e : Expr} {y : Expr} {n : Str} {xs : List Expr} {a : Pos} {c : Pos} (hv : vMeth e = some (y, n, xs, a, c)) : e = .Call (.Attribute y n a) xs [] c := by
  unfold vMeth at hv
  split at hv
  · cases hv
    first | exact ⟨_, rfl⟩ | exact ⟨_, _, rfl⟩ | exact ⟨_, _, _, _, _, rfl⟩ | rfl
  · cases hv
def vAttr : Expr → Option (Expr × Str)
  | .Attribute y f _ => some (y, f)
  | _ => none
theorem vAttr_ok {e : Expr} {y : Expr} {f : Str} (hv : vAttr e = some (y, f)) : ∃ p, e = .Attribute y f p := by
  unfold vAttr at hv
  split at hv
  · cases hv
    first | exact ⟨_, rfl⟩ | exact ⟨_, _, rfl⟩ | exact ⟨_, _, _, _, _, rfl⟩ | rfl
  · cases hv
def vSub : Expr → Option (Expr × Expr)
  | .Subscript x y _ => some (x, y)
  | _ => none
theorem vSub_ok {e : Expr} {x : Expr} {y : Expr} (hv : vSub e = some (x, y)) : ∃ p, e = .Subscript x y p := by
  unfold vSub at hv
  split at hv
  · cases hv
    first | exact ⟨_, rfl⟩ | exact ⟨_, _, rfl⟩ | exact ⟨_, _, _, _, _, rfl⟩ | rfl
  · cases hv
def vSlc : Expr → Option (Expr × Option Expr × Option Expr)
  | .Subscript x (.Slice l h none _) _ => some (x, l, h)
  | _ => none
theorem vSlc_ok {e : Expr} {x : Expr} {l : Option Expr} {h : Option Expr} (hv : vSlc e = some (x, l, h)) : ∃ q p, e = .Subscript x (.Slice l h none q) p := by
  unfold vSlc at hv
  split at hv
  · cases hv
    first | exact ⟨_, rfl⟩ | exact ⟨_, _, rfl⟩ | exact ⟨_, _, _, _, _, rfl⟩ | rfl
  · cases hv
def vRev : Expr → Option (Expr)
  | .Subscript x (.Slice none none (some (.UnaryOp .USub (.Constant (.int 1) _ _) _)) _) _ => some x
  | _ => none
theorem vRev_ok {e : Expr} {x : Expr} (hv : vRev e = some x) : ∃ k p1 p2 p3 p, e = .Subscript x (.Slice none none (some (.UnaryOp .USub (.Constant (.int 1) k p1) p2)) p3) p := by
  unfold vRev at hv
  split at hv
  · cases hv
    first | exact ⟨_, rfl⟩ | exact ⟨_, _, rfl⟩ | exact ⟨_, _, _, _, _, rfl⟩ | rfl
  · cases hv
def vComp : Expr → Option (Expr × Expr × Expr × List Expr × Scope)
  | .ListComp e' [⟨t, i, fs, 0⟩] sc _ => some (e', t, i, fs, sc)
  | _ => none
theorem vComp_ok {e : Expr} {e' : Expr} {t : Expr} {i : Expr} {fs : List Expr} {sc : Scope} (hv : vComp e = some (e', t, i, fs, sc)) : ∃ p, e = .ListComp e' [⟨t, i, fs, 0⟩] sc p := by
  unfold vComp at hv
  split at hv
  · cases hv
    first | exact ⟨_, rfl⟩ | exact ⟨_, _, rfl⟩ | exact ⟨_, _, _, _, _, rfl⟩ | rfl
  · cases hv
def vComp2 : Expr → Option ((Expr × Expr × Expr × List Expr × Scope) × Expr × Expr × List Expr)
  | .ListComp e' [⟨t, i, fs, 0⟩, ⟨t1, i1, fs1, 0⟩] sc _ => some ((e', t, i, fs, sc), t1, i1, fs1)
  | _ => none
theorem vComp2_ok {e : Expr} {e' : Expr} {t : Expr} {i : Expr} {fs : List Expr} {sc : Scope} {t1 : Expr} {i1 : Expr} {fs1 : List Expr} (hv : vComp2 e = some ((e', t, i, fs, sc), t1, i1, fs1)) : ∃ p, e = .ListComp e' [⟨t, i, fs, 0⟩, ⟨t1, i1, fs1, 0⟩] sc p := by
  unfold vComp2 at hv
  split at hv
  · cases hv
    first | exact ⟨_, rfl⟩ | exact ⟨_, _, rfl⟩ | exact ⟨_, _, _, _, _, rfl⟩ | rfl
  · cases hv

def lamSB' (sc scope : Scope) : Bool :=
  decide (scope.kind = .function) && !scope.isCoroutine && !scope.isGenerator && scope.names.all fun y => !decide (y.2 = .local) && !decide (y.2 = .cell) && (!decide (y.2 = .free) || decide (sc.names.lookup y.1 = some .cell) || decide (sc.names.lookup y.1 = some .free))
def vLam : Expr → Option (Str × Expr × Scope)
  | .Call (.Name f _) [.Lambda ⟨[], [], none, [], [], none, []⟩ body scope _] [] _ => some (f, body, scope)
  | _ => none
theorem vLam_ok {e : Expr} {f : Str} {body : Expr} {scope : Scope} (hv : vLam e = some (f, body, scope)) : ∃ q l p, e = .Call (.Name f q) [.Lambda ⟨[], [], none, [], [], none, []⟩ body scope l] [] p := by
  unfold vLam at hv
  split at hv
  · cases hv
    exact ⟨_, _, _, rfl⟩
  · cases hv
def lam1B (sc scope : Scope) (x : Str) : Bool :=
  decide (scope.kind = .function) && !scope.isCoroutine && !scope.isGenerator && decide (scope.names.lookup x = some .local) && scope.names.all fun y => !decide (y.2 = .cell) && (!decide (y.2 = .local) || decide (y.1 = x)) && (!decide (y.2 = .free) || decide (sc.names.lookup y.1 = some .cell) || decide (sc.names.lookup y.1 = some .free))
def vSortK : Expr → Option (Str × Expr × Str × Str × Pos × Expr × Scope)
  | .Call (.Name f _) [y] [⟨some kw, .Lambda ⟨[], [⟨x, none, p⟩], none, [], [], none, []⟩ body scope _, _⟩] _ => some (f, y, kw, x, p, body, scope)
  | _ => none
theorem vSortK_ok {e : Expr} {f : Str} {y : Expr} {kw x : Str} {p : Pos} {body : Expr} {scope : Scope} (hv : vSortK e = some (f, y, kw, x, p, body, scope)) : ∃ q l kp pos, e = .Call (.Name f q) [y] [⟨some kw, .Lambda ⟨[], [⟨x, none, p⟩], none, [], [], none, []⟩ body scope l, kp⟩] pos := by
  unfold vSortK at hv
  split at hv
  · cases hv
    exact ⟨_, _, _, _, rfl⟩
  · cases hv
/-- the lambda's names: its parameter, what it captures -/
def lamN (N : List Str) (x : Str) (fv : List Nat) : List Str := x :: fv.map fun i => N.getD i ""
def fvB (N : List Str) (scope : Scope) (fv : List Nat) : Bool := fv.all fun i => decide (i < N.length) && decide (scope.names.lookup (N.getD i "") = some .free)
def plainT : Expr → Bool
  | .UnaryOp .Not _ _ => false
  | .BoolOp .. => false
  | .IfExp .. => false
  | .Compare .. => false
  | _ => true
/-- as a test -/
def tstOk : CE → Expr → Bool
  | .one a, e => match vOne e with | some x => tstOk a x | none => false
  | .andc a r, e => match vAnd e with | some (x, y, l, p) => tstOk a x && tstOk r (.BoolOp .And (y :: l) p) | none => false
  | .orc a r, e => match vOr e with | some (x, y, l, p) => tstOk a x && tstOk r (.BoolOp .Or (y :: l) p) | none => false
  | .not a, e => match vNot e with | some x => tstOk a x | none => false
  | .cmp .., _ => true
  | .chain .., _ => true
  | .inC .., _ => true
  | .nev, _ => true
  | _, e => plainT e
/-- what makes a list of its own -/
def isFresh : CE → Bool
  | .lst _ => true
  | .comp .. => true
  | .blt .list _ => true
  | .bin .Add _ _ => true
  | _ => false
def isYes : CE → Bool
  | .yes => true
  | _ => false
mutual
/-- it: as what a for or a comprehension walks -/
def chk (F : Fx) : Bool → Scope → CE → Expr → Bool
  | _, sc, .var i, e => match vName e with | some x => decide (F.N[i]? = some x) && visB sc x | none => false
  | _, sc, .glob x d, e => match vName e with | some y => x == y && glB sc y && (match F.globs.lookup y with | some d' => sameFlat d d' | none => false) | none => false
  | _, _, .cint i, e => match e with | .Constant (.int j) _ _ => i == j | _ => false
  | _, _, .cstr i, e => match e with | .Constant (.str j) _ _ => i == j | _ => false
  | _, _, .cbl i, e => match e with | .Constant (.bool j) _ _ => i == j | _ => false
  | _, _, .cnon, e => match e with | .Constant .none _ _ => true | _ => false
  | _, sc, .bin op a b, e => match vBin e with | some (o, x, y) => op == o && chk F false sc a x && chk F false sc b y | none => false
  | _, sc, .neg a, e => match vNeg e with | some x => chk F false sc a x | none => false
  | _, sc, .cmp op a b, e => match vCmp e with | some (o, x, y) => op == o && chk F false sc a x && chk F false sc b y && !behindInMarks o y | none => false
  | _, sc, .chain o1 o2 a b c, e => match vChain e with | some (o, q, x, y, z) => o1 == o && o2 == q && chk F false sc a x && chk F false sc b y && chk F false sc c z && !lastMarks [o, q] [y, z] | none => false
  | _, sc, .one a, e => match vOne e with | some x => chk F false sc a x | none => false
  | _, sc, .andc a r, e => match vAnd e with | some (x, y, l, p) => chk F false sc a x && chk F false sc r (.BoolOp .And (y :: l) p) | none => false
  | _, sc, .orc a r, e => match vOr e with | some (x, y, l, p) => chk F false sc a x && chk F false sc r (.BoolOp .Or (y :: l) p) | none => false
  | _, sc, .not a, e => match vNot e with | some x => chk F false sc a x | none => false
  | _, sc, .ite t a b, e => match vIf e with | some (t', a', b') => chk F false sc t t' && tstOk t t' && chk F false sc a a' && chk F false sc b b' | none => false
  | _, sc, .tup es, e => match vTup e with | some xs => chkA F sc es xs | none => false
  | _, sc, .lst es, e => match vLst e with | some xs => chkA F sc es xs | none => false
  | _, _, .emp, e => match e with | .Dict [] [] _ => true | _ => false
  | _, sc, .call j es, e => match vCall e with | some (f, xs) => (Dep.isFn f F.deps[j]? || (F.gd && Dep.isFnG f F.deps[j]?) || Dep.isFnD f F.deps[j]?) && glB sc f && chkA F sc es xs && !xs.isEmpty | none => false
  | _, sc, .mk j es, e => match vCall e with | some (f, xs) => Dep.isMk f F.deps[j]? && glB sc f && chkA F sc es xs && !xs.isEmpty | none => false
  | _, sc, .blt b es, e => match vCall e with | some (f, xs) => f == b.nm && F.frees.contains f && glB sc f && chkA F sc es xs && !xs.isEmpty | none => false
  | _, sc, .isi t a, e => match vCall e with | some (f, [x, z]) => (match vName z with | some y => f == "isinstance" && F.frees.contains f && glB sc f && y == t.nm && F.frees.contains y && glB sc y && chk F false sc a x && !star x | none => false) | _ => false
  | _, sc, .mth m o es, e => match vMeth e with | some (y, n, xs, a, c) => n == m.nm && chk F false sc o y && chkA F sc es xs && (decide (xs.length = 1) || isUp m es xs) && (a.endLine == c.line) && noBare y | none => false
  | _, sc, .att o f, e => match vAttr e with | some (y, f') => f == f' && chk F false sc o y && noBare y | none => false
  | _, sc, .prp j o f, e => match vAttr e with | some (y, f') => f == f' && Dep.isProp f' F.deps[j]? && chk F false sc o y && noBare y | none => false
  | _, sc, .lenO j o, e => match vCall e with | some (f, [x]) => f == "len" && F.frees.contains f && glB sc f && Dep.isLen F.deps[j]? && chk F false sc o x && !star x | _ => false
  | _, sc, .idx a b, e => match vSub e with | some (x, y) => chk F false sc a x && chk F false sc b y && noSlice y | none => false
  | _, sc, .slL a lo, e => match vSlc e with | some (x, some y, none) => chk F false sc a x && chk F false sc lo y | _ => false
  | _, sc, .slH a hi, e => match vSlc e with | some (x, none, some y) => chk F false sc a x && chk F false sc hi y | _ => false
  | _, sc, .slB a lo hi, e => match vSlc e with | some (x, some y, some z) => chk F false sc a x && chk F false sc lo y && chk F false sc hi z | _ => false
  | _, sc, .rev a, e => match vRev e with | some x => chk F false sc a x | none => false
  | it, sc, .zip2 a b, e => it && (match vCall e with | some (f, [x, y]) => f == "zip" && F.frees.contains f && glB sc f && chk F false sc a x && chk F false sc b y && !star x && !star y | _ => false)
  | it, sc, .zip3 a b c, e => it && (match vCall e with | some (f, [x, y, z]) => f == "zip" && F.frees.contains f && glB sc f && chk F false sc a x && chk F false sc b y && chk F false sc c z && !star x && !star y && !star z | _ => false)
  | it, sc, .enm a, e => it && (match vCall e with | some (f, [x]) => f == "enumerate" && F.frees.contains f && glB sc f && chk F false sc a x && !star x | _ => false)
  | it, sc, .rng1 a, e => it && (match vCall e with | some (f, [x]) => f == "range" && F.frees.contains f && glB sc f && chk F false sc a x && !star x | _ => false)
  | it, sc, .rng2 a b, e => it && (match vCall e with | some (f, [x, y]) => f == "range" && F.frees.contains f && glB sc f && chk F false sc a x && chk F false sc b y && !star x && !star y | _ => false)
  | _, sc, .comp elt tg it cnd own, e => match vComp e with | some (e', t, i, fs, scope) => chk F true sc it i && notSet i && (!itTp it || isTp tg) && blkB F.N sc scope own && chkT F.N scope tg t && (match fs with | [] => isYes cnd | [x] => chk F false scope cnd x && tstOk cnd x | _ => false) && chk F false scope elt e' | none => false
  | _, sc, .comp2 elt tg it cnd tg1 it1 cnd1 own own1, e => match vComp2 e with | some ((e', t, i, fs, scope), t1, i1, fs1) => chk F true sc it i && notSet i && (!itTp it || isTp tg) && blkB F.N sc scope own && (own1.all fun j => own.contains j) && chkT F.N scope tg t && (match fs with | [] => isYes cnd | [x] => chk F false scope cnd x && tstOk cnd x | _ => false) && chk F true scope it1 i1 && notSet i1 && (!itTp it1 || isTp tg1) && (ctIx tg1).all (fun j => own1.contains j) && chkT F.N scope tg1 t1 && (match fs1 with | [] => isYes cnd1 | [x] => chk F false scope cnd1 x && tstOk cnd1 x | _ => false) && chk F false scope elt e' | none => false
  | _, sc, .lenC i, e => match vCall e with | some (f, [z]) => (match vName z with | some x => f == "len" && F.frees.contains f && glB sc f && decide (F.N[i]? = some x) && visB sc x | none => false) | _ => false
  | _, sc, .tupC i, e => match vCall e with | some (f, [z]) => (match vName z with | some x => f == "tuple" && F.frees.contains f && glB sc f && decide (F.N[i]? = some x) && visB sc x | none => false) | _ => false
  | _, sc, .lenSet a, e => match vCall e with | some (f, [z]) => (match vCall z with | some (h, [x]) => f == "len" && F.frees.contains f && glB sc f && h == "set" && F.frees.contains h && glB sc h && chk F false sc a x && !star x | _ => false) | _ => false
  | _, sc, .idxC i b, e => match vSub e with | some (z, y) => (match vName z with | some x => decide (F.N[i]? = some x) && visB sc x && chk F false sc b y && noSlice y | none => false) | none => false
  | _, sc, .inC neg a i, e => match vCmp e with | some (o, y, z) => (match vName z with | some x => o == (if neg then .NotIn else .In) && decide (F.N[i]? = some x) && visB sc x && chk F false sc a y | none => false) | none => false
  | _, sc, .popC i b, e => match vMeth e with | some (z, n, [y], a, c) => (match vName z with | some x => n == "pop" && decide (F.N[i]? = some x) && visB sc x && chk F false sc b y && !star y && (a.endLine == c.line) | none => false) | _ => false
  | _, _, .idxD _ _, _ => false
  | _, _, .getD _ _ _, _ => false
  | _, sc, .lam j b, e => match vLam e with | some (f, body, scope) => F.lam && Dep.isTld f F.deps[j]? && glB sc f && lamSB' sc scope && chk { F with lam := false, gd := false } false scope b body | none => false
  | _, sc, .sortK j a pb fv, e => match vSortK e with
    | some (f, y, kw, x, _, body, scope) => f == "sorted" && kw == "key" && F.frees.contains f && glB sc f && !star y && F.lam && Dep.isLamk F.deps[j]? && lam1B sc scope x && chk F false sc a y && decide (lamN F.N x fv).Nodup && fvB F.N scope fv && chk { F with N := lamN F.N x fv, lam := false, gd := false } false scope pb body
    | none => false
  | _, _, .nev, _ => true
  | _, _, .yes, _ => false
  | _, sc, .isC j a, e => match vCall e with | some (f, [x, z]) => (match vName z with | some y => f == "isinstance" && F.frees.contains f && glB sc f && Dep.isCls y F.deps[j]? && glB sc y && chk F false sc a x && !star x | none => false) | _ => false
  | _, sc, .strO j o, e => match vCall e with | some (f, [x]) => f == "str" && F.frees.contains f && glB sc f && Dep.isStr F.deps[j]? && chk F false sc o x && !star x | _ => false
  | _, sc, .lstS a b, e => match vLstS e with | some (x, y) => !star x && chk F false sc a x && chk F false sc b y | none => false
  | _, sc, .rpr a, e => match vCall e with | some (f, [x]) => F.gd && f == "repr" && F.frees.contains f && glB sc f && chk F false sc a x && !star x | _ => false
def chkA (F : Fx) (sc : Scope) : CA → List Expr → Bool
  | .nil, es => es.isEmpty
  | .cons a r, es => match es with | x :: xs => !star x && chk F false sc a x && chkA F sc r xs | [] => false
  | .cel i r, es => match es with | z :: xs => (match vName z with | some x => decide (F.N[i]? = some x) && visB sc x && chkA F sc r xs | none => false) | [] => false
  | .ccl j as r, es => match es with | z :: xs => (match vCall z with | some (f, ys) => Dep.isFnF f F.deps[j]? && glB sc f && chkA F sc as ys && !ys.isEmpty && noStars ys && chkA F sc r xs | none => false) | [] => false
  | .fre e r, es => match es with | x :: xs => !star x && isFresh e && chk F false sc e x && chkA F sc r xs | [] => false
end
def isComp : Expr → Bool
  | .ListComp .. => true
  | .SetComp .. => true
  | .DictComp .. => true
  | _ => false
/-- is the store of this comprehension done from within it? -/
def swName (sc : Scope) (value : Expr) (x : Str) (px : Pos) : Bool := match value with
  | .ListComp _ _ scope _ => decide (sc.names.lookup x = some .local) && px.line == value.pos.line && !(scope.names.any fun (n, k) => n == x && (k == .local || k == .cell))
  | _ => false
def swNames (sc : Scope) (ts : List Expr) : List Str := ts.filterMap fun
      | .Name id pos => if sc.names.lookup id == some .local && pos.line == (ts.head?.map (·.pos.line)).getD 0 then some id else none
      | _ => none
def swStores (sc : Scope) (ts vs : List Expr) : Option (Option (List Str)) :=
  if !(ts.length == 2 || ts.length == 3) || vs.length != ts.length then some none
  else if (vs.any fun | .Starred .. => true | _ => false) then some none
  else if (swNames sc ts).length != ts.length || (swNames sc ts).eraseDups.length != (swNames sc ts).length then some none
  else if vs.all (foldedForSure 8) then some none
  else if vs.all (constantsAlone 8) then none
  else some (some (swNames sc ts))
/-- the stores are plain -/
def plainStore (sc : Scope) (tg e : Expr) : Bool := match tg with
  | .Name x p => !swName sc e x p && (match e with | .SetComp .. => false | .DictComp .. => false | _ => true)
  | .Tuple ts _ _ => (match e with | .Tuple vs _ _ => (match swStores sc ts vs with | some none => true | _ => false) | _ => true)
  | _ => false
mutual
def chkS (F : Fx) (sc : Scope) : CS → Stmt → Bool
  | .never, _ => true
  | .pass, st => match st with | .Pass _ => true | _ => false
  | .asg tg e, st => match st with | .Assign [t] x _ => chkT F.N sc tg t && chk F false sc e x && (plainStore sc t x || (match t, x with | .Name y p, .ListComp _ _ _ _ => swName sc x y p | _, _ => false)) | _ => false
  | .asg2 i j es, st => match st with | .Assign [.Tuple [.Name x px, .Name y py] _ _] (.Tuple [a, b] _ _) _ => decide (F.N[i]? = some x) && decide (F.N[j]? = some y) && decide (i ≠ j) && chkA F sc es [a, b] && ((isLocal sc x && isLocal sc y && decide (swStores sc [.Name x px, .Name y py] [a, b] = some (some [x, y]))) || (locB sc x && locB sc y && decide (swStores sc [.Name x px, .Name y py] [a, b] = some none))) | _ => false
  | .asgC i e, st => match st with | .Assign [.Name x p] y _ => decide (F.N[i]? = some x) && locB sc x && isFresh e && chk F false sc e y && (plainStore sc (.Name x p) y || (match y with | .ListComp _ _ _ _ => swName sc y x p | _ => false)) | _ => false
  | .setC i ix e, st => match st with | .Assign [.Subscript (.Name x _) y _] z _ => decide (F.N[i]? = some x) && visB sc x && chk F false sc ix y && chk F false sc e z && noSlice y | _ => false
  | .asgX i ix j e, st => match st with | .Assign [.Tuple [.Subscript (.Name x _) y _, .Name u _] _ _] z _ => decide (F.N[i]? = some x) && visB sc x && chk F false sc ix y && noSlice y && decide (F.N[j]? = some u) && locB sc u && chk F false sc e z && !isComp z && (match z with | .Tuple .. => false | _ => true) | _ => false
  | .appC i e, st => match st with | .Expr (.Call (.Attribute (.Name x _) n a) [y] [] c) _ => n == "append" && decide (F.N[i]? = some x) && visB sc x && chk F false sc e y && !star y && (a.endLine == c.line) | _ => false
  | .expr e, st => match st with | .Expr x _ => chk F false sc e x && !isComp x && (match x with | .Constant .. => false | _ => true) | _ => false
  | .ite t a b, st => match st with | .If x y z _ => chk F false sc t x && tstOk t x && chkSs F sc a y && chkSs F sc b z | _ => false
  | .for_ tg it body, st => match st with | .For t i ss [] _ => chk F true sc it i && notSet i && (!itTp it || isTp tg) && chkT F.N sc tg t && chkSs F sc body ss | _ => false
  | .whl _ t body, st => match st with | .While x ss [] _ => chk F false sc t x && tstOk t x && chkSs F sc body ss | _ => false
  | .ret e, st => match st with | .Return (some x) _ => chk F false sc e x | _ => false
  | .retP i j, st => match st with | .Return (some (.Tuple [a, c] _ _)) _ => chkA F sc (.cel i (.cel j .nil)) [a, c] | _ => false
  | .asgP i j dp as, st => match st with | .Assign [.Tuple [.Name x _, .Name y _] _ _] z _ => (match vCall z with | some (f, ys) => decide (F.N[i]? = some x) && decide (F.N[j]? = some y) && locB sc x && locB sc y && Dep.isFnP f F.deps[dp]? && glB sc f && chkA F sc as ys && !ys.isEmpty && noStars ys | none => false) | _ => false
  | .retF e, st => match st with | .Return (some x) _ => chk F false sc e x && isFresh e | _ => false
  | .retN, st => match st with | .Return none _ => true | _ => false
  | .brk, st => match st with | .Break _ => true | _ => false
  | .cnt, st => match st with | .Continue _ => true | _ => false
  | .skip, _ => false
  | .seq _ _, _ => false
  | .gho _ _, _ => false
  | .asg3 i j l es, st => match st with | .Assign [.Tuple [.Name x px, .Name y py, .Name z pz] _ _] (.Tuple [a, b, c] _ _) _ => decide (F.N[i]? = some x) && decide (F.N[j]? = some y) && decide (F.N[l]? = some z) && decide (i ≠ j) && decide (i ≠ l) && decide (j ≠ l) && isLocal sc x && isLocal sc y && isLocal sc z && chkA F sc es [a, b, c] && decide (swStores sc [.Name x px, .Name y py, .Name z pz] [a, b, c] = some (some [x, y, z])) | _ => false
  | .asgD _ _ _, _ => false
  | .setD _ _ _, _ => false
def chkSs (F : Fx) (sc : Scope) : CS → List Stmt → Bool
  | .skip, ss => ss.isEmpty
  | .seq a b, ss => match ss with | st :: r => chkS F sc a st && chkSs F sc b r | [] => false
  | .gho _ r, ss => chkSs F sc r ss
  | .never, _ => true
  | _, _ => false
end
end DL

set_option Elab.async false
set_option linter.all false
set_option autoImplicit false
set_option maxRecDepth 100000
set_option maxHeartbeats 4000000
namespace DL
open PySem L2 PySem.Spec PyProof.Rows

section
variable {X : Cx}
theorem PE.of {e : Expr} {t t' : TE} (h : PE X e t) (i : ∀ sg H Q, t' sg H Q → t sg H Q) : PE X e t' := ⟨fun pins s sg H Q I q => h.run pins s sg H Q I (i sg H Q q)⟩
theorem PT.of {e : Expr} {t t' : TT} (h : PT X e t) (i : ∀ sg H Q, t' sg H Q → t sg H Q) : PT X e t' := ⟨fun pins s sg H Q I q => h.run pins s sg H Q I (i sg H Q q)⟩
theorem PA.of {e : List Expr} {t t' : TA} (h : PA X e t) (i : ∀ sg H Q, t' sg H Q → t sg H Q) : PA X e t' := ⟨fun pos pins s sg H Q I q => h.run pos pins s sg H Q I (i sg H Q q)⟩
theorem PS.of {e : Stmt} {t t' : TS} (h : PS X e t) (i : ∀ D sg H, t' D sg H → t D sg H) : PS X e t' := ⟨fun pins s sg H D I q => h.run pins s sg H D I (i D sg H q)⟩
theorem PSs.of {e : List Stmt} {t t' : TS} (h : PSs X e t) (i : ∀ D sg H, t' D sg H → t D sg H) : PSs X e t' := ⟨fun pins s sg H D I q => h.run pins s sg H D I (i D sg H q)⟩
end

variable {w : Wd}
section
variable {G H : Hp} {v : V}
theorem den_non (h : Den w G .non v) : v = .non := by cases h; rfl
theorem den_bl {b : Bool} (h : Den w G (.bl b) v) : v = .bl b := by cases h; rfl
theorem den_int {i : Int} (h : Den w G (.int i) v) : v = .int i := by cases h; rfl
theorem den_str {x : Str} (h : Den w G (.str x) v) : v = .str x := by cases h; rfl
theorem den_lst {xs : List D} (h : Den w G (.lst xs) v) : ∃ a vs, v = .ref a ∧ SqL w.K G a vs ∧ Dens w G xs vs := by cases h with | lst s r => exact ⟨_, _, rfl, s, r⟩
theorem den_tup {xs : List D} (h : Den w G (.tup xs) v) : ∃ a vs o, v = .ref a ∧ G a = some (.frz o (.tup vs)) ∧ TupO o ∧ Dens w G xs vs := by cases h with | tup s t r => exact ⟨_, _, _, rfl, s, t, r⟩
theorem frzT {K : PySem.W.Frag} {G : Hp} {a : Addr} {o : Obj} {vs : List V} (h : G a = some (.frz o (.tup vs))) : SqT K G a vs := .inl (.inr ⟨o, h⟩)
theorem den_ins {C : Nat} {xs : List D} (h : Den w G (.ins C xs) v) : ∃ a dx vs, v = .ref a ∧ G a = some (.ins (w.cls C) dx ((w.flds C).zip vs)) ∧ vs.length = (w.flds C).length ∧ Dens w G xs vs := by
  cases h with | ins e l r => exact ⟨_, _, _, rfl, e, l, r⟩
theorem dens_ints : ∀ {xs : List D} {vs : List V} {ns : List Int}, Dens w G xs vs → intsOf xs = some ns → vs = ns.map V.int
  | _, _, ns, .nil, h => by
    have e : ([] : List Int) = ns := Option.some.inj h
    rw [← e]; rfl
  | _, _, ns, .cons (d := d) (ds := ds) r s, h => by
    cases d with
    | int i =>
      have h2 : (intsOf ds).map (i :: ·) = some ns := h
      obtain ⟨m, h3, h4⟩ := Option.map_eq_some_iff.mp h2
      rw [← h4, List.map_cons, den_int r, dens_ints s h3]
    | _ => cases h
theorem dens_strs : ∀ {xs : List D} {vs : List V} {ns : List Str}, Dens w G xs vs → strsOf xs = some ns → vs = ns.map V.str
  | _, _, ns, .nil, h => by
    have e : ([] : List Str) = ns := Option.some.inj h
    rw [← e]; rfl
  | _, _, ns, .cons (d := d) (ds := ds) r s, h => by
    cases d with
    | str i =>
      have h2 : (strsOf ds).map (i :: ·) = some ns := h
      obtain ⟨m, h3, h4⟩ := Option.map_eq_some_iff.mp h2
      rw [← h4, List.map_cons, den_str r, dens_strs s h3]
    | _ => cases h
theorem dens_bls : ∀ {xs : List D} {vs : List V} {ns : List Bool}, Dens w G xs vs → blsOf xs = some ns → vs = ns.map V.bl
  | _, _, ns, .nil, h => by
    have e : ([] : List Bool) = ns := Option.some.inj h
    rw [← e]; rfl
  | _, _, ns, .cons (d := d) (ds := ds) r s, h => by
    cases d with
    | bl i =>
      have h2 : (blsOf ds).map (i :: ·) = some ns := h
      obtain ⟨m, h3, h4⟩ := Option.map_eq_some_iff.mp h2
      rw [← h4, List.map_cons, den_bl r, dens_bls s h3]
    | _ => cases h
theorem dens_flat_strs : ∀ (xs : List Str), Dens w G (xs.map D.str) (xs.map V.str)
  | [] => .nil
  | x :: xs => .cons (.str x) (dens_flat_strs xs)
end

section
variable {kap : List Addr} {G H : Hp} {st st' : S} {d : D} {Q : VK}
theorem Post.here (p : Post w kap G H st d Q) (k : Ok w kap G st H) {v : V} (r : Den w G d v) : Q v H := p v kap G H Step.refl k r
theorem Post.lst {xs : List D} {vs : List V} (p : Post w kap G H st (.lst xs) Q) (k : Ok w kap G st H) (r : Dens w G xs vs) (a : Addr) (ha : H a = none) : Q (.ref a) (upd H a (.lst vs)) := by
  obtain ⟨s, k2⟩ := Step.new k ha (o := .lst vs) nt_lst
  exact p _ _ _ _ s k2 (.lst (.inl (.inl upd_same)) (r.mono s.g))
theorem Post.tup {xs : List D} {vs : List V} (p : Post w kap G H st (.tup xs) Q) (k : Ok w kap G st H) (r : Dens w G xs vs) (a : Addr) (ha : H a = none) (o : Obj) (ho : TupO o) : Q (.ref a) (upd H a (.frz o (.tup vs))) := by
  obtain ⟨s, k2⟩ := Step.new k ha (o := .frz o (.tup vs)) nt_frz
  exact p _ _ _ _ s k2 (.tup upd_same ho (r.mono s.g))
theorem Post.pre {kap' : List Addr} {G' H' : Hp} (p : Post w kap G H st d Q) (s : Step kap G H kap' G' H') : Post w kap' G' H' st d Q :=
  fun v k2 G2 H2 s2 o2 r2 => p v k2 G2 H2 (s.trans s2) o2 r2
end

def pairD (xs ys : List D) (j : Nat) : Bool := match xs[j]?, ys[j]? with
  | some x, some y => eqD x y
  | _, _ => false
theorem pairD_succ (x y : D) (xs ys : List D) (j : Nat) : pairD (x :: xs) (y :: ys) (j + 1) = pairD xs ys j := by
  unfold pairD
  rw [List.getElem?_cons_succ, List.getElem?_cons_succ]
theorem pairD_zero (x y : D) (xs ys : List D) : pairD (x :: xs) (y :: ys) 0 = eqD x y := by
  unfold pairD
  rw [List.getElem?_cons_zero, List.getElem?_cons_zero]
theorem eqDs_eq : ∀ xs ys : List D, ((List.range (min xs.length ys.length)).all (pairD xs ys) && xs.length == ys.length) = eqDs xs ys
  | [], [] => by simp [eqDs]
  | [], _ :: _ => by simp [eqDs]
  | _ :: _, [] => by simp [eqDs]
  | x :: xs, y :: ys => by
    have ih := eqDs_eq xs ys
    have e1 : min (x :: xs).length (y :: ys).length = min xs.length ys.length + 1 := by simp only [List.length_cons]; omega
    rw [e1, List.range_succ_eq_map, List.all_cons, List.all_map]
    have e2 : (pairD (x :: xs) (y :: ys) ∘ Nat.succ) = pairD xs ys := funext fun j => pairD_succ x y xs ys j
    rw [e2, pairD_zero, Bool.and_assoc]
    have e3 : ((x :: xs).length == (y :: ys).length) = (xs.length == ys.length) := by simp
    rw [e3, ih]
    all_goals rfl
theorem eqDs_same {xs ys : List D} (h : xs.length = ys.length) : (List.range xs.length).all (pairD xs ys) = eqDs xs ys := by
  have := eqDs_eq xs ys
  rw [← h] at this
  simpa using this
theorem eqDs_other {xs ys : List D} (h : xs.length ≠ ys.length) : eqDs xs ys = false := by
  rw [← eqDs_eq xs ys]
  simp [h]
mutual
theorem eqD_refl : ∀ (n : Nat) (d : D), shp n d = true → eqD d d = true
  | _, .non, _ => rfl
  | _, .bl b, _ => by simp [eqD]
  | _, .int i, _ => by simp [eqD]
  | _, .str x, _ => by simp [eqD]
  | 0, .lst xs, h => by
    have e : xs = [] := by simpa [shp] using h
    subst e; rfl
  | 0, .tup xs, h => by
    have e : xs = [] := by simpa [shp] using h
    subst e; rfl
  | n + 1, .lst xs, h => eqDs_refl n xs h
  | n + 1, .tup xs, h => eqDs_refl n xs h
  | 0, .ins _ _, h => nomatch h
  | 0, .emp, h => nomatch h
  | _ + 1, .ins _ _, h => nomatch h
  | _ + 1, .emp, h => nomatch h
theorem eqDs_refl : ∀ (n : Nat) (ds : List D), shps n ds = true → eqDs ds ds = true
  | _, [], _ => rfl
  | n, x :: xs, h => by
    have h2 : (shp n x && shps n xs) = true := h
    rw [Bool.and_eq_true] at h2
    show (eqD x x && eqDs xs xs) = true
    rw [eqD_refl n x h2.1, eqDs_refl n xs h2.2]
    rfl
end
section
variable {X : Cx} {pins : List (Addr × Obj)} {sg : L2.St} {H G : Hp} {s : Shared}
theorem isL (I : Inv X pins sg H s) (hk : X.K = w.K) (le : Le G H) {a : Addr} {vs : List V} (h : SqL w.K G a vs) : ∃ its : List Value, Vals vs its ∧ s.heap.IsList a its.toArray := by
  rw [← hk] at h
  obtain ⟨its, rv, ⟨o, n, ho, hc, _, hd⟩, _⟩ := I.list (le.sl h)
  exact ⟨its, rv, o, ho, hc, n, hd⟩
theorem isT (I : Inv X pins sg H s) (hk : X.K = w.K) (le : Le G H) {a : Addr} {vs : List V} {o : Obj} (h : G a = some (.frz o (.tup vs))) : ∃ its : List Value, Vals vs its ∧ s.heap.IsTuple a its.toArray := by
  obtain ⟨its, rv, p, _⟩ := I.tuple (le.st (frzT h))
  exact ⟨its, rv, p⟩
theorem noLT {a : Addr} {x y : Array Value} (h1 : s.heap.IsList a x) (h2 : s.heap.IsTuple a y) : False := by
  obtain ⟨o, e, c, _⟩ := h1
  obtain ⟨o', e', c', _⟩ := h2
  rw [e] at e'
  cases e'
  have z : Value.type "list" = Value.type "tuple" := c.symm.trans c'
  injection z with z
  exact absurd z (by decide)
mutual
theorem Den.inj (I : Inv X pins sg H s) (hk : X.K = w.K) (le : Le G H) : ∀ (n m : Nat) (d e : D) (v : V), Den w G d v → Den w G e v → shp n d = true → shp m e = true → d = e
  | _, _, .non, e, _, h1, h2, _, hs => by
    cases h1
    cases h2; rfl
  | _, _, .bl b, e, _, h1, h2, _, hs => by
    cases h1
    cases h2; rfl
  | _, _, .int b, e, _, h1, h2, _, hs => by
    cases h1
    cases h2; rfl
  | _, _, .str b, e, _, h1, h2, _, hs => by
    cases h1
    cases h2; rfl
  | n, m, .lst xs, e, _, h1, h2, hn, hm => by
    cases h1 with
    | lst s1 r1 =>
      cases h2 with
      | @lst ys _ _ s2 r2 =>
        have ev := I.list_inj (le.sl (by rw [hk]; exact s1)) (le.sl (by rw [hk]; exact s2))
        subst ev
        cases n with
        | zero =>
          have e1 : xs = [] := by simpa [shp] using hn
          subst e1
          cases r1
          cases r2
          rfl
        | succ n =>
          cases m with
          | zero =>
            have e1 : ys = [] := by simpa [shp] using hm
            subst e1
            cases r2
            cases r1
            rfl
          | succ m => rw [Dens.inj I hk le n m xs ys _ r1 r2 hn hm]
      | tup s2 t2 r2 =>
        obtain ⟨_, _, a1⟩ := isL I hk le s1
        obtain ⟨_, _, a2⟩ := isT I hk le s2
        exact (noLT a1 a2).elim
      | ins => cases m <;> cases hm
      | emp => cases m <;> cases hm
  | n, m, .tup xs, e, _, h1, h2, hn, hm => by
    cases h1 with
    | tup s1 t1 r1 =>
      cases h2 with
      | @tup ys _ _ _ s2 t2 r2 =>
        have ev := I.tuple_inj (le.st (frzT s1)) (le.st (frzT s2))
        subst ev
        cases n with
        | zero =>
          have e1 : xs = [] := by simpa [shp] using hn
          subst e1
          cases r1
          cases r2
          rfl
        | succ n =>
          cases m with
          | zero =>
            have e1 : ys = [] := by simpa [shp] using hm
            subst e1
            cases r2
            cases r1
            rfl
          | succ m => rw [Dens.inj I hk le n m xs ys _ r1 r2 hn hm]
      | lst s2 r2 =>
        obtain ⟨_, _, a1⟩ := isL I hk le s2
        obtain ⟨_, _, a2⟩ := isT I hk le s1
        exact (noLT a1 a2).elim
      | ins => cases m <;> cases hm
      | emp => cases m <;> cases hm
  | n, _, .ins _ _, _, _, _, _, hn, _ => by cases n <;> cases hn
  | n, _, .emp, _, _, _, _, hn, _ => by cases n <;> cases hn
theorem Dens.inj (I : Inv X pins sg H s) (hk : X.K = w.K) (le : Le G H) : ∀ (n m : Nat) (d e : List D) (v : List V), Dens w G d v → Dens w G e v → shps n d = true → shps m e = true → d = e
  | _, _, [], _, _, h1, h2, _, _ => by
    cases h1
    cases h2; rfl
  | n, m, x :: xs, _, _, h1, h2, hn, hm => by
    have h3 : (shp n x && shps n xs) = true := hn
    rw [Bool.and_eq_true] at h3
    cases h1 with
    | cons a1 b1 =>
      cases h2 with
      | @cons y _ ys _ a2 b2 =>
        have h4 : (shp m y && shps m ys) = true := hm
        rw [Bool.and_eq_true] at h4
        rw [Den.inj I hk le n m x y _ a1 a2 h3.1 h4.1, Dens.inj I hk le n m xs ys _ b1 b2 h3.2 h4.2]
end
def okL : Nat → List D → Bool
  | 0, xs => xs.isEmpty
  | m + 1, xs => shps m xs
theorem shp_lst (n : Nat) (xs : List D) : shp n (.lst xs) = okL n xs := by cases n <;> rfl
theorem shp_tup (n : Nat) (xs : List D) : shp n (.tup xs) = okL n xs := by cases n <;> rfl
theorem okL_refl {n : Nat} {xs : List D} (h : okL n xs = true) : eqDs xs xs = true := by
  cases n with
  | zero =>
    have e : xs = [] := by simpa [okL] using h
    subst e; rfl
  | succ n => exact eqDs_refl n xs h
theorem okL_inj (I : Inv X pins sg H s) (hk : X.K = w.K) (le : Le G H) {n : Nat} {xs ys : List D} {vs : List V} (h1 : Dens w G xs vs) (h2 : Dens w G ys vs) (a : okL n xs = true) (b : okL n ys = true) : xs = ys := by
  cases n with
  | zero =>
    have e : xs = [] := by simpa [okL] using a
    have e2 : ys = [] := by simpa [okL] using b
    rw [e, e2]
  | succ n => exact Dens.inj I hk le n n xs ys vs h1 h2 a b
open SeqAt in
/-- what == says of the items -/
def Kids (w : Wd) (G : Hp) (s : Shared) (A : Around) (n : Nat) : Prop := ∀ (xs ys : List D) (vs ws : List V) (its its' : List Value), Dens w G xs vs → Dens w G ys ws → okL n xs = true → okL n ys = true → Vals vs its → Vals ws its' →
  ∀ (j : Nat) (h1 : j < its.length) (h2 : j < its'.length), EqAt A.in1 s its[j] its'[j] (pairD xs ys j)
theorem lens {xs : List D} {vs : List V} {its : List Value} (h : Dens w G xs vs) (r : Vals vs its) : its.toArray.size = xs.length := by
  rw [List.size_toArray, ← r.length, ← h.length]
open SeqAt in
theorem eqAt_step (I : Inv X pins sg H s) (hk : X.K = w.K) (le : Le G H) {A : Around} {n : Nat} (K : Kids w G s A n) (hu : A.units < cLine) (d e : D) (x y : V) (u v : Value) (h1 : Den w G d x) (h2 : Den w G e y) (hd : shp n d = true) (he : shp n e = true) (r1 : RelV x u) (r2 : RelV y v) :
    EqAt A s u v (eqD d e) ∧ RcAt A s u v (eqD d e) ∧ RcNeAt A s u v (!eqD d e) := by
  cases h1 with
  | non =>
    cases r1
    cases h2 with
    | non => cases r2; exact ⟨EqAt.same _, RcAt.none_none, RcNeAt.none_none⟩
    | bl b => cases r2; exact ⟨EqAt.none_bool b, RcAt.none_bool b, RcNeAt.none_bool b⟩
    | int i => obtain ⟨t, rfl⟩ := r2; exact ⟨EqAt.none_int i t, RcAt.none_int i t, RcNeAt.none_int i t⟩
    | str z => obtain ⟨t, rfl⟩ := r2; exact ⟨EqAt.none_str z t, RcAt.none_str z t, RcNeAt.none_str z t⟩
    | lst a b => cases r2; obtain ⟨_, _, hl⟩ := isL I hk le a; exact ⟨EqAt.none_list hl hu, RcAt.none_list hl hu, RcNeAt.none_list hl hu⟩
    | tup a t b => cases r2; obtain ⟨_, _, hl⟩ := isT I hk le a; exact ⟨EqAt.none_tuple hl hu, RcAt.none_tuple hl hu, RcNeAt.none_tuple hl hu⟩
    | ins => cases n <;> cases he
    | emp => cases n <;> cases he
  | bl p =>
    cases r1
    cases h2 with
    | non => cases r2; exact ⟨EqAt.bool_none p, RcAt.bool_none p, RcNeAt.bool_none p⟩
    | bl b => cases r2; exact ⟨EqAt.bool_bool p b, RcAt.bool_bool p b, RcNeAt.bool_bool p b⟩
    | int i => obtain ⟨t, rfl⟩ := r2; exact ⟨EqAt.bool_int p i t, RcAt.bool_int p i t, RcNeAt.bool_int p i t⟩
    | str z => obtain ⟨t, rfl⟩ := r2; exact ⟨EqAt.bool_str p z t, RcAt.bool_str p z t, RcNeAt.bool_str p z t⟩
    | lst a b => cases r2; obtain ⟨_, _, hl⟩ := isL I hk le a; exact ⟨EqAt.bool_list p hl hu, RcAt.bool_list p hl hu, RcNeAt.bool_list p hl hu⟩
    | tup a t b => cases r2; obtain ⟨_, _, hl⟩ := isT I hk le a; exact ⟨EqAt.bool_tuple p hl hu, RcAt.bool_tuple p hl hu, RcNeAt.bool_tuple p hl hu⟩
    | ins => cases n <;> cases he
    | emp => cases n <;> cases he
  | int p =>
    obtain ⟨q, rfl⟩ := r1
    cases h2 with
    | non => cases r2; exact ⟨EqAt.int_none p q, RcAt.int_none p q, RcNeAt.int_none p q⟩
    | bl b => cases r2; exact ⟨EqAt.int_bool p q b, RcAt.int_bool p q b, RcNeAt.int_bool p q b⟩
    | int i => obtain ⟨t, rfl⟩ := r2; exact ⟨EqAt.int_int p q i t, RcAt.int_int p q i t, RcNeAt.int_int p q i t⟩
    | str z => obtain ⟨t, rfl⟩ := r2; exact ⟨EqAt.int_str p q z t, RcAt.int_str p q z t, RcNeAt.int_str p q z t⟩
    | lst a b => cases r2; obtain ⟨_, _, hl⟩ := isL I hk le a; exact ⟨EqAt.int_list p q hl hu, RcAt.int_list p q hl hu, RcNeAt.int_list p q hl hu⟩
    | tup a t b => cases r2; obtain ⟨_, _, hl⟩ := isT I hk le a; exact ⟨EqAt.int_tuple p q hl hu, RcAt.int_tuple p q hl hu, RcNeAt.int_tuple p q hl hu⟩
    | ins => cases n <;> cases he
    | emp => cases n <;> cases he
  | str p =>
    obtain ⟨q, rfl⟩ := r1
    cases h2 with
    | non => cases r2; exact ⟨EqAt.str_none p q, RcAt.str_none p q, RcNeAt.str_none p q⟩
    | bl b => cases r2; exact ⟨EqAt.str_bool p q b, RcAt.str_bool p q b, RcNeAt.str_bool p q b⟩
    | int i => obtain ⟨t, rfl⟩ := r2; exact ⟨EqAt.str_int p q i t, RcAt.str_int p q i t, RcNeAt.str_int p q i t⟩
    | str z => obtain ⟨t, rfl⟩ := r2; exact ⟨EqAt.str_str p q z t, RcAt.str_str p q z t, RcNeAt.str_str p q z t⟩
    | lst a b => cases r2; obtain ⟨_, _, hl⟩ := isL I hk le a; exact ⟨EqAt.str_list p q hl hu, RcAt.str_list p q hl hu, RcNeAt.str_list p q hl hu⟩
    | tup a t b => cases r2; obtain ⟨_, _, hl⟩ := isT I hk le a; exact ⟨EqAt.str_tuple p q hl hu, RcAt.str_tuple p q hl hu, RcNeAt.str_tuple p q hl hu⟩
    | ins => cases n <;> cases he
    | emp => cases n <;> cases he
  | @lst xs a1 vs s1 k1 =>
    cases r1
    obtain ⟨its, rv, hl⟩ := isL I hk le s1
    cases h2 with
    | non => cases r2; exact ⟨EqAt.list_none hl hu, RcAt.list_none hl hu, RcNeAt.list_none hl hu⟩
    | bl b => cases r2; exact ⟨EqAt.list_bool b hl hu, RcAt.list_bool b hl hu, RcNeAt.list_bool b hl hu⟩
    | int i => obtain ⟨t, rfl⟩ := r2; exact ⟨EqAt.list_int i t hl hu, RcAt.list_int i t hl hu, RcNeAt.list_int i t hl hu⟩
    | str z => obtain ⟨t, rfl⟩ := r2; exact ⟨EqAt.list_str z t hl hu, RcAt.list_str z t hl hu, RcNeAt.list_str z t hl hu⟩
    | tup a t b => cases r2; obtain ⟨_, _, hl2⟩ := isT I hk le a; exact ⟨EqAt.list_tuple hl hl2 hu, RcAt.list_tuple hl hl2 hu, RcNeAt.list_tuple hl hl2 hu⟩
    | ins => cases n <;> cases he
    | emp => cases n <;> cases he
    | @lst ys a2 ws s2 k2 =>
      cases r2
      obtain ⟨its', rv', hl'⟩ := isL I hk le s2
      rw [shp_lst] at hd he
      have n1 := lens k1 rv
      have n2 := lens k2 rv'
      have kids : ∀ (j : Nat) (h1 : j < its.toArray.size) (h2 : j < its'.toArray.size), EqAt A.in1 s its.toArray[j] its'.toArray[j] (pairD xs ys j) := fun j h1 h2 => by
        have := K xs ys vs ws its its' k1 k2 hd he rv rv' j (by simpa using h1) (by simpa using h2)
        simpa using this
      show EqAt A s (.ref a1) (.ref a2) (eqDs xs ys) ∧ RcAt A s (.ref a1) (.ref a2) (eqDs xs ys) ∧ RcNeAt A s (.ref a1) (.ref a2) (!eqDs xs ys)
      have rc : RcAt A s (.ref a1) (.ref a2) (eqDs xs ys) ∧ RcNeAt A s (.ref a1) (.ref a2) (!eqDs xs ys) := by
        by_cases hsz : its.toArray.size = its'.toArray.size
        · rw [← eqDs_same (by omega : xs.length = ys.length), ← n1]
          exact ⟨RcAt.lists hl hl' hsz hu kids, RcNeAt.lists hl hl' hsz hu kids⟩
        · rw [eqDs_other (by omega : xs.length ≠ ys.length)]
          have ne : (its.toArray.size != its'.toArray.size) = true := bne_iff_ne.mpr hsz
          exact ⟨RcAt.lists_lengths hl hl' ne hu, RcNeAt.lists_lengths hl hl' ne hu⟩
      refine ⟨?_, rc⟩
      by_cases hll : a1 = a2
      · subst hll
        have ev := I.list_inj (le.sl (by rw [hk]; exact s1)) (le.sl (by rw [hk]; exact s2))
        subst ev
        have e2 := okL_inj I hk le k1 k2 hd he
        subst e2
        rw [okL_refl hd]
        exact EqAt.same _
      · exact EqAt.of_refs hll rc.1
  | @tup xs a1 vs o1 s1 t1 k1 =>
    cases r1
    obtain ⟨its, rv, hl⟩ := isT I hk le s1
    cases h2 with
    | non => cases r2; exact ⟨EqAt.tuple_none hl hu, RcAt.tuple_none hl hu, RcNeAt.tuple_none hl hu⟩
    | bl b => cases r2; exact ⟨EqAt.tuple_bool b hl hu, RcAt.tuple_bool b hl hu, RcNeAt.tuple_bool b hl hu⟩
    | int i => obtain ⟨t, rfl⟩ := r2; exact ⟨EqAt.tuple_int i t hl hu, RcAt.tuple_int i t hl hu, RcNeAt.tuple_int i t hl hu⟩
    | str z => obtain ⟨t, rfl⟩ := r2; exact ⟨EqAt.tuple_str z t hl hu, RcAt.tuple_str z t hl hu, RcNeAt.tuple_str z t hl hu⟩
    | lst a b => cases r2; obtain ⟨_, _, hl2⟩ := isL I hk le a; exact ⟨EqAt.tuple_list hl hl2 hu, RcAt.tuple_list hl hl2 hu, RcNeAt.tuple_list hl hl2 hu⟩
    | ins => cases n <;> cases he
    | emp => cases n <;> cases he
    | @tup ys a2 ws o2 s2 t2 k2 =>
      cases r2
      obtain ⟨its', rv', hl'⟩ := isT I hk le s2
      rw [shp_tup] at hd he
      have n1 := lens k1 rv
      have n2 := lens k2 rv'
      have kids : ∀ (j : Nat) (h1 : j < its.toArray.size) (h2 : j < its'.toArray.size), EqAt A.in1 s its.toArray[j] its'.toArray[j] (pairD xs ys j) := fun j h1 h2 => by
        have := K xs ys vs ws its its' k1 k2 hd he rv rv' j (by simpa using h1) (by simpa using h2)
        simpa using this
      show EqAt A s (.ref a1) (.ref a2) (eqDs xs ys) ∧ RcAt A s (.ref a1) (.ref a2) (eqDs xs ys) ∧ RcNeAt A s (.ref a1) (.ref a2) (!eqDs xs ys)
      have rc : RcAt A s (.ref a1) (.ref a2) (eqDs xs ys) ∧ RcNeAt A s (.ref a1) (.ref a2) (!eqDs xs ys) := by
        rw [← eqDs_eq xs ys, ← n1, ← n2]
        exact ⟨RcAt.tuples hl hl' hu kids, RcNeAt.tuples hl hl' hu kids⟩
      refine ⟨?_, rc⟩
      by_cases hll : a1 = a2
      · subst hll
        have ev := I.tuple_inj (le.st (frzT s1)) (le.st (frzT s2))
        subst ev
        have e2 := okL_inj I hk le k1 k2 hd he
        subst e2
        rw [okL_refl hd]
        exact EqAt.same _
      · exact EqAt.of_refs hll rc.1
  | ins => cases n <;> cases hd
  | emp => cases n <;> cases hd
theorem vals_ix {vs : List V} {its : List Value} (r : Vals vs its) {j : Nat} (h : j < its.length) : ∃ v, vs[j]? = some v ∧ RelV v its[j] := by
  have hl := r.length
  obtain ⟨u, h1, h2⟩ := Vals.get (i := j) (x := vs[j]'(by omega)) r (by simp)
  refine ⟨_, List.getElem?_eq_getElem (by omega), ?_⟩
  rw [List.getElem?_eq_getElem h] at h1
  rw [Option.some.inj h1]
  exact h2
theorem shps_get {n : Nat} : ∀ {xs : List D} {j : Nat} {d : D}, shps n xs = true → xs[j]? = some d → shp n d = true
  | [], _, _, _, e => by simp at e
  | x :: xs, 0, d, h, e => by
    have h2 : (shp n x && shps n xs) = true := h
    rw [Bool.and_eq_true] at h2
    have e2 : x = d := by simpa using e
    rw [← e2]; exact h2.1
  | x :: xs, j + 1, d, h, e => by
    have h2 : (shp n x && shps n xs) = true := h
    rw [Bool.and_eq_true] at h2
    exact shps_get h2.2 (by simpa using e)
theorem kids_den (I : Inv X pins sg H s) (hk : X.K = w.K) (le : Le G H) : ∀ (n : Nat) (A : Around), A.units + n + 1 < cLine → Kids w G s A n := by
  intro n
  induction n with
  | zero =>
    intro A hu xs ys vs ws its its' k1 k2 h1 h2 r1 r2 j j1 j2
    have e : xs = [] := by simpa [okL] using h1
    subst e
    cases k1
    cases r1
    exact absurd j1 (Nat.not_lt_zero _)
  | succ n ih =>
    intro A hu xs ys vs ws its its' k1 k2 h1 h2 r1 r2 j j1 j2
    obtain ⟨v1, e1, q1⟩ := vals_ix r1 j1
    obtain ⟨v2, e2, q2⟩ := vals_ix r2 j2
    obtain ⟨d1, f1, g1⟩ := k1.getV e1
    obtain ⟨d2, f2, g2⟩ := k2.getV e2
    have z : pairD xs ys j = eqD d1 d2 := by unfold pairD; rw [f1, f2]
    rw [z]
    have hi : A.in1.units + n + 1 < cLine := by show A.units + 1 + n + 1 < cLine; omega
    exact (eqAt_step I hk le (ih A.in1 hi) (by show A.units + 1 < cLine; omega) d1 d2 v1 v2 _ _ g1 g2 (shps_get h1 f1) (shps_get h2 f2) q1 q2).1
theorem eq_den (I : Inv X pins sg H s) (hk : X.K = w.K) (le : Le G H) {n : Nat} {d e : D} {A : Around} {x y : V} {u v : Value} (h1 : Den w G d x) (h2 : Den w G e y) (hd : shp n d = true) (he : shp n e = true) (r1 : RelV x u) (r2 : RelV y v) (hu : A.units + n + 1 < cLine) :
    SeqAt.EqAt A s u v (eqD d e) ∧ SeqAt.RcAt A s u v (eqD d e) ∧ SeqAt.RcNeAt A s u v (!eqD d e) :=
  eqAt_step I hk le (kids_den I hk le n A hu) (by omega) d e x y u v h1 h2 hd he r1 r2
end
end DL

set_option Elab.async false
set_option linter.all false
set_option autoImplicit false
set_option maxRecDepth 100000
set_option maxHeartbeats 400000
namespace DL
open PySem L2 PySem.Spec PyProof.Rows

variable {w : Wd}
section
variable {X : Cx} {pins : List (Addr × Obj)} {sg : L2.St} {H G : Hp} {s : Shared} {kap : List Addr} {st : S} {Q : VK}
theorem lim_size {n : Nat} (h : n ≤ lim) : n ≤ sizeLine := Nat.le_trans h (by decide)
theorem lim_lt {n : Nat} (h : n < lim) : n < sizeLine := Nat.lt_of_lt_of_le h (by decide)
/-- a new tuple: its object is known -/
theorem laidT {xs : List V} {its : List Value} {t : Nat} (I : Inv X pins sg H s) (r : Vals xs its) (z : xs.length ≤ sizeLine) :
    Inv X pins sg (upd H s.heap.objs.size (.frz { cls := .type "tuple", data := .seq its.toArray } (.tup xs))) { s with heap := s.heap.push { cls := .type "tuple", data := .seq its.toArray }, toks := t } :=
  I.laid (fun b u q => Heap.get?_push_of_some _ q) (Nat.le_refl _) ⟨Heap.get?_push_size _ rfl, z, its, r, IsTup.new _ _⟩
theorem endT {xs : List D} {vs : List V} {its : List Value} {t : Nat} (I : Inv X pins sg H s) (k : Ok w kap G st H) (p : Post w kap G H st (.tup xs) Q) (d : Dens w G xs vs) (r : Vals vs its) (z : vs.length ≤ sizeLine) :
    EP X pins sg Q (.ref s.heap.objs.size) { s with heap := s.heap.push { cls := .type "tuple", data := .seq its.toArray }, toks := t } :=
  ⟨.ref s.heap.objs.size, _, laidT I r z, rfl, p.tup k d _ I.fresh _ ⟨rfl, rfl⟩⟩
theorem endL {xs : List D} {vs : List V} {its : List Value} {t : Nat} (I : Inv X pins sg H s) (k : Ok w kap G st H) (p : Post w kap G H st (.lst xs) Q) (d : Dens w G xs vs) (r : Vals vs its) (z : vs.length ≤ sizeLine) :
    EP X pins sg Q (.ref s.heap.objs.size) { s with heap := s.heap.push { cls := .type "list", data := .seq its.toArray }, toks := t } :=
  ⟨.ref s.heap.objs.size, _, I.lnew r z, rfl, p.lst k d _ I.fresh⟩
end

theorem add_listP {prog : Program} {wd : World} {A : Around} {E : Value → Shared → Prop} {s : Shared} {l b : Addr} {vs ws : List Value} {Q : Value → Shared → Prop} (hl : s.heap.IsList l vs.toArray) (hb : s.heap.IsList b ws.toArray)
    (h : Q (.ref s.heap.objs.size) { s with heap := s.heap.push { cls := .type "list", data := .seq (vs ++ ws).toArray } }) (hsz : vs.length + ws.length ≤ sizeLine) : wpAny (model prog wd) A (binaryOp .Add (.ref l) (.ref b)) Q E s := by
  obtain ⟨⟨c1, d1, x1, t1⟩, o1, q1, n1, z1⟩ := id hl
  obtain ⟨⟨c2, d2, x2, t2⟩, o2, q2, n2, z2⟩ := id hb
  simp only at q1 z1 q2 z2
  subst q1 z1 q2 z2
  refine concat_meets ⟨_, o1, rfl⟩ ⟨_, o2, rfl⟩ noFill_list_add seq_list_add PySem.F.slot_list_add PySem.F.entry_list_add (PySem.F.args_list_add_2 _ _) (list_addW l b vs.toArray ws.toArray n1 n2 d1 d2 t1 t2 (by simpa using hsz)) ⟨o1, o2, ?_⟩
  have e : vs.toArray ++ ws.toArray = (vs ++ ws).toArray := by simp
  rw [e]
  exact h

/-- an operation on two values keeps to one on data -/
def OpD (w : Wd) (X : Cx) (f : Value → Value → Sem Value) (phi : D → D → Option D) : Prop :=
  ∀ (pins : List (Addr × Obj)) (s : Shared) (sg : L2.St) (H : Hp) (x y : V) (u v : Value) (Q : VK) (kap : List Addr) (G : Hp) (st : S) (d e z : D), Inv X pins sg H s → RelV x u → RelV y v →
    Ok w kap G st H → Den w G d x → Den w G e y → phi d e = some z → Post w kap G H st z Q → wpAny (model X.prog X.w) X.A (f u v) (EP X pins sg Q) X.xe s
/-- its reading -/
def rOp (w : Wd) (phi : D → D → Option D) : R2 := fun x y H Q => ∃ kap G st d e z, Ok w kap G st H ∧ Den w G d x ∧ Den w G e y ∧ phi d e = some z ∧ Post w kap G H st z Q
theorem OpD.r {X : Cx} {f : Value → Value → Sem Value} {phi : D → D → Option D} (h : OpD w X f phi) : OpR X f (rOp w phi) := fun pins s sg H x y u v Q I rx ry ⟨kap, G, st, d, e, z, k, hd, he, hz, p⟩ =>
  h pins s sg H x y u v Q kap G st d e z I rx ry k hd he hz p

theorem mulOk_ok {i j : Int} (h : mulOk i j = true) : IntMulOk i j := by
  unfold mulOk at h
  rw [Bool.or_eq_true, Bool.or_eq_true] at h
  rcases h with (h | h) | h
  · exact CMul.ok (.inl (of_decide_eq_true h))
  · exact CMul.ok (.inr (of_decide_eq_true h))
  · exact CMulW.ok (show i.natAbs.log2 + j.natAbs.log2 < 1000000 from of_decide_eq_true h)

theorem if_some {α : Type} {c : Prop} [Decidable c] {a z : α} (h : (if c then some a else none) = some z) : c ∧ a = z := by
  by_cases q : c
  · rw [if_pos q] at h; exact ⟨q, Option.some.inj h⟩
  · rw [if_neg q] at h; cases h
theorem Dens.rep {G : Hp} {ds : List D} {vs : List V} (h : Dens w G ds vs) : ∀ n : Nat, Dens w G (List.replicate n ds).flatten (List.replicate n vs).flatten
  | 0 => .nil
  | n + 1 => by
    rw [List.replicate_succ, List.replicate_succ, List.flatten_cons, List.flatten_cons]
    exact Dens.append h (Dens.rep h n)
open AutoSeq1 (wpAny_loadPart') in
theorem tuple_mul_same (l : Addr) (items : Array Value) (n : Nat) (dd : Option Addr) (sl : Array (Option Value)) (x : Int) (u : Tok) (c0 : (decide (x < -(2 ^ 63)) || decide (x ≥ 2 ^ 63)) = false) (c1 : (items.isEmpty || x == 1) = true) :
    Meets (Builtin.«tuple.__mul__» ⟨[.ref l, .int x u], []⟩) (fun _ R s => s.heap.get? l = some { cls := .type "tuple", dict := dd, data := .seq items n, slots := sl } ∧ R (.ok (.ret (Value.ref l))) s) :=
  .of_wp fun prog w A R s h => by
    obtain ⟨hp, g, d, tk, os⟩ := s
    obtain ⟨hl, h⟩ := h
    have f1 := AutoSeq1.idx_int
    wp_walk using wpAny_loadPart' hl
    refine wpAny_ite_false (decide_eq_false (by rw [c0]; exact Bool.false_ne_true)) ?_
    wp_walk using wpAny_loadPart' hl
    exact ⟨_, rfl, h⟩
open AutoSeq1 (wpAny_loadPart') in
theorem tuple_mul_none (l : Addr) (items : Array Value) (n : Nat) (dd : Option Addr) (sl : Array (Option Value)) (x : Int) (u : Tok) (c0 : (decide (x < -(2 ^ 63)) || decide (x ≥ 2 ^ 63)) = false) (c1 : (items.isEmpty || x == 1) = false) (c2 : (decide (x ≤ 0) || items.isEmpty) = true) :
    Meets (Builtin.«tuple.__mul__» ⟨[.ref l, .int x u], []⟩) (fun _ R s => s.heap.get? l = some { cls := .type "tuple", dict := dd, data := .seq items n, slots := sl } ∧
      R (.ok (.ret (Value.ref s.heap.objs.size))) { s with heap := s.heap.push { cls := Value.type "tuple", data := Data.seq #[] }, toks := s.toks }) :=
  .of_wp fun prog w A R s h => by
    obtain ⟨hp, g, d, tk, os⟩ := s
    obtain ⟨hl, h⟩ := h
    have f1 := AutoSeq1.idx_int
    wp_walk using wpAny_loadPart' hl
    repeat (first
      | (refine wpAny_ite_false (decide_eq_false (by rw [c0]; exact Bool.false_ne_true)) ?_; wp_walk using wpAny_loadPart' hl)
      | (refine wpAny_ite_false (decide_eq_false (by rw [c1]; exact Bool.false_ne_true)) ?_; wp_walk using wpAny_loadPart' hl)
      | exact ⟨_, rfl, h⟩)

theorem rep_len {α : Type} (xs : List α) (n : Nat) : (List.replicate n xs).flatten.length = n * xs.length := by
  induction n with
  | zero => simp
  | succ n ih => rw [List.replicate_succ, List.flatten_cons, List.length_append, ih, Nat.succ_mul, Nat.add_comm]
section
variable {prog : Program} {wd : World} {A : Around} {E : Value → Shared → Prop} {s : Shared}
theorem mul_tupP {l : Addr} {its : List Value} {j : Int} {t : Tok} {Q : Value → Shared → Prop} (hl : s.heap.IsTuple l its.toArray) (h1 : its.length ≤ 1000) (h2 : -1000 ≤ j) (h3 : j ≤ 1000)
    (q1 : (List.replicate j.toNat its).flatten = its → Q (.ref l) s) (q2 : Q (.ref s.heap.objs.size) { s with heap := s.heap.push { cls := .type "tuple", data := .seq (List.replicate j.toNat its).flatten.toArray } }) :
    wpAny (model prog wd) A (binaryOp .Mult (.ref l) (.int j t)) Q E s := by
  obtain ⟨⟨c1, d1, x1, t1⟩, o1, e1, n1, z1⟩ := id hl
  simp only at e1 z1
  subst e1 z1
  have c0 : (decide (j < -(2 ^ 63)) || decide (j ≥ 2 ^ 63)) = false := by
    rw [decide_eq_false (by omega), decide_eq_false (by omega)]
    rfl
  refine wpAny_binaryOp_repeat_ref (T := "tuple") (U := "int") (by decide) ⟨_, o1, rfl⟩ (fun s' => typeIs_int s' j t) noFill_tuple_mul F.fills_int_mul F.slot_int_rmul repeat_tuple F.slot_int_index.lookup
    (call_meets F.slot_int_rmul (typeIs_int s j t) F.entry_int_rmul (F.args_int_rmul_2 _ _) (int_rmul_tuple j t l its.toArray n1 d1 t1)
      ⟨o1, rfl, ⟨_, o1, rfl⟩, ?_⟩)
  by_cases k1 : (its.toArray.isEmpty || j == 1) = true
  · refine call_meets F.slot_tuple_mul ⟨_, o1, rfl⟩ F.entry_tuple_mul (F.args_tuple_mul_2 _ _) (tuple_mul_same l its.toArray n1 d1 t1 j t c0 k1) ⟨o1, q1 ?_⟩
    rw [Bool.or_eq_true] at k1
    rcases k1 with k1 | k1
    · have e : its = [] := by simpa using k1
      subst e
      simp
    · have e : j = 1 := by simpa using k1
      subst e
      simp
  · have k1' : (its.toArray.isEmpty || j == 1) = false := by simpa using k1
    by_cases k2 : (decide (j ≤ 0) || its.toArray.isEmpty) = true
    · refine call_meets F.slot_tuple_mul ⟨_, o1, rfl⟩ F.entry_tuple_mul (F.args_tuple_mul_2 _ _) (tuple_mul_none l its.toArray n1 d1 t1 j t c0 k1' k2) ⟨o1, ?_⟩
      have e : (List.replicate j.toNat its).flatten.toArray = (#[] : Array Value) := by
        rw [Bool.or_eq_true] at k2
        rcases k2 with k2 | k2
        · have e : j.toNat = 0 := by have := of_decide_eq_true k2; omega
          rw [e]
          simp
        · have e : its = [] := by simpa using k2
          subst e
          simp
      rw [e] at q2
      exact q2
    · have k2' : (decide (j ≤ 0) || its.toArray.isEmpty) = false := by simpa using k2
      have hb : ((its.toArray.size : Nat) : Int) * j ≤ 1000000 := by
        rw [List.size_toArray]
        have a1 : ((its.length : Nat) : Int) * j ≤ 1000 * 1000 := Int.mul_le_mul (by omega) h3 (by have := (Bool.or_eq_false_iff.mp k2').1; have := of_decide_eq_false this; omega) (by omega)
        omega
      have fl : (List.replicate j.toNat its).flatten.length ≤ sizeLine := by
        rw [rep_len, sizeLine_eq]
        have a1 : j.toNat * its.length ≤ 1000 * 1000 := Nat.mul_le_mul (by omega) h1
        omega
      have k4 : Builtin.Tuple.tupleTooMany (((its.toArray.size : Nat) : Int) * j) = false := by
        unfold Builtin.Tuple.tupleTooMany
        rw [sizeLine_eq]
        exact decide_eq_false (by omega)
      refine call_meets F.slot_tuple_mul ⟨_, o1, rfl⟩ F.entry_tuple_mul (F.args_tuple_mul_2 _ _) (tuple_mulW l its.toArray n1 d1 t1 j t c0 k1' k2' (by omega) k4 (by rw [size_rep, List.size_toArray]; exact fl)) ⟨o1, ?_⟩
      rw [size_rep]
      exact q2
theorem mul_listP {l : Addr} {its : List Value} {j : Int} {t : Tok} {Q : Value → Shared → Prop} (hl : PlainL s.heap l its.toArray) (h1 : its.length ≤ 1000) (h2 : -1000 ≤ j) (h3 : j ≤ 1000)
    (q2 : Q (.ref s.heap.objs.size) { s with heap := s.heap.push { cls := .type "list", data := .seq (List.replicate j.toNat its).flatten.toArray } }) :
    wpAny (model prog wd) A (binaryOp .Mult (.ref l) (.int j t)) Q E s := by
  obtain ⟨⟨c1, d1, x1, t1⟩, n1, o1, e1, z0, z1⟩ := id hl
  simp only at e1 z0 z1
  subst e1 z1 z0
  have hlen : its.toArray.size * j.toNat ≤ sizeLine := by
    rw [List.size_toArray, sizeLine_eq]
    have a1 : its.length * j.toNat ≤ 1000 * 1000 := Nat.mul_le_mul h1 (by omega)
    omega
  have hcap : ¬ its.toArray.size * j.toNat > (2 ^ 63 - 1) / 8 := by
    have : (sizeLine : Nat) ≤ (2 ^ 63 - 1) / 8 := by decide
    omega
  have hfit : ¬ (!Builtin.List.listFitsIndex j) = true := by
    rw [fitsIndex_both (by omega) (by omega)]
    exact Bool.false_ne_true
  have hlong : ¬ Builtin.List.listTooLong (its.toArray.size * j.toNat) = true := by
    rw [notLongL hlen]
    exact Bool.false_ne_true
  have hnew : List.foldl (fun x1 x2 => x1 ++ x2) #[] (List.replicate (if its.toArray.isEmpty = true then 0 else j.toNat) its.toArray) = (List.replicate j.toNat its).flatten.toArray := by
    have f0 : ∀ m : Nat, List.foldl (fun x1 x2 => x1 ++ x2) #[] (List.replicate m its.toArray) = (List.replicate m its).flatten.toArray := fun m => by
      have := foldl_rep its m []
      rw [List.nil_append] at this
      exact this
    rw [f0]
    cases its with
    | nil => simp
    | cons a r' => rw [if_neg (by simp)]
  refine wpAny_binaryOp_repeat_ref (T := "list") (U := "int") (by decide) ⟨_, o1, rfl⟩ (fun s' => typeIs_int s' j t) noFill_list_mul F.fills_int_mul F.slot_int_rmul repeat_list F.slot_int_index.lookup
    (call_meets F.slot_int_rmul (typeIs_int s j t) F.entry_int_rmul (F.args_int_rmul_2 _ _) (lm_int_rmul_list_any j t l its.toArray n1 none t1)
      ⟨o1, rfl, ⟨_, o1, rfl⟩, call_meets F.slot_list_mul ⟨_, o1, rfl⟩ F.entry_list_mul (F.args_list_mul_2 _ _) (lm_list_mul_any l its.toArray n1 none t1 j t hfit hcap hlong) ⟨o1, ?_⟩⟩)
  rw [hnew]
  exact q2
end
section
variable {X : Cx} (hk : X.K = w.K)
include hk
theorem op_mulM : OpR X (binaryOp .Mult) (rI (fun i j => mulOk i j = true) fun i j => .int (i * j)) := opI fun _ _ _ _ _ _ _ hc q => mul_int q (mulOk_ok hc)
theorem add_ok : OpD w X (binaryOp .Add) (binD .Add) := by
  intro pins s sg H x y u v Q kap G st d e z I rx ry k hd he hz p
  cases d with
  | int i =>
    cases e with
    | int j =>
      cases hd; cases he
      have ez : D.int (i + j) = z := Option.some.inj hz
      subst ez
      exact op_add pins s sg H _ _ u v Q I rx ry ⟨i, j, rfl, rfl, p.here k (.int _)⟩
    | _ => cases hz
  | str i =>
    cases e with
    | str j =>
      cases hd; cases he
      have hz2 : (if i.length + j.length ≤ lim then some (D.str (i ++ j)) else none) = some z := hz
      split at hz2
      · rename_i hl
        have ez : D.str (i ++ j) = z := Option.some.inj hz2
        subst ez
        exact op_add_str pins s sg H _ _ u v Q I rx ry ⟨i, j, rfl, rfl, lim_size hl, p.here k (.str _)⟩
      · cases hz2
    | _ => cases hz
  | lst xs =>
    cases e with
    | lst ys =>
      obtain ⟨a, vs, rfl, ha, da⟩ := den_lst hd
      obtain ⟨b, ws, rfl, hb, db⟩ := den_lst he
      have hz2 : (if xs.length + ys.length ≤ lim then some (D.lst (xs ++ ys)) else none) = some z := hz
      split at hz2
      · rename_i hl
        have ez : D.lst (xs ++ ys) = z := Option.some.inj hz2
        subst ez
        cases rx; cases ry
        rw [← hk] at ha hb
        obtain ⟨its, r1, p1, _⟩ := I.list (k.le.sl ha)
        obtain ⟨its2, r2, p2, _⟩ := I.list (k.le.sl hb)
        have l1 := r1.length
        have l2 := r2.length
        have e1 := da.length
        have e2 := db.length
        have hsz : vs.length + ws.length ≤ sizeLine := by rw [← e1, ← e2]; exact lim_size hl
        exact add_listP p1.isList p2.isList (endL (t := s.toks) I k p (da.append db) (r1.append r2) (by rw [List.length_append]; exact hsz)) (by omega)
      · cases hz2
    | _ => cases hz
  | tup xs =>
    cases e with
    | tup ys =>
      obtain ⟨a, vs, o1, rfl, ha, t1, da⟩ := den_tup hd
      obtain ⟨b, ws, o2, rfl, hb, t2, db⟩ := den_tup he
      have hz2 : (if xs.length + ys.length ≤ lim then some (D.tup (xs ++ ys)) else none) = some z := hz
      split at hz2
      · rename_i hl
        have ez : D.tup (xs ++ ys) = z := Option.some.inj hz2
        subst ez
        cases rx; cases ry
        have e1 := da.length
        have e2 := db.length
        by_cases hx : xs = []
        · subst hx
          obtain ⟨its, r1, p1, _⟩ := I.tuple (k.le.st (frzT ha))
          obtain ⟨its2, r2, p2, _⟩ := I.tuple (k.le.st (frzT hb))
          cases da
          cases r1
          exact cat_tup0 p1 p2 ⟨.ref b, H, I, rfl, p.here k (.tup hb t2 db)⟩
        · obtain ⟨its, r1, p1, _⟩ := I.tuple (k.le.st (frzT ha))
          obtain ⟨its2, r2, p2, _⟩ := I.tuple (k.le.st (frzT hb))
          have hsz : vs.length + ws.length ≤ sizeLine := by rw [← e1, ← e2]; exact lim_size hl
          refine HT.cat_tup p1 p2 (fun q => hx (da.nil_iff.mpr (r1.nil_iff.mp q))) (fun q => ?_) (fun q => ?_) (by rw [← r1.length, ← r2.length]; exact hsz)
          · have e3 : ys = [] := db.nil_iff.mpr (r2.nil_iff.mp q)
            subst e3
            rw [List.append_nil] at p
            exact ⟨.ref a, H, I, rfl, p.here k (.tup ha t1 da)⟩
          · exact endT (t := s.toks) I k p (da.append db) (r1.append r2) (by rw [List.length_append]; exact hsz)
      · cases hz2
    | _ => cases hz
  | _ => cases e <;> cases hz
theorem int_ok {op : Operator} {C : Int → Int → Prop} {g : Int → Int → Int} {phi : D → D → Option D} (o : OpR X (binaryOp op) (rI C fun i j => .int (g i j)))
    (hp : ∀ d e z, phi d e = some z → ∃ i j, d = .int i ∧ e = .int j ∧ C i j ∧ z = .int (g i j)) : OpD w X (binaryOp op) phi := by
  intro pins s sg H x y u v Q kap G st d e z I rx ry k hd he hz p
  obtain ⟨i, j, rfl, rfl, hc, rfl⟩ := hp d e z hz
  cases hd; cases he
  exact o pins s sg H _ _ u v Q I rx ry ⟨i, j, rfl, rfl, hc, p.here k (.int _)⟩
theorem sub_ok : OpD w X (binaryOp .Sub) (binD .Sub) := by
  intro pins s sg H x y u v Q kap G st d e z I rx ry k hd he hz p
  cases d with
  | int i =>
    cases e with
    | int j =>
      cases hd; cases he
      have ez : D.int (i - j) = z := Option.some.inj hz
      subst ez
      exact op_sub pins s sg H _ _ u v Q I rx ry ⟨i, j, rfl, rfl, p.here k (.int _)⟩
    | _ => cases hz
  | _ => cases e <;> cases hz
theorem and_ok : OpD w X (binaryOp .BitAnd) (binD .BitAnd) := by
  intro pins s sg H x y u v Q kap G st d e z I rx ry k hd he hz p
  cases d with
  | int i =>
    cases e with
    | int j =>
      cases hd; cases he
      have ez : D.int (Builtin.bitAnd i j) = z := Option.some.inj hz
      subst ez
      exact op_and pins s sg H _ _ u v Q I rx ry ⟨i, j, rfl, rfl, p.here k (.int _)⟩
    | _ => cases hz
  | _ => cases e <;> cases hz
theorem fdiv_ok : OpD w X (binaryOp .FloorDiv) (binD .FloorDiv) := int_ok hk op_fdivW fun d e z h => by
  cases d with
  | int i =>
    cases e with
    | int j =>
      obtain ⟨c, rfl⟩ := if_some (show (if 0 < j ∧ j.natAbs.log2 < 9000 then some (D.int (i / j)) else none) = some z from h)
      exact ⟨i, j, rfl, rfl, c, rfl⟩
    | _ => cases h
  | _ => cases e <;> cases h
theorem mod_ok : OpD w X (binaryOp .Mod) (binD .Mod) := int_ok hk op_mod fun d e z h => by
  cases d with
  | int i =>
    cases e with
    | int j =>
      obtain ⟨c, rfl⟩ := if_some (show (if 0 < j then some (D.int (i % j)) else none) = some z from h)
      exact ⟨i, j, rfl, rfl, c, rfl⟩
    | _ => cases h
  | _ => cases e <;> cases h
theorem pow_ok : OpD w X (binaryOp .Pow) (binD .Pow) := int_ok hk op_pow fun d e z h => by
  cases d with
  | int i =>
    cases e with
    | int j =>
      obtain ⟨c, rfl⟩ := if_some (show (if 0 ≤ j ∧ j ≤ 1000000 ∧ i.natAbs < 2 ^ 64 then some (D.int (i ^ j.toNat)) else none) = some z from h)
      exact ⟨i, j, rfl, rfl, c, rfl⟩
    | _ => cases h
  | _ => cases e <;> cases h
theorem shl_ok : OpD w X (binaryOp .LShift) (binD .LShift) := int_ok hk op_shl fun d e z h => by
  cases d with
  | int i =>
    cases e with
    | int j =>
      obtain ⟨c, rfl⟩ := if_some (show (if 0 ≤ j ∧ j ≤ 1000000 ∧ i.natAbs < 2 ^ 64 then some (D.int (i * 2 ^ j.toNat)) else none) = some z from h)
      exact ⟨i, j, rfl, rfl, c, rfl⟩
    | _ => cases h
  | _ => cases e <;> cases h
theorem shr_ok : OpD w X (binaryOp .RShift) (binD .RShift) := int_ok hk op_shr fun d e z h => by
  cases d with
  | int i =>
    cases e with
    | int j =>
      obtain ⟨c, rfl⟩ := if_some (show (if 0 ≤ j then some (D.int (i / 2 ^ j.toNat)) else none) = some z from h)
      exact ⟨i, j, rfl, rfl, c, rfl⟩
    | _ => cases h
  | _ => cases e <;> cases h
theorem mul_ok : OpD w X (binaryOp .Mult) (binD .Mult) := by
  intro pins s sg H x y u v Q kap G st d e z I rx ry k hd he hz p
  cases d with
  | int i =>
    cases e with
    | int j =>
      cases hd; cases he
      obtain ⟨c, rfl⟩ := if_some (show (if mulOk i j = true then some (D.int (i * j)) else none) = some z from hz)
      exact op_mulM hk pins s sg H _ _ u v Q I rx ry ⟨i, j, rfl, rfl, c, p.here k (.int _)⟩
    | _ => cases hz
  | tup xs =>
    cases e with
    | int j =>
      obtain ⟨a, vs, o1, rfl, ha, t1, da⟩ := den_tup hd
      cases he
      obtain ⟨⟨c1, c2, c3⟩, rfl⟩ := if_some (show (if xs.length ≤ 1000 ∧ -1000 ≤ j ∧ j ≤ 1000 then some (D.tup (List.replicate j.toNat xs).flatten) else none) = some z from hz)
      cases rx
      obtain ⟨t, rfl⟩ := ry
      obtain ⟨its, r1, p1, _⟩ := I.tuple (k.le.st (frzT ha))
      have e1 := da.length
      have e2 := r1.length
      refine mul_tupP p1 (by omega) c2 c3 (fun q => ?_) ?_
      · have e3 : (List.replicate j.toNat xs).flatten = xs := by
          have hl : (List.replicate j.toNat xs).flatten.length = xs.length := by
            have := congrArg List.length q
            rw [rep_len] at this ⊢
            rw [e1, e2]; exact this
          rw [rep_len] at hl
          by_cases hx : xs = []
          · subst hx; simp
          · have hp : 0 < xs.length := List.length_pos_iff.mpr hx
            have hj : j.toNat = 1 := Nat.eq_of_mul_eq_mul_right hp (by omega)
            rw [hj]; simp
        rw [e3] at p
        exact ⟨.ref a, H, I, rfl, p.here k (.tup ha t1 da)⟩
      · exact endT (t := s.toks) I k p (da.rep j.toNat) (r1.rep j.toNat) (by
          rw [rep_len, sizeLine_eq]
          have a1 : j.toNat * vs.length ≤ 1000 * 1000 := Nat.mul_le_mul (by omega) (by omega)
          omega)
    | _ => cases hz
  | lst xs =>
    cases e with
    | int j =>
      obtain ⟨a, vs, rfl, ha, da⟩ := den_lst hd
      cases he
      obtain ⟨⟨c1, c2, c3⟩, rfl⟩ := if_some (show (if xs.length ≤ 1000 ∧ -1000 ≤ j ∧ j ≤ 1000 then some (D.lst (List.replicate j.toNat xs).flatten) else none) = some z from hz)
      cases rx
      obtain ⟨t, rfl⟩ := ry
      rw [← hk] at ha
      obtain ⟨its, r1, p1, _⟩ := I.list (k.le.sl ha)
      have e1 := da.length
      have e2 := r1.length
      refine mul_listP p1 (by omega) c2 c3 ?_
      exact endL (t := s.toks) I k p (da.rep j.toNat) (r1.rep j.toNat) (by
          rw [rep_len, sizeLine_eq]
          have a1 : j.toNat * vs.length ≤ 1000 * 1000 := Nat.mul_le_mul (by omega) (by omega)
          omega)
    | _ => cases hz
  | _ => cases e <;> cases hz
end
end DL

set_option Elab.async false
set_option linter.all false
set_option autoImplicit false
set_option maxRecDepth 100000
set_option maxHeartbeats 400000
namespace DL
open PySem L2 PySem.Spec PyProof.Rows

variable {w : Wd}
def eUP (w : Wd) (G : Hp) (x : D) (u : Value) : Prop := ∃ d v, Den w G d v ∧ RelV v u ∧ shp 20 d = true ∧ eqD d x = true
noncomputable def eU (w : Wd) (G : Hp) (x : D) (u : Value) : Bool := @decide (eUP w G x u) (Classical.propDecidable _)
section
variable {X : Cx} {pins : List (Addr × Obj)} {sg : L2.St} {H G : Hp} {s : Shared} {kap : List Addr} {st : S} {Q : VK}
theorem eU_of (I : Inv X pins sg H s) (hk : X.K = w.K) (le : Le G H) {x d : D} {v : V} {u : Value} (r : Den w G d v) (rv : RelV v u) (h : shp 20 d = true) : eU w G x u = eqD d x := by
  unfold eU
  cases e : eqD d x with
  | true => exact @decide_eq_true (eUP w G x u) (Classical.propDecidable _) ⟨d, v, r, rv, h, e⟩
  | false =>
    refine @decide_eq_false (eUP w G x u) (Classical.propDecidable _) ?_
    rintro ⟨d', v', r', rv', h', e'⟩
    have ev : v' = v := rv'.inj rv
    subst ev
    have ed := Den.inj I hk le 20 20 d' d v' r' r h' h
    subst ed
    rw [e] at e'
    cases e'
theorem any_eU (I : Inv X pins sg H s) (hk : X.K = w.K) (le : Le G H) {x : D} : ∀ {ds : List D} {vs : List V} {us : List Value}, Dens w G ds vs → Vals vs us → shps 20 ds = true → us.any (eU w G x) = inD x ds
  | _, _, _, .nil, .nil, _ => rfl
  | _, _, _, .cons (d := d) (ds := ds) r t, .cons rv rt, h => by
    have h2 : (shp 20 d && shps 20 ds) = true := h
    rw [Bool.and_eq_true] at h2
    rw [List.any_cons, eU_of I hk le r rv h2.1, any_eU I hk le t rt h2.2]
    rfl
theorem mem_eU (I : Inv X pins sg H s) (hk : X.K = w.K) (le : Le G H) {A : Around} (hu : A.units + 21 < cLine) {x : D} {y : V} {u0 : Value} (rx : Den w G x y) (ry : RelV y u0) (hx : shp 20 x = true) :
    ∀ {ds : List D} {vs : List V} {us : List Value}, Dens w G ds vs → Vals vs us → shps 20 ds = true → ∀ u ∈ us, SeqAt.EqAt A s u u0 (eU w G x u)
  | _, _, _, .nil, .nil, _ => fun _ h => nomatch h
  | _, _, _, .cons (d := d) (ds := ds) r t, .cons (b := b) rv rt, h => fun u hu2 => by
    have h2 : (shp 20 d && shps 20 ds) = true := h
    rw [Bool.and_eq_true] at h2
    rcases List.mem_cons.mp hu2 with e | hm
    · subst e
      rw [eU_of I hk le r rv h2.1]
      exact (eq_den I hk le (n := 20) r rx h2.1 hx rv ry (by omega)).1
    · exact mem_eU I hk le hu rx ry hx t rt h2.2 u hm
end

section
variable {X : Cx} (hk : X.K = w.K) (hu : X.A.units + 23 < cLine)
include hk hu
theorem eq_ok : OpD w X (compareOp .Eq) (cmpD .Eq) := by
  intro pins s sg H x y u v Q kap G st d e z I rx ry k hd he hz p
  have hz2 : (if (shp 20 d && shp 20 e) = true then some (D.bl (eqD d e)) else none) = some z := by cases d <;> exact hz
  obtain ⟨c, rfl⟩ := if_some hz2
  rw [Bool.and_eq_true] at c
  exact (eq_den I hk k.le (n := 20) (A := X.A) hd he c.1 c.2 rx ry (by omega)).2.1 _ _ _ _ ⟨.bl _, H, I, rfl, p.here k (.bl _)⟩
theorem ne_ok : OpD w X (compareOp .NotEq) (cmpD .NotEq) := by
  intro pins s sg H x y u v Q kap G st d e z I rx ry k hd he hz p
  have hz2 : (if (shp 20 d && shp 20 e) = true then some (D.bl (!eqD d e)) else none) = some z := by cases d <;> exact hz
  obtain ⟨c, rfl⟩ := if_some hz2
  rw [Bool.and_eq_true] at c
  exact (eq_den I hk k.le (n := 20) (A := X.A) hd he c.1 c.2 rx ry (by omega)).2.2 _ _ _ _ ⟨.bl _, H, I, rfl, p.here k (.bl _)⟩
theorem in_ok : OpD w X (compareOp .In) (cmpD .In) := by
  intro pins s sg H x y u v Q kap G st d e z I rx ry k hd he hz p
  cases e with
  | str b =>
    cases d with
    | str a =>
      cases hd; cases he
      have ez : D.bl (!(Builtin.Str.occurrences b a 0 b.length 1).isEmpty) = z := Option.some.inj hz
      subst ez
      exact op_in_str pins s sg H _ _ u v Q I rx ry ⟨a, b, rfl, rfl, p.here k (.bl _)⟩
    | _ => cases hz
  | lst ys =>
    have hz2 : (if (shp 20 d && shps 20 ys) = true then some (D.bl (inD d ys)) else none) = some z := by cases d <;> exact hz
    obtain ⟨c, rfl⟩ := if_some hz2
    rw [Bool.and_eq_true] at c
    obtain ⟨a, vs, rfl, ha, da⟩ := den_lst he
    obtain ⟨its, rv, hl⟩ := isL I hk k.le ha
    cases ry
    refine SeqAt.in_listAt (eU w G d) hl (fun t ht => mem_eU I hk k.le (by show X.A.units + 1 + 21 < cLine; omega) hd rx c.1 da rv c.2 t (by simpa using ht)) ?_
    refine ⟨.bl (inD d ys), H, I, ?_, p.here k (.bl _)⟩
    show Value.bool _ = Value.bool _
    rw [List.any_toArray, any_eU I hk k.le da rv c.2]
  | tup ys =>
    have hz2 : (if (shp 20 d && shps 20 ys) = true then some (D.bl (inD d ys)) else none) = some z := by cases d <;> exact hz
    obtain ⟨c, rfl⟩ := if_some hz2
    rw [Bool.and_eq_true] at c
    obtain ⟨a, vs, o, rfl, ha, ho, da⟩ := den_tup he
    obtain ⟨its, rv, hl⟩ := isT I hk k.le ha
    cases ry
    refine SeqAt.in_tupleAt (eU w G d) hl (fun t ht => mem_eU I hk k.le (by show X.A.units + 1 + 21 < cLine; omega) hd rx c.1 da rv c.2 t (by simpa using ht)) ?_
    refine ⟨.bl (inD d ys), H, I, ?_, p.here k (.bl _)⟩
    show Value.bool _ = Value.bool _
    rw [List.any_toArray, any_eU I hk k.le da rv c.2]
  | _ => cases d <;> cases hz
theorem notin_ok : OpD w X (compareOp .NotIn) (cmpD .NotIn) := by
  intro pins s sg H x y u v Q kap G st d e z I rx ry k hd he hz p
  cases e with
  | str b =>
    cases d with
    | str a =>
      cases hd; cases he
      have ez : D.bl (!(!(Builtin.Str.occurrences b a 0 b.length 1).isEmpty)) = z := Option.some.inj hz
      subst ez
      exact op_notIn_str pins s sg H _ _ u v Q I rx ry ⟨a, b, rfl, rfl, p.here k (.bl _)⟩
    | _ => cases hz
  | lst ys =>
    have hz2 : (if (shp 20 d && shps 20 ys) = true then some (D.bl (!inD d ys)) else none) = some z := by cases d <;> exact hz
    obtain ⟨c, rfl⟩ := if_some hz2
    rw [Bool.and_eq_true] at c
    obtain ⟨a, vs, rfl, ha, da⟩ := den_lst he
    obtain ⟨its, rv, hl⟩ := isL I hk k.le ha
    cases ry
    refine SeqAt.notIn_listAt (eU w G d) hl (fun t ht => mem_eU I hk k.le (by show X.A.units + 1 + 21 < cLine; omega) hd rx c.1 da rv c.2 t (by simpa using ht)) ?_
    refine ⟨.bl (!inD d ys), H, I, ?_, p.here k (.bl _)⟩
    show Value.bool _ = Value.bool _
    rw [List.any_toArray, any_eU I hk k.le da rv c.2]
  | tup ys =>
    have hz2 : (if (shp 20 d && shps 20 ys) = true then some (D.bl (!inD d ys)) else none) = some z := by cases d <;> exact hz
    obtain ⟨c, rfl⟩ := if_some hz2
    rw [Bool.and_eq_true] at c
    obtain ⟨a, vs, o, rfl, ha, ho, da⟩ := den_tup he
    obtain ⟨its, rv, hl⟩ := isT I hk k.le ha
    cases ry
    refine SeqAt.notIn_tupleAt (eU w G d) hl (fun t ht => mem_eU I hk k.le (by show X.A.units + 1 + 21 < cLine; omega) hd rx c.1 da rv c.2 t (by simpa using ht)) ?_
    refine ⟨.bl (!inD d ys), H, I, ?_, p.here k (.bl _)⟩
    show Value.bool _ = Value.bool _
    rw [List.any_toArray, any_eU I hk k.le da rv c.2]
  | _ => cases d <;> cases hz
end
section
variable {X : Cx}
theorem intB_ok {f : Value → Value → Sem Value} {g : Int → Int → Bool} {phi : D → D → Option D} (o : OpR X f (rI0 fun i j => .bl (g i j)))
    (hp : ∀ d e z, phi d e = some z → ∃ i j, d = .int i ∧ e = .int j ∧ z = .bl (g i j)) : OpD w X f phi := by
  intro pins s sg H x y u v Q kap G st d e z I rx ry k hd he hz p
  obtain ⟨i, j, rfl, rfl, rfl⟩ := hp d e z hz
  cases hd; cases he
  exact o pins s sg H _ _ u v Q I rx ry ⟨i, j, rfl, rfl, p.here k (.bl _)⟩
theorem lt_ok : OpD w X (compareOp .Lt) (cmpD .Lt) := intB_ok op_lt fun d e z h => by
  cases d with
  | int i =>
    cases e with
    | int j => exact ⟨i, j, rfl, rfl, (Option.some.inj h).symm⟩
    | _ => cases h
  | _ => cases e <;> cases h
theorem le_ok : OpD w X (compareOp .LtE) (cmpD .LtE) := intB_ok op_le fun d e z h => by
  cases d with
  | int i =>
    cases e with
    | int j => exact ⟨i, j, rfl, rfl, (Option.some.inj h).symm⟩
    | _ => cases h
  | _ => cases e <;> cases h
theorem gt_ok : OpD w X (compareOp .Gt) (cmpD .Gt) := intB_ok op_gt fun d e z h => by
  cases d with
  | int i =>
    cases e with
    | int j => exact ⟨i, j, rfl, rfl, (Option.some.inj h).symm⟩
    | _ => cases h
  | _ => cases e <;> cases h
theorem ge_ok : OpD w X (compareOp .GtE) (cmpD .GtE) := intB_ok op_ge fun d e z h => by
  cases d with
  | int i =>
    cases e with
    | int j => exact ⟨i, j, rfl, rfl, (Option.some.inj h).symm⟩
    | _ => cases h
  | _ => cases e <;> cases h
theorem not_non {G : Hp} {d : D} {v : V} (h : Den w G d v) (n : d ≠ .non) : v ≠ .non := by
  intro e
  subst e
  cases h
  exact n rfl
theorem is_ok : OpD w X (compareOp .Is) (cmpD .Is) := by
  intro pins s sg H x y u v Q kap G st d e z I rx ry k hd he hz p
  cases e with
  | non =>
    cases he
    by_cases hn : d = .non
    · subst hn
      cases hd
      have ez : D.bl true = z := Option.some.inj hz
      subst ez
      exact op_isN pins s sg H _ _ u v Q I rx ry ⟨rfl, p.here k (.bl _)⟩
    · have ez : D.bl false = z := by cases d <;> first | exact absurd rfl hn | exact Option.some.inj hz
      subst ez
      refine op_isN pins s sg H _ _ u v Q I rx ry ⟨rfl, ?_⟩
      rw [decide_eq_false (not_non hd hn)]
      exact p.here k (.bl _)
  | bl b =>
    cases d with
    | bl a =>
      cases hd; cases he
      have ez : D.bl (decide (a = b)) = z := Option.some.inj hz
      subst ez
      exact op_isBl pins s sg H _ _ u v Q I rx ry ⟨a, b, rfl, rfl, p.here k (.bl _)⟩
    | _ => cases hz
  | _ => cases d <;> cases hz
theorem isnot_ok : OpD w X (compareOp .IsNot) (cmpD .IsNot) := by
  intro pins s sg H x y u v Q kap G st d e z I rx ry k hd he hz p
  cases e with
  | non =>
    cases he
    by_cases hn : d = .non
    · subst hn
      cases hd
      have ez : D.bl false = z := Option.some.inj hz
      subst ez
      exact op_notN pins s sg H _ _ u v Q I rx ry ⟨rfl, p.here k (.bl _)⟩
    · have ez : D.bl true = z := by cases d <;> first | exact absurd rfl hn | exact Option.some.inj hz
      subst ez
      refine op_notN pins s sg H _ _ u v Q I rx ry ⟨rfl, ?_⟩
      rw [decide_eq_false (not_non hd hn)]
      exact p.here k (.bl _)
  | bl b =>
    cases d with
    | bl a =>
      cases hd; cases he
      have ez : D.bl (!decide (a = b)) = z := Option.some.inj hz
      subst ez
      exact op_notBl pins s sg H _ _ u v Q I rx ry ⟨a, b, rfl, rfl, p.here k (.bl _)⟩
    | _ => cases hz
  | _ => cases d <;> cases hz
theorem cmp_ok (hk : X.K = w.K) (hu : X.A.units + 23 < cLine) : ∀ op : CmpOp, OpD w X (compareOp op) (cmpD op)
  | .Eq => eq_ok hk hu
  | .NotEq => ne_ok hk hu
  | .Lt => lt_ok
  | .LtE => le_ok
  | .Gt => gt_ok
  | .GtE => ge_ok
  | .In => in_ok hk hu
  | .NotIn => notin_ok hk hu
  | .Is => is_ok
  | .IsNot => isnot_ok
theorem no_op {op : Operator} (h : ∀ d e, binD op d e = none) : OpD w X (binaryOp op) (binD op) := by
  intro pins s sg H x y u v Q kap G st d e z I rx ry k hd he hz p
  rw [h d e] at hz
  cases hz
theorem bin_ok (hk : X.K = w.K) : ∀ op : Operator, OpD w X (binaryOp op) (binD op)
  | .Add => add_ok hk
  | .Sub => sub_ok hk
  | .Mult => mul_ok hk
  | .FloorDiv => fdiv_ok hk
  | .Mod => mod_ok hk
  | .Pow => pow_ok hk
  | .LShift => shl_ok hk
  | .RShift => shr_ok hk
  | .BitAnd => and_ok hk
  | .Div => no_op fun d e => by cases d <;> cases e <;> rfl
  | .MatMult => no_op fun d e => by cases d <;> cases e <;> rfl
  | .BitOr => no_op fun d e => by cases d <;> cases e <;> rfl
  | .BitXor => no_op fun d e => by cases d <;> cases e <;> rfl
end
end DL

set_option Elab.async false
set_option linter.all false
set_option autoImplicit false
set_option maxRecDepth 100000
set_option maxHeartbeats 1000000
namespace DL
open PySem L2 PySem.Spec PyProof.Rows PySem.W PySem.Calls
section
variable {w : Wd} {X : Cx} {pins : List (Addr × Obj)} {sg : L2.St} {H G : Hp} {s : Shared}
mutual
theorem den_reads (I : Inv X pins sg H s) (hK : X.K = w.K) (le : Le G H) : ∀ {d : D} {v : V} {u : Value} {p : PyData}, Den w G d v → RelV v u → toPy d = some p → ∃ as, Reads s.heap u p as
  | _, _, _, _, .int i, r, e => by
    obtain ⟨t, rfl⟩ := r
    cases e
    exact ⟨[], .int i t⟩
  | _, _, _, _, .str x, r, e => by
    obtain ⟨t, rfl⟩ := r
    cases e
    exact ⟨[], .str x t⟩
  | _, _, _, _, .tup (xs := xs) (a := a) (vs := vs) (o := o) h1 h2 h3, r, e => by
    rw [toPy] at e
    obtain ⟨ps, e1, rfl⟩ := Option.map_eq_some_iff.mp e
    cases r
    obtain ⟨its, rv, hl, _⟩ := I.tuple (a := a) (xs := vs) (.inl (.inr ⟨o, le _ _ h1⟩))
    obtain ⟨as, q⟩ := dens_reads I hK le h3 rv e1
    obtain ⟨o', q1, q2, n, q3⟩ := hl
    exact ⟨as, .tuple q1 q2 q3 (by simpa using q)⟩
  | _, _, _, _, .lst (xs := xs) (a := a) (vs := vs) h1 h3, r, e => by
    rw [toPy] at e
    obtain ⟨ps, e1, rfl⟩ := Option.map_eq_some_iff.mp e
    cases r
    obtain ⟨its, rv, hl, _⟩ := I.list (a := a) (xs := vs) (by rw [hK]; exact le.sl h1)
    obtain ⟨as, q⟩ := dens_reads I hK le h3 rv e1
    obtain ⟨o', q1, q2, n, q3⟩ := hl.isList
    exact ⟨a :: as, .list q1 q2 q3 (by simpa using q)⟩
  | _, _, _, _, .non, r, e => by
    cases e
    cases (show _ = Value.none from r)
    exact ⟨[], .none⟩
  | _, _, _, _, .bl b, r, e => by
    cases e
    cases (show _ = Value.bool b from r)
    exact ⟨[], .bool b⟩
  | _, _, _, _, .ins _ _ _, _, e => by simp [toPy] at e
  | _, _, _, _, .emp _, _, e => by simp [toPy] at e
theorem dens_reads (I : Inv X pins sg H s) (hK : X.K = w.K) (le : Le G H) : ∀ {ds : List D} {vs : List V} {us : List Value} {ps : List PyData}, Dens w G ds vs → Vals vs us → toPys ds = some ps → ∃ as, ReadsAll s.heap us ps as
  | _, _, _, _, .nil, r, e => by
    cases r
    rw [toPys] at e
    cases e
    exact ⟨[], .nil⟩
  | _, _, _, _, .cons h1 h2, r, e => by
    cases r with
    | cons r1 r2 =>
      rw [toPys] at e
      obtain ⟨p, e1, e⟩ := Option.bind_eq_some_iff.mp e
      obtain ⟨ps, e2, rfl⟩ := Option.map_eq_some_iff.mp e
      obtain ⟨as, q1⟩ := den_reads I hK le h1 r1 e1
      obtain ⟨bs, q2⟩ := dens_reads I hK le h2 r2 e2
      exact ⟨as ++ bs, .cons q1 q2⟩
end
end

theorem ins_eq {α : Type} {le : α → α → Bool} {a : α} : ∀ {l1 l2 : List α}, (∀ b ∈ l1, le a b = false) → (∀ c ∈ l2, le a c = true) → insK le a (l1 ++ l2) = l1 ++ a :: l2
  | [], [], _, _ => rfl
  | [], c :: l2, _, h => by
    show (if le a c then _ else _) = _
    rw [if_pos (h c List.mem_cons_self)]
    rfl
  | b :: l1, l2, h, h2 => by
    show (if le a b then _ else b :: insK le a (l1 ++ l2)) = _
    rw [h b List.mem_cons_self, if_neg (by simp), ins_eq (fun x hx => h x (List.mem_cons_of_mem b hx)) h2]
    rfl
theorem isort_eq {α : Type} {le : α → α → Bool} (tr : ∀ a b c, le a b = true → le b c = true → le a c = true) (tt : ∀ a b, (le a b || le b a) = true) : ∀ l : List α, l.mergeSort le = isort le l
  | [] => by simp [isort]
  | a :: l => by
    obtain ⟨l1, l2, e1, e2, h⟩ := List.mergeSort_cons tr tt a l
    have hs := List.pairwise_mergeSort tr tt (a :: l)
    rw [e1] at hs
    have h2 : ∀ c ∈ l2, le a c = true := fun c hc => by
      have := (List.pairwise_append.mp hs).2.1
      exact (List.pairwise_cons.mp this).1 c hc
    rw [e1, isort, ← isort_eq tr tt l, e2, ins_eq (fun b hb => by simpa using h b hb) h2]
theorem ins_len {α : Type} (le : α → α → Bool) (a : α) : ∀ l : List α, (insK le a l).length = l.length + 1
  | [] => rfl
  | b :: l => by
    show (if le a b then _ else b :: insK le a l).length = _
    split
    · rfl
    · rw [List.length_cons, ins_len le a l]; rfl
theorem isort_len {α : Type} (le : α → α → Bool) : ∀ l : List α, (isort le l).length = l.length
  | [] => rfl
  | a :: l => by rw [isort, ins_len, isort_len le l]; rfl
theorem dataLe_tr {β : Type} (k : β → PyData) (a b c : β) (h1 : dataLe false k a b = true) (h2 : dataLe false k b c = true) : dataLe false k a c = true := by
  rw [dataLe_eq] at *
  simp only [cond_false, Bool.not_eq_true', dataLt] at *
  cases q : lexLt itemOrd (keyToks (k c)) (keyToks (k a)) with
  | false => rfl
  | true =>
    exfalso
    cases q2 : lexLt itemOrd (keyToks (k a)) (keyToks (k b)) with
    | true =>
      have := lex_trans (O := itemOrd) _ _ _ q q2
      rw [this] at h2; cases h2
    | false =>
      have := lex_total (O := itemOrd) _ _ q2 h1
      rw [this] at q
      rw [q] at h2; cases h2
theorem dataLe_tt {β : Type} (k : β → PyData) (a b : β) : (dataLe false k a b || dataLe false k b a) = true := by
  rw [dataLe_eq]
  simp only [cond_false, dataLt]
  cases q : lexLt itemOrd (keyToks (k b)) (keyToks (k a)) with
  | false => rfl
  | true =>
    cases q2 : lexLt itemOrd (keyToks (k a)) (keyToks (k b)) with
    | false => rfl
    | true =>
      have := lex_trans (O := itemOrd) _ _ _ q q2
      rw [lex_irrefl] at this; cases this
theorem sorted_is {β : Type} (k : β → PyData) (l : List β) : l.mergeSort (dataLe false k) = isort (dataLe false k) l := isort_eq (dataLe_tr k) (dataLe_tt k) l

theorem each_den {w : Wd} {G : Hp} : ∀ {ds : List D} {vs : List V} {us : List Value}, Dens w G ds vs → Vals vs us → EachIs (fun u d => ∃ v, RelV v u ∧ Den w G d v) us ds
  | _, _, _, .nil, r => by cases r; exact .nil
  | _, _, _, .cons h t, r => by
    cases r with
    | cons r1 r2 => exact .cons ⟨_, r1, h⟩ (each_den t r2)
theorem den_each {w : Wd} {G : Hp} : ∀ {ds : List D} {us : List Value}, EachIs (fun u d => ∃ v, RelV v u ∧ Den w G d v) us ds → ∃ vs, Dens w G ds vs ∧ Vals vs us
  | _, _, .nil => ⟨[], .nil, .nil⟩
  | _, _, .cons ⟨v, h1, h2⟩ t => by
    obtain ⟨vs, q1, q2⟩ := den_each t
    exact ⟨v :: vs, .cons h2 q1, .cons h1 q2⟩
theorem okKeys_ok {kz : List PyData} (h : okKeys kz = true) : AllAlike kz ∧ Sortable kz ∧ ∀ p ∈ kz, p.depth ≤ 50 := by
  unfold okKeys at h
  simp only [Bool.and_eq_true, Bool.or_eq_true, List.all_eq_true, decide_eq_true_eq] at h
  obtain ⟨⟨h1, h2⟩, h3⟩ := h
  refine ⟨fun d hd d' hd' => h1 d hd d' hd', ?_, h3⟩
  rcases h2 with h2 | h2
  · exact .inl fun d hd => by
      have := h2 d hd
      unfold tupC at this
      split at this
      · exact ⟨_, _, rfl⟩
      · cases this
  · exact .inr fun d hd => by
      have := h2 d hd
      constructor
      · rintro rfl; cases this
      · rintro xs rfl; cases this
theorem toPys_map : ∀ {xs : List D} {kz : List PyData}, toPys xs = some kz → kz = xs.map (fun x => (toPy x).getD .none) ∧ ∀ x ∈ xs, ∃ p, toPy x = some p
  | [], kz, h => by rw [toPys] at h; cases h; exact ⟨rfl, by simp⟩
  | x :: xs, kz, h => by
    rw [toPys] at h
    obtain ⟨p, hp, h⟩ := Option.bind_eq_some_iff.mp h
    obtain ⟨ks, hk, rfl⟩ := Option.map_eq_some_iff.mp h
    obtain ⟨e, hx⟩ := toPys_map hk
    refine ⟨by rw [List.map_cons, hp, ← e]; rfl, fun y hy => ?_⟩
    rcases List.mem_cons.mp hy with rfl | hy
    · exact ⟨p, hp⟩
    · exact hx y hy
end DL

set_option Elab.async false
set_option linter.all false
set_option autoImplicit false
set_option maxRecDepth 100000
set_option maxHeartbeats 400000
namespace DL
open PySem L2 PySem.Spec PyProof.Rows

variable {w : Wd}
theorem atI_den {G : Hp} {xs : List D} {vs : List V} {i : Int} {d : D} (r : Dens w G xs vs) (h : atI xs i = some d) : ∃ v, atI vs i = some v ∧ Den w G d v := by
  unfold atI at h ⊢
  rw [← r.length]
  cases e : ixN xs.length i with
  | none => rw [e] at h; cases h
  | some j =>
    rw [e] at h
    exact r.get h
section
variable {X : Cx}
def rIxD (w : Wd) : R2 := rOp w idxD
theorem ix_ok (hk : X.K = w.K) : IxR X (rIxD w) := by
  rintro value slice pins s sg H x y v u Q I rx ry ⟨kap, G, st, d, e, z, k, hd, he, hz, p⟩ hs
  cases e with
  | int i =>
    have hy := den_int he
    subst hy
    cases d with
    | lst xs =>
      obtain ⟨a, vs, rfl, ha, da⟩ := den_lst hd
      obtain ⟨t, h1, h2⟩ := atI_den da hz
      exact ix_list value slice pins s sg H _ _ v u Q I rx ry ⟨a, vs, i, t, rfl, rfl, by rw [hk]; exact k.le.sl ha, h1, p.here k h2⟩ hs
    | tup xs =>
      obtain ⟨a, vs, o, rfl, ha, ho, da⟩ := den_tup hd
      obtain ⟨t, h1, h2⟩ := atI_den da hz
      exact ix_tup value slice pins s sg H _ _ v u Q I rx ry ⟨a, vs, i, t, rfl, rfl, k.le.st (frzT ha), h1, p.here k h2⟩ hs
    | str x =>
      have hx := den_str hd
      subst hx
      obtain ⟨hl, hz2⟩ : x.length ≤ lim ∧ (atI x.cps.toList i).map (fun c => D.str ⟨#[c]⟩) = some z := by
        have q : (if x.length ≤ lim then (atI x.cps.toList i).map fun c => D.str ⟨#[c]⟩ else none) = some z := hz
        by_cases c : x.length ≤ lim
        · rw [if_pos c] at q; exact ⟨c, q⟩
        · rw [if_neg c] at q; cases q
      obtain ⟨c, hc, rfl⟩ := Option.map_eq_some_iff.mp hz2
      exact ix_str value slice pins s sg H _ _ v u Q I rx ry ⟨x, i, c, rfl, rfl, lim_size hl, hc, p.here k (.str _)⟩ hs
    | _ => cases hz
  | _ => cases d <;> cases hz
theorem cut_den {G : Hp} {xs : List D} {vs : List V} (lo hi : Option Int) (r : Dens w G xs vs) : Dens w G (cutL xs lo hi) (cutV vs lo hi) := by
  unfold cutL cutV
  rw [r.length]
  exact (r.drop _).take _
def rSlD (w : Wd) : V → Option Int → Option Int → Hp → VK → Prop := fun x lo hi H Q => ∃ kap G st d z, Ok w kap G st H ∧ Den w G d x ∧ sliceD d lo hi = some z ∧ Post w kap G H st z Q
theorem sl_ok (hk : X.K = w.K) : SlR X (rSlD w) := by
  rintro pins s sg H x v vl vu lo hi sl Q I rx hs pl pu ⟨kap, G, st, d, z, k, hd, hz, p⟩
  cases d with
  | lst xs =>
    have ez : D.lst (cutL xs lo hi) = z := Option.some.inj hz
    subst ez
    obtain ⟨a, vs, rfl, ha, da⟩ := den_lst hd
    exact sl_list pins s sg H _ v vl vu lo hi sl Q I rx hs pl pu ⟨a, vs, rfl, by rw [hk]; exact k.le.sl ha, fun q hq => p.lst k (cut_den lo hi da) q hq⟩
  | tup xs =>
    have ez : D.tup (cutL xs lo hi) = z := Option.some.inj hz
    subst ez
    obtain ⟨a, vs, o, rfl, ha, ho, da⟩ := den_tup hd
    cases rx
    obtain ⟨its, r, ht, hz⟩ := I.tuple (k.le.st (frzT ha))
    have hlen : its.toArray.size = vs.length := by rw [List.size_toArray]; exact r.length.symm
    have hlx := da.length
    refine ⟨"tuple", _, PyProof.Rows.slot_tuple_getitem.lookup, ht.typeIs, ?_⟩
    by_cases hw : HT.sIx vs.length 0 lo = 0 ∧ HT.sIx vs.length vs.length hi = vs.length
    · refine L2.getItem_tuple_whole ht hs pl pu (by rw [hlen]; exact hw) ⟨.ref a, H, I, rfl, ?_⟩
      have e : cutL xs lo hi = xs := by
        unfold cutL
        rw [hlx, hw.1, hw.2]
        simp [← hlx]
      rw [e] at p
      exact p.here k (.tup ha ho da)
    · refine HT.getItem_tuple_cut ht hs pl pu (by rw [hlen]; exact hw) ?_ (by rw [hlen]; exact hz)
      rw [hlen]
      exact endT (t := s.toks) I k p (cut_den lo hi da) ((r.drop (HT.sIx vs.length 0 lo)).take (HT.sIx vs.length vs.length hi - HT.sIx vs.length 0 lo)) (Nat.le_trans (cutV_length vs lo hi) hz)
  | _ => cases hz
end
def BI.val : BI → Value
  | .len => .builtin "len" | .tuple => .type "tuple" | .list => .type "list" | .sum => .builtin "sum" | .min1 => .builtin "min" | .max1 => .builtin "max" | .min2 => .builtin "min" | .max2 => .builtin "max"
  | .all => .builtin "all" | .abs => .builtin "abs" | .int => .type "int" | .str => .type "str" | .repr => .builtin "repr" | .divmod => .builtin "divmod" | .sorted => .builtin "sorted"
def rBI (w : Wd) (b : BI) : List V → Hp → VK → Prop := fun vs H Q => ∃ kap G st ds z, Ok w kap G st H ∧ Dens w G ds vs ∧ biD b ds = some z ∧ Post w kap G H st z Q
theorem foldMin (r : List Int) : ∀ x : Int, (r.foldl (fun a b => if b < a then b else a) x ∈ x :: r) ∧ ∀ y ∈ x :: r, r.foldl (fun a b => if b < a then b else a) x ≤ y := by
  induction r with
  | nil => intro x; simp
  | cons y r ih =>
    intro x
    rw [List.foldl_cons]
    by_cases h : y < x
    · rw [if_pos h]
      obtain ⟨a, b⟩ := ih y
      refine ⟨List.mem_cons_of_mem _ a, fun z hz => ?_⟩
      rcases List.mem_cons.mp hz with e | hz
      · subst e
        have := b y (List.mem_cons_self ..)
        omega
      · exact b z hz
    · rw [if_neg h]
      obtain ⟨a, b⟩ := ih x
      refine ⟨?_, fun z hz => ?_⟩
      · rcases List.mem_cons.mp a with e | a
        · rw [e]; exact List.mem_cons_self ..
        · exact List.mem_cons_of_mem _ (List.mem_cons_of_mem _ a)
      · rcases List.mem_cons.mp hz with e | hz
        · subst e; exact b _ (List.mem_cons_self ..)
        · rcases List.mem_cons.mp hz with e | hz
          · subst e
            have := b x (List.mem_cons_self ..)
            omega
          · exact b z (List.mem_cons_of_mem _ hz)
theorem foldMax (r : List Int) : ∀ x : Int, (r.foldl (fun a b => if a < b then b else a) x ∈ x :: r) ∧ ∀ y ∈ x :: r, y ≤ r.foldl (fun a b => if a < b then b else a) x := by
  induction r with
  | nil => intro x; simp
  | cons y r ih =>
    intro x
    rw [List.foldl_cons]
    by_cases h : x < y
    · rw [if_pos h]
      obtain ⟨a, b⟩ := ih y
      refine ⟨List.mem_cons_of_mem _ a, fun z hz => ?_⟩
      rcases List.mem_cons.mp hz with e | hz
      · subst e
        have := b y (List.mem_cons_self ..)
        omega
      · exact b z hz
    · rw [if_neg h]
      obtain ⟨a, b⟩ := ih x
      refine ⟨?_, fun z hz => ?_⟩
      · rcases List.mem_cons.mp a with e | a
        · rw [e]; exact List.mem_cons_self ..
        · exact List.mem_cons_of_mem _ (List.mem_cons_of_mem _ a)
      · rcases List.mem_cons.mp hz with e | hz
        · subst e; exact b _ (List.mem_cons_self ..)
        · rcases List.mem_cons.mp hz with e | hz
          · subst e
            have := b x (List.mem_cons_self ..)
            omega
          · exact b z (List.mem_cons_of_mem _ hz)
theorem minL_of {ns : List Int} {m : Int} (h : minL ns = some m) (n : Int) (h1 : n ∈ ns) (h2 : ∀ y, y ∈ ns → n ≤ y) : n = m := by
  cases ns with
  | nil => cases h
  | cons x r =>
    have e : r.foldl (fun a b => if b < a then b else a) x = m := Option.some.inj h
    obtain ⟨a, b⟩ := foldMin r x
    rw [e] at a b
    exact Int.le_antisymm (h2 m a) (b n h1)
theorem maxL_of {ns : List Int} {m : Int} (h : maxL ns = some m) (n : Int) (h1 : n ∈ ns) (h2 : ∀ y, y ∈ ns → y ≤ n) : n = m := by
  cases ns with
  | nil => cases h
  | cons x r =>
    have e : r.foldl (fun a b => if a < b then b else a) x = m := Option.some.inj h
    obtain ⟨a, b⟩ := foldMax r x
    rw [e] at a b
    exact Int.le_antisymm (b n h1) (h2 m a)
theorem minL_pos {ns : List Int} {m : Int} (h : minL ns = some m) : 0 < ns.length := by
  cases ns with
  | nil => cases h
  | cons x r => exact Nat.succ_pos _
theorem maxL_pos {ns : List Int} {m : Int} (h : maxL ns = some m) : 0 < ns.length := by
  cases ns with
  | nil => cases h
  | cons x r => exact Nat.succ_pos _
theorem dens1 {G : Hp} {d : D} {vs : List V} (h : Dens w G [d] vs) : ∃ v, vs = [v] ∧ Den w G d v := by
  cases h with
  | cons r t => cases t; exact ⟨_, rfl, r⟩
theorem dens2 {G : Hp} {d e : D} {vs : List V} (h : Dens w G [d, e] vs) : ∃ v u, vs = [v, u] ∧ Den w G d v ∧ Den w G e u := by
  cases h with
  | cons r t =>
    obtain ⟨u, rfl, q⟩ := dens1 t
    exact ⟨_, _, rfl, r, q⟩
section
variable {X : Cx}
theorem den_sq {G H : Hp} {xs : List D} {v : V} (hk : X.K = w.K) (le : Le G H) (h : Den w G (.lst xs) v ∨ Den w G (.tup xs) v) : ∃ a vs, v = .ref a ∧ (SqL X.K H a vs ∨ SqT X.K H a vs) ∧ Dens w G xs vs := by
  rcases h with h | h
  · obtain ⟨a, vs, rfl, ha, da⟩ := den_lst h
    exact ⟨a, vs, rfl, .inl (by rw [hk]; exact le.sl ha), da⟩
  · obtain ⟨a, vs, o, rfl, ha, ho, da⟩ := den_tup h
    exact ⟨a, vs, rfl, .inr (le.st (frzT ha)), da⟩
theorem one_of {ds : List D} {b : BI} {z : D} (h : biD b ds = some z) (h1 : ∀ d e : D, biD b [d, e] = none) (h2 : ∀ d e f r, biD b (d :: e :: f :: r) = none) (h0 : biD b [] = none) : ∃ d, ds = [d] := by
  match ds, h with
  | [], h => rw [h0] at h; cases h
  | [d], _ => exact ⟨d, rfl⟩
  | [d, e], h => rw [h1] at h; cases h
  | d :: e :: f :: r, h => rw [h2] at h; cases h
theorem len_ok (hk : X.K = w.K) : CallR X (.builtin "len") (rBI w .len) := by
  rintro pins s sg H vs us Q I r ⟨kap, G, st, ds, z, k, hd, hz, p⟩
  obtain ⟨d, rfl⟩ : ∃ d, ds = [d] := one_of hz (fun d e => by cases d <;> rfl) (fun d e f r => by cases d <;> rfl) rfl
  obtain ⟨v, rfl, h⟩ := dens1 hd
  cases d with
  | lst xs =>
    obtain ⟨a, vs, rfl, hq, da⟩ := den_sq hk k.le (.inl h)
    have ez : D.int xs.length = z := Option.some.inj hz
    subst ez
    rw [da.length] at p
    exact call_len_seq pins s sg H _ us Q I r ⟨a, vs, rfl, hq, p.here k (.int _)⟩
  | tup xs =>
    obtain ⟨a, vs, rfl, hq, da⟩ := den_sq hk k.le (.inr h)
    have ez : D.int xs.length = z := Option.some.inj hz
    subst ez
    rw [da.length] at p
    exact call_len_seq pins s sg H _ us Q I r ⟨a, vs, rfl, hq, p.here k (.int _)⟩
  | str x =>
    obtain ⟨c, rfl⟩ := if_some (show (if x.length ≤ lim then some (D.int x.length) else none) = some z from hz)
    cases h
    exact call_len_str pins s sg H _ us Q I r ⟨x, rfl, lim_size c, p.here k (.int _)⟩
  | _ => cases hz
theorem tuple_ok (hk : X.K = w.K) : CallR X (.type "tuple") (rBI w .tuple) := by
  rintro pins s sg H vs us Q I r ⟨kap, G, st, ds, z, k, hd, hz, p⟩
  obtain ⟨d, rfl⟩ : ∃ d, ds = [d] := one_of hz (fun d e => by cases d <;> rfl) (fun d e f r => by cases d <;> rfl) rfl
  obtain ⟨v, rfl, h⟩ := dens1 hd
  obtain ⟨u, rfl, rx⟩ := vals1 r
  cases d with
  | lst xs =>
    have ez : D.tup xs = z := Option.some.inj hz
    subst ez
    obtain ⟨a, vs, rfl, ha, da⟩ := den_lst h
    cases rx
    rw [← hk] at ha
    obtain ⟨its, r', pl, hz⟩ := I.list (k.le.sl ha)
    have hlen := r'.length
    refine call_tuple_list pl.isList (fun h' kp => ?_) (by simp only [List.size_toArray] <;> omega)
    have I1 : Inv X pins sg H { s with heap := h' } := I.kept (t' := s.toks) kp
    exact endT (t := s.toks) I1 k p da r' hz
  | tup xs =>
    have ez : D.tup xs = z := Option.some.inj hz
    subst ez
    obtain ⟨a, vs, o, rfl, ha, ho, da⟩ := den_tup h
    cases rx
    obtain ⟨its, r', pl, hz⟩ := I.tuple (k.le.st (frzT ha))
    exact call_tuple_same pl ⟨.ref a, H, I, rfl, p.here k (.tup ha ho da)⟩
  | _ => cases hz
theorem list_ok (hk : X.K = w.K) : CallR X (.type "list") (rBI w .list) := by
  rintro pins s sg H vs us Q I r ⟨kap, G, st, ds, z, k, hd, hz, p⟩
  obtain ⟨d, rfl⟩ : ∃ d, ds = [d] := one_of hz (fun d e => by cases d <;> rfl) (fun d e f r => by cases d <;> rfl) rfl
  obtain ⟨v, rfl, h⟩ := dens1 hd
  cases d with
  | lst xs =>
    obtain ⟨a, vs, rfl, hq, da⟩ := den_sq hk k.le (.inl h)
    have ez : D.lst xs = z := Option.some.inj hz
    subst ez
    exact call_list_of pins s sg H _ us Q I r ⟨a, vs, rfl, hq, fun l hl => p.lst k da l hl⟩
  | tup xs =>
    obtain ⟨a, vs, rfl, hq, da⟩ := den_sq hk k.le (.inr h)
    have ez : D.lst xs = z := Option.some.inj hz
    subst ez
    exact call_list_of pins s sg H _ us Q I r ⟨a, vs, rfl, hq, fun l hl => p.lst k da l hl⟩
  | _ => cases hz
theorem sum_ok (hk : X.K = w.K) (hc : X.calm = true) : CallR X (.builtin "sum") (rBI w .sum) := by
  rintro pins s sg H vs us Q I r ⟨kap, G, st, ds, z, k, hd, hz, p⟩
  obtain ⟨d, rfl⟩ : ∃ d, ds = [d] := one_of hz (fun d e => by cases d <;> rfl) (fun d e f r => by cases d <;> rfl) rfl
  obtain ⟨v, rfl, h⟩ := dens1 hd
  cases d with
  | lst xs =>
    obtain ⟨a, vs, rfl, ha, da⟩ := den_lst h
    obtain ⟨ns, hn, rfl⟩ := Option.map_eq_some_iff.mp (show (intsOf xs).map (fun ns => D.int ns.sum) = some z from hz)
    have e := dens_ints da hn
    subst e
    exact cr_sum hc pins s sg H _ us Q I r ⟨a, ns, rfl, by rw [hk]; exact k.le.sl ha, p.here k (.int _)⟩
  | _ => cases hz
theorem min1_ok (hk : X.K = w.K) (hc : X.calm = true) : CallR X (.builtin "min") (rBI w .min1) := by
  rintro pins s sg H vs us Q I r ⟨kap, G, st, ds, z, k, hd, hz, p⟩
  obtain ⟨d, rfl⟩ : ∃ d, ds = [d] := one_of hz (fun d e => by cases d <;> rfl) (fun d e f r => by cases d <;> rfl) rfl
  obtain ⟨v, rfl, h⟩ := dens1 hd
  cases d with
  | lst xs =>
    obtain ⟨a, vs, rfl, ha, da⟩ := den_lst h
    obtain ⟨ns, hn, hz2⟩ := Option.bind_eq_some_iff.mp (show (intsOf xs).bind (fun ns => (minL ns).map .int) = some z from hz)
    obtain ⟨m, hm, rfl⟩ := Option.map_eq_some_iff.mp hz2
    have e := dens_ints da hn
    subst e
    refine cr_min hc pins s sg H _ us Q I r ⟨a, ns, rfl, by rw [hk]; exact k.le.sl ha, minL_pos hm, fun n h1 h2 => ?_⟩
    rw [minL_of hm n h1 h2]
    exact p.here k (.int _)
  | _ => cases hz
theorem max1_ok (hk : X.K = w.K) (hc : X.calm = true) : CallR X (.builtin "max") (rBI w .max1) := by
  rintro pins s sg H vs us Q I r ⟨kap, G, st, ds, z, k, hd, hz, p⟩
  obtain ⟨d, rfl⟩ : ∃ d, ds = [d] := one_of hz (fun d e => by cases d <;> rfl) (fun d e f r => by cases d <;> rfl) rfl
  obtain ⟨v, rfl, h⟩ := dens1 hd
  cases d with
  | lst xs =>
    obtain ⟨a, vs, rfl, ha, da⟩ := den_lst h
    obtain ⟨ns, hn, hz2⟩ := Option.bind_eq_some_iff.mp (show (intsOf xs).bind (fun ns => (maxL ns).map .int) = some z from hz)
    obtain ⟨m, hm, rfl⟩ := Option.map_eq_some_iff.mp hz2
    have e := dens_ints da hn
    subst e
    refine cr_max hc pins s sg H _ us Q I r ⟨a, ns, rfl, by rw [hk]; exact k.le.sl ha, maxL_pos hm, fun n h1 h2 => ?_⟩
    rw [maxL_of hm n h1 h2]
    exact p.here k (.int _)
  | _ => cases hz
theorem two_of {ds : List D} {b : BI} {z : D} (h : biD b ds = some z) (h1 : ∀ d : D, biD b [d] = none) (h2 : ∀ d e f r, biD b (d :: e :: f :: r) = none) (h0 : biD b [] = none) : ∃ d e, ds = [d, e] := by
  match ds, h with
  | [], h => rw [h0] at h; cases h
  | [d], h => rw [h1] at h; cases h
  | [d, e], h => exact ⟨d, e, rfl⟩
  | d :: e :: f :: r, h => rw [h2] at h; cases h
theorem min2_ok (hc : X.calm = true) : CallR X (.builtin "min") (rBI w .min2) := by
  rintro pins s sg H vs us Q I r ⟨kap, G, st, ds, z, k, hd, hz, p⟩
  obtain ⟨d, e, rfl⟩ := two_of hz (fun d => by cases d <;> rfl) (fun d e f r => by cases d <;> cases e <;> rfl) rfl
  obtain ⟨v, u, rfl, h1, h2⟩ := dens2 hd
  cases d with
  | int i =>
    cases e with
    | int j =>
      cases h1; cases h2
      have ez : D.int (if j < i then j else i) = z := Option.some.inj hz
      subst ez
      exact call_min2 hc pins s sg H _ us Q I r ⟨i, j, rfl, p.here k (.int _)⟩
    | _ => cases hz
  | _ => cases hz
theorem max2_ok (hc : X.calm = true) : CallR X (.builtin "max") (rBI w .max2) := by
  rintro pins s sg H vs us Q I r ⟨kap, G, st, ds, z, k, hd, hz, p⟩
  obtain ⟨d, e, rfl⟩ := two_of hz (fun d => by cases d <;> rfl) (fun d e f r => by cases d <;> cases e <;> rfl) rfl
  obtain ⟨v, u, rfl, h1, h2⟩ := dens2 hd
  cases d with
  | int i =>
    cases e with
    | int j =>
      cases h1; cases h2
      have ez : D.int (if j > i then j else i) = z := Option.some.inj hz
      subst ez
      exact call_max2 hc pins s sg H _ us Q I r ⟨i, j, rfl, p.here k (.int _)⟩
    | _ => cases hz
  | _ => cases hz
theorem all_ok (hk : X.K = w.K) (hc : X.calm = true) : CallR X (.builtin "all") (rBI w .all) := by
  rintro pins s sg H vs us Q I r ⟨kap, G, st, ds, z, k, hd, hz, p⟩
  obtain ⟨d, rfl⟩ : ∃ d, ds = [d] := one_of hz (fun d e => by cases d <;> rfl) (fun d e f r => by cases d <;> rfl) rfl
  obtain ⟨v, rfl, h⟩ := dens1 hd
  cases d with
  | lst xs =>
    obtain ⟨a, vs, rfl, ha, da⟩ := den_lst h
    obtain ⟨ns, hn, rfl⟩ := Option.map_eq_some_iff.mp (show (blsOf xs).map (fun bs => D.bl (bs.all id)) = some z from hz)
    have e := dens_bls da hn
    subst e
    exact cr_all hc pins s sg H _ us Q I r ⟨a, ns, rfl, by rw [hk]; exact k.le.sl ha, p.here k (.bl _)⟩
  | _ => cases hz
theorem abs_ok : CallR X (.builtin "abs") (rBI w .abs) := by
  rintro pins s sg H vs us Q I r ⟨kap, G, st, ds, z, k, hd, hz, p⟩
  obtain ⟨d, rfl⟩ : ∃ d, ds = [d] := one_of hz (fun d e => by cases d <;> rfl) (fun d e f r => by cases d <;> rfl) rfl
  obtain ⟨v, rfl, h⟩ := dens1 hd
  cases d with
  | int i =>
    cases h
    have ez : D.int (if i < 0 then -i else i) = z := Option.some.inj hz
    subst ez
    exact call_abs pins s sg H _ us Q I r ⟨i, rfl, p.here k (.int _)⟩
  | _ => cases hz
theorem int1_ok : CallR X (.type "int") (rBI w .int) := by
  rintro pins s sg H vs us Q I r ⟨kap, G, st, ds, z, k, hd, hz, p⟩
  obtain ⟨d, rfl⟩ : ∃ d, ds = [d] := one_of hz (fun d e => by cases d <;> rfl) (fun d e f r => by cases d <;> rfl) rfl
  obtain ⟨v, rfl, h⟩ := dens1 hd
  cases d with
  | int i =>
    cases h
    have ez : D.int i = z := Option.some.inj hz
    subst ez
    exact call_int1 pins s sg H _ us Q I r (.inl ⟨i, rfl, p.here k (.int _)⟩)
  | bl b =>
    cases h
    have ez : D.int (if b then 1 else 0) = z := Option.some.inj hz
    subst ez
    exact call_int1 pins s sg H _ us Q I r (.inr ⟨b, rfl, p.here k (.int _)⟩)
  | _ => cases hz
theorem str1_ok : CallR X (.type "str") (rBI w .str) := by
  rintro pins s sg H vs us Q I r ⟨kap, G, st, ds, z, k, hd, hz, p⟩
  obtain ⟨d, rfl⟩ : ∃ d, ds = [d] := one_of hz (fun d e => by cases d <;> rfl) (fun d e f r => by cases d <;> rfl) rfl
  obtain ⟨v, rfl, h⟩ := dens1 hd
  cases d with
  | int i =>
    cases h
    obtain ⟨c, rfl⟩ := if_some (show (if i.natAbs.log2 < 1920 then some (D.str (Str.ofString (toString i))) else none) = some z from hz)
    exact call_str_int pins s sg H _ us Q I r ⟨i, rfl, c, p.here k (.str _)⟩
  | _ => cases hz
theorem repr_ok : CallR X (.builtin "repr") (rBI w .repr) := by
  rintro pins s sg H vs us Q I r ⟨kap, G, st, ds, z, k, hd, hz, p⟩
  obtain ⟨d, rfl⟩ : ∃ d, ds = [d] := one_of hz (fun d e => by cases d <;> rfl) (fun d e f r => by cases d <;> rfl) rfl
  obtain ⟨v, rfl, h⟩ := dens1 hd
  cases d with
  | bl b =>
    cases h
    have ez : D.str (if b then "True" else "False") = z := Option.some.inj hz
    subst ez
    obtain ⟨u, rfl, r1⟩ := vals1 r
    cases (show u = Value.bool b from r1)
    exact PySem.P.repr_of_bool ⟨.str _, H, I.tok _, ⟨_, rfl⟩, p.here k (.str _)⟩
  | _ => cases hz
theorem divmod_ok : CallR X (.builtin "divmod") (rBI w .divmod) := by
  rintro pins s sg H vs us Q I r ⟨kap, G, st, ds, z, k, hd, hz, p⟩
  obtain ⟨d, e, rfl⟩ := two_of hz (fun d => by cases d <;> rfl) (fun d e f r => by cases d <;> cases e <;> rfl) rfl
  obtain ⟨v, u, rfl, h1, h2⟩ := dens2 hd
  cases d with
  | int i =>
    cases e with
    | int j =>
      cases h1; cases h2
      obtain ⟨⟨c1, c2⟩, rfl⟩ := if_some (show (if 0 < j ∧ j < 1073741824 then some (D.tup [.int (i / j), .int (i % j)]) else none) = some z from hz)
      obtain ⟨u, w', rfl, ⟨t, rfl⟩, ⟨t', rfl⟩⟩ := vals2 r
      refine divmod_int (by omega) ?_ (.inl (PyProof.noPylong_small (by omega)))
      rw [Int.fdiv_eq_ediv_of_nonneg i (by omega), Int.fmod_eq_emod_of_nonneg i (by omega)]
      exact endT (vs := [.int (i / j), .int (i % j)]) (its := [.int (i / j) s.toks, .int (i % j) (s.toks + 1)]) I k p (.cons (.int _) (.cons (.int _) .nil)) (.cons ⟨_, rfl⟩ (.cons ⟨_, rfl⟩ .nil)) (by simp only [List.length_cons, List.length_nil]; rw [sizeLine_eq]; decide)
    | _ => cases hz
  | _ => cases hz
theorem sorted_ok (hk : X.K = w.K) (hu : X.A.units + 200 < cLine) : CallR X (.builtin "sorted") (rBI w .sorted) := by
  intro pins s sg H vs us Q I r ⟨kap, G, st, ds, z, k, dd, hz, q⟩
  obtain ⟨d, rfl⟩ := one_of hz (fun a b => by cases a <;> rfl) (fun a _ _ _ => by cases a <;> rfl) rfl
  cases dd with
  | cons d1 d2 =>
    cases d2
    cases d with
    | lst xs =>
      cases d1 with
      | @lst _ la lv sq dx =>
        obtain rfl := Vals.ref1 r
        have hz : ((toPys xs).bind fun kz => if okKeys kz = true then some (D.lst (isort (PySem.W.dataLe false fun x => (toPy x).getD .none) xs)) else none) = some z := hz
        obtain ⟨kz, hkz, hz⟩ := Option.bind_eq_some_iff.mp hz
        split at hz
        case isFalse => cases hz
        rename_i hok
        cases hz
        obtain ⟨ekz, hpx⟩ := toPys_map hkz
        obtain ⟨hal, hsk, hdep⟩ := okKeys_ok hok
        subst ekz
        obtain ⟨its, rv, hl, hsz⟩ := I.list (a := la) (xs := lv) (by rw [hk]; exact k.le.sl sq)
        have e1 := each_den dx rv
        have hlen : its.length = xs.length := by rw [dx.length]; exact rv.length.symm
        have ezx : ∀ u x, (u, x) ∈ its.zip xs → ∃ as, Reads s.heap u ((toPy x).getD .none) as := fun u x hm => by
          obtain ⟨v, q1, q2⟩ := e1.zip _ hm
          obtain ⟨p, hp⟩ := hpx x (List.of_mem_zip hm).2
          rw [hp]
          exact den_reads I hk k.le q2 q1 hp
        have e2 : PySem.W.EachIs (fun v b => ∃ as, Reads s.heap v ((toPy b).getD .none) as) its xs := by
          have gen : ∀ (as : List Value) (bs : List D), as.length = bs.length → (∀ u x, (u, x) ∈ as.zip bs → ∃ z, Reads s.heap u ((toPy x).getD .none) z) → PySem.W.EachIs (fun v b => ∃ as, Reads s.heap v ((toPy b).getD .none) as) as bs := by
            intro as
            induction as with
            | nil => intro bs h _; cases bs with
              | nil => exact .nil
              | cons _ _ => cases h
            | cons a as ih => intro bs h hz; cases bs with
              | nil => cases h
              | cons b bs => exact .cons (hz a b (by simp)) (ih bs (by simpa using h) fun u x hm => hz u x (by simp [hm]))
          exact gen its xs hlen ezx
        refine PySem.W.sorted_data (enc := fun x => (toPy x).getD .none) hl.isList e1 e2 hal hsk (by rw [← hlen, ← rv.length]; exact hsz) (fun b hb => ?_) fun out hol eo => ?_
        · have := hdep _ (List.mem_map.mpr ⟨b, hb, rfl⟩)
          omega
        · rw [sorted_is] at eo
          obtain ⟨vo, dv, vv⟩ := den_each eo
          obtain ⟨ep, he⟩ := PyProof.Rows.sortedAll_at s.heap its out.toArray
          have hvl : vo.length ≤ sizeLine := by
            rw [← dv.length, isort_len, ← hlen, ← rv.length]; exact hsz
          have np : H (s.heap.objs.size + 1) = none := I.hok.fresh (Nat.le_succ _)
          obtain ⟨S8, k8⟩ := Step.new k np (nt_lst (xs := vo))
          exact ⟨.ref _, upd H (s.heap.objs.size + 1) (.lst vo), I.laid (t' := s.toks) (fun _ _ => PyProof.Rows.sortedAll_old) (Nat.le_succ _) ⟨hvl, _, ep, vv, he⟩, rfl, q _ kap _ _ S8 k8 (.lst (.inl (.inl upd_same)) (dv.mono S8.g))⟩
    | _ => cases hz
theorem bi_ok (hk : X.K = w.K) (hc : X.calm = true) (hu : X.A.units + 200 < cLine) : ∀ b : BI, CallR X b.val (rBI w b)
  | .len => len_ok hk | .tuple => tuple_ok hk | .list => list_ok hk | .sum => sum_ok hk hc | .min1 => min1_ok hk hc | .max1 => max1_ok hk hc | .min2 => min2_ok hc | .max2 => max2_ok hc
  | .all => all_ok hk hc | .abs => abs_ok | .int => int1_ok | .str => str1_ok | .repr => repr_ok | .divmod => divmod_ok | .sorted => sorted_ok hk hu
end
end DL

set_option Elab.async false
set_option linter.all false
set_option autoImplicit false
set_option maxRecDepth 100000
set_option maxHeartbeats 1000000
namespace DL
open PySem L2 PySem.Spec PyProof.Rows
def Quiet (A : Around) : Prop := A.guards = some []
theorem Quiet.deeper {A : Around} (h : Quiet A) (env : Env) : Quiet (A.deeper env) := h
theorem Quiet.in1 {A : Around} (h : Quiet A) : Quiet A.in1 := h
structure FnG (P : Program) (wd : World) (K : PySem.W.Frag) (mg : Str → Option Value) (base : Heap) (CX : CXT) (k : Nat) (f : Addr) (fd : FuncData) (ps : List Str) (sp : Sp) : Prop where
  len : ∀ vs H Q E, sp vs H Q E → vs.length = ps.length
  go : ∀ (A : Around) (out : List Env) (s : Shared) (H : Hp) (az : Args) (us : List Value) (vs : List V) (Q : VK) (E : XK), Quiet A → Room k A → Env0 P wd K mg base A out s H → BindsTo s fd az (ps.zip us) →
    Vals vs us → sp vs H Q E → codeAny (model P wd) A (.call (.ref f) az) (CR CX out P wd H s Q E) s
theorem FnG.of {P : Program} {wd : World} {K : PySem.W.Frag} {mg : Str → Option Value} {base : Heap} {CX : CXT} {k : Nat} {f : Addr} {fd : FuncData} {ps : List Str} {sp : Sp} (F : FnOk P wd K mg base CX k f fd ps sp) : FnG P wd K mg base CX k f fd ps sp :=
  ⟨F.len, fun A out s H az us vs Q E _ hr => F.run A out s H az us vs Q E hr⟩
theorem FnG.mono {P : Program} {wd : World} {K : PySem.W.Frag} {mg : Str → Option Value} {base : Heap} {CX : CXT} {j k : Nat} {f : Addr} {fd : FuncData} {ps : List Str} {sp : Sp} (F : FnG P wd K mg base CX j f fd ps sp) (h : j ≤ k) : FnG P wd K mg base CX k f fd ps sp :=
  ⟨F.len, fun A out s H az us vs Q E hq hr => F.go A out s H az us vs Q E hq (hr.mono h)⟩
section
variable {X : Cx} {CX : CXT} {k : Nat} {f : Addr} {fd : FuncData} {ps : List Str} {sp : Sp} {E : XK} {x : Str} {p pos : Pos} {e : Expr} {es : List Expr} {t : TA}
theorem runG {pn : List (Addr × Obj)} {sg : L2.St} {H : Hp} {s : Shared} {Q : VK} {us : List Value} {vs : List V} (F : FnG X.prog X.w X.K X.mg X.base CX k f fd ps sp) (hq : Quiet X.A) (hr : Room k X.A) (hb : Binds X.K fd ps [])
    (hx : Passes CX X E) (I : Inv X pn sg H s) (r : Vals vs us) (h : sp vs H Q E) : wpAny (model X.prog X.w) X.A (call (.ref f) us) (EP X pn sg Q) X.xe s := by
  have hl : (us ++ ([] : List Value)).length = ps.length := by rw [List.append_nil, ← r.length]; exact F.len _ _ _ _ h
  have hbs := hb s us I.kIn hl
  rw [List.append_nil] at hbs
  refine wpAny_call (codeAny_mono (F.go X.A X.stack s H ⟨us, []⟩ us vs Q E hq hr I.env0 hbs r h) fun res s' z => ?_)
  match res, z with
  | .error er, z => exact hx pn sg H s er s' I z
  | .ok (.ret u), z => exact I.after z
  | .ok .next, z => exact False.elim z
  | .ok .brk, z => exact False.elim z
  | .ok .cont, z => exact False.elim z
theorem pe_callG (F : FnG X.prog X.w X.K X.mg X.base CX k f fd ps sp) (hq : Quiet X.A) (hr : Room k X.A) (hg : Gl X x) (hm : X.mg x = some (.ref f)) (hk : PySem.W.keepIn X.K (.ref f) = true) (hb : Binds X.K fd ps []) (hx : Passes CX X E)
    (ha : PA X (e :: es) t) (hdb : (x == ("__debug__" : Str)) = false) (he : starEach (e :: es) X.env = (false, eval e X.env) :: starEach es X.env) (hpl : (backTo pos (starEach es X.env)).any (·.1) = false) :
    PE X (.Call (.Name x p) (e :: es) [] pos) (tCall sp [] E t) := ⟨fun pn s sg H Q I h =>
  wpAny_Call_Name_kw (ld_glob I hg hm (PySem.W.callWith_K (h₀ := X.base) I.ok.mod.kin hk (thn (ha.run pos pn s sg H _ I h) fun us s1 ⟨vs, H1, I1, r, q⟩ => ⟨I1.kIn, runG F hq hr hb hx I1 r (by simp only [List.append_nil] at q; exact q)⟩) he hpl) hdb)⟩
end
/-- a def of the text, by its body -/
theorem fn_ofG {CX : CXT} {P : Program} {wd : World} {K : PySem.W.Frag} {mg : Str → Option Value} {base : Heap} {k : Nat} {f : Addr} {nm ql : Str} {pars : Arguments} {bd : List Stmt} {sc : Scope} {dV kV doc pm cdv ct oc : Value} {an od : Option Addr}
    {osl : Array (Option Value)} {N ps : List Str} {sp : Sp} (lk : K.lookup f = some ⟨oc, od, .func (PySem.W.fnOf nm ql pars bd sc dV kV doc pm an cdv ct), osl⟩) (hcd : PySem.W.codeIn K cdv ql = true) (S : FnScope N ps sc)
    (len : ∀ vs H Q E, sp vs H Q E → vs.length = ps.length)
    (hb : ∀ (A : Around) (out : List Env) (s : Shared) (H : Hp) (vs : List V) (Q : VK) (E : XK), Quiet (A.deeper (envOfC ql sc s.heap.objs.size f cdv)) → Room k (A.deeper (envOfC ql sc s.heap.objs.size f cdv)) → sp vs H Q E →
      ∃ t, PSs (cxOf CX P wd K mg base N ql sc f cdv A out s H E) bd t ∧ t { nx := fun _ H' => Q .non H', rt := Q } (start N vs) H) :
    FnG P wd K mg base CX (k + 1) f (PySem.W.fnOf nm ql pars bd sc dV kV doc pm an cdv ct) ps sp := by
  refine ⟨len, fun A out s H az us vs Q E hgd hr e0 hbt r hsp => ?_⟩
  have hl := len _ _ _ _ hsp
  have KX : K.In s.heap := e0.mod.kin.keeps fun b o q => (e0.bs b o q).1
  have nl : s.heap.NoLimit := e0.mod.nolimit.keeps fun b o q => (e0.bs b o q).1
  have kinds : ∀ y ∈ ps.zip us, sc.names.lookup y.1 = some .local ∨ (sc.names.lookup y.1 = some .cell ∧ ((cellsFrom (s.heap.objs.size + 1) sc.names []).lookup y.1).isSome = true) := by
    rintro ⟨n, v⟩ hy
    rcases S.par n (List.of_mem_zip hy).1 with q | q
    · exact .inl q
    · exact .inr ⟨q, PySem.W.cellsFrom_some _ _ _ (.inl q)⟩
  refine codeAny_call_function hr.depth (KX _ _ lk) rfl S.co S.gen rfl (PySem.W.codeRec_of KX hcd) (hbt _ _ _ _ (wpAny_newFunctionEnv_cells S.kind kinds fun env he s1 x => ?_))
  subst he
  obtain ⟨t, ht, hq⟩ := hb A out s H vs Q E (hgd.deeper _) (hr.deeper _) hsp
  refine ⟨nl.keeps x.toInCall.keep, codeAny_func (wpAny_mono (ht.run [] s1 (start N vs) H _ (inv_start S hr.hd e0 hl r x) hq) (fun fl s' z => ?_) fun _ _ z => z)⟩
  have fin : ∀ {σ' : L2.St} {H' : Hp} {v : V} {u : Value}, Inv (cxOf CX P wd K mg base N ql sc f cdv A out s H E) [] σ' H' s' → RelV v u → Q v H' → L2.CE out P wd H s Q u s' :=
    fun {_ H' v _} J rv q => ⟨v, H', J.os, J.bare, J.base, J.hok, rv, q⟩
  match fl, z with
  | .ret u, ⟨v, σ', H', J, rv, q⟩ => exact fin J rv q
  | .next, ⟨σ', H', J, q⟩ => exact fin (v := V.non) (u := Value.none) J rfl q
  | .brk, ⟨_, _, _, q⟩ => exact False.elim q
  | .cont, ⟨_, _, _, q⟩ => exact False.elim q
end DL

set_option Elab.async false
set_option linter.all false
set_option autoImplicit false
set_option maxRecDepth 100000
set_option maxHeartbeats 400000
namespace DL
open PySem L2 PySem.Spec PyProof.Rows

def rd (g : List DSem) (w : Wd) (ce : CE) : TE := fun sg H Q => ∃ kap G st δ d st', Ok w kap G st H ∧ Slots w kap G δ sg ∧ ev g w.flds ce δ st = some (d, st') ∧ Post w kap G H st' d Q
def rdT (g : List DSem) (w : Wd) (ce : CE) : TT := fun sg H Q => ∃ kap G st δ d st' b, Ok w kap G st H ∧ Slots w kap G δ sg ∧ ev g w.flds ce δ st = some (d, st') ∧ truthD d = some b ∧ ∀ kap' G' H', Step kap G H kap' G' H' → Ok w kap' G' st' H' → Q b H'
def PostA (w : Wd) (kap : List Addr) (G H : Hp) (st' : S) (rs : List R) (Q : List V → Hp → Prop) : Prop := ∀ vs kap' G' H', Step kap G H kap' G' H' → Ok w kap' G' st' H' → DenRs w kap' G' rs vs → Q vs H'
def rdA (g : List DSem) (w : Wd) (ca : CA) : TA := fun sg H Q => ∃ kap G st δ rs st', Ok w kap G st H ∧ Slots w kap G δ sg ∧ evA g w.flds ca δ st = some (rs, st') ∧ PostA w kap G H st' rs Q

def CX0 : CXT := fun _ _ _ _ _ _ => False
def spD (w : Wd) (sem : DSem) : Sp := fun vs H Q _ => ∃ kap G st rs r st', Ok w kap G st H ∧ DenRs w kap G rs vs ∧ sem rs st = some (r, st') ∧ PostR w kap G H st' r Q
/-- what an __init__ promises: sem tells of the instance -/
def spI (w : Wd) (C : Nat) (sem : DSem) : Sp := fun vs H Q _ => ∃ x dx us H0 kap G st rs d st', vs = .ref x :: us ∧ H = upd (upd H0 dx (.own x)) x (.ins (w.cls C) dx []) ∧ H0 x = none ∧ H0 dx = none ∧ dx ≠ x ∧
  Ok w kap G st H0 ∧ DenRs w kap G rs us ∧ sem rs st = some (.d d, st') ∧ ∀ kap' G' H', Step kap G H0 kap' G' H' → Ok w kap' G' st' H' → Den w G' d (.ref x) → Q .non H'
structure FnAt (w : Wd) (kk : Nat) (X : Cx) (f : Addr) (sp : Sp) : Prop where
  ok : ∃ fd ps, Binds X.K fd ps [] ∧ FnOk X.prog X.w X.K X.mg X.base CX0 kk f fd ps sp
/-- what a def that calls the lambda it gets makes of it -/
def TT0 : (XK → Hp → VK → Prop) → Hp → VK → Prop := fun tl H Q => tl (fun _ _ _ => False) H Q
def LamDep (w : Wd) (X : Cx) (x : Str) : Prop :=
  ∃ (a : Str) (g c P : Addr) (pg : Arguments) (bg : List Stmt) (sg : Scope) (dV kV doc pm cdv ct oc : Value) (an od : Option Addr) (osl : Array (Option Value)) (Ng : List Str), X.mg x = some (.ref g) ∧ PySem.W.keepIn X.K (.ref g) = true ∧
    X.K.lookup g = some ⟨oc, od, .func (PySem.W.fnOf x x pg bg sg dV kV doc pm an cdv ct), osl⟩ ∧ PySem.W.codeIn X.K cdv x = true ∧ Binds X.K (PySem.W.fnOf x x pg bg sg dV kV doc pm an cdv ct) [a] [] ∧ FnScope Ng [a] sg ∧ Ng[0]? = some a ∧ Vis sg a ∧
    LamX.TabB X.base X.mg c P ∧ X.env.code = .ref c ∧ (P, X.env.qual ++ "<lambda>") ∈ w.T ∧ (∀ p ∈ w.T, p.1 = P → p.2 = X.env.qual ++ "<lambda>") ∧ LamX.GivesTo X Ng x sg g cdv bg a (X.env.qual ++ "<lambda>") TT0 ∧ (a == ("__debug__" : Str)) = false ∧ (a == ("__classdict__" : Str)) = false
/-- a lambda that is a key -/
def LamDep1 (w : Wd) (X : Cx) : Prop := ∃ c P : Addr, LamX.TabB X.base X.mg c P ∧ X.env.code = .ref c ∧ (P, X.env.qual ++ "<lambda>") ∈ w.T ∧ ∀ p ∈ w.T, p.1 = P → p.2 = X.env.qual ++ "<lambda>"
/-- a fresh list -/
def PostF (w : Wd) (kap : List Addr) (G H : Hp) (st' : S) (xs : List D) (Q : VK) : Prop :=
  ∀ a vs kap' G' H', Step kap G H kap' G' H' → Ok w kap' G' st' H' → G' a = none → a ∉ kap' → H' a = some (.lst vs) → Dens w G' xs vs → (∀ o, H a = some o → ¬ notTbl o) → Q (.ref a) H'
def spF (w : Wd) (sem : DSem) : Sp := fun vs H Q _ => ∃ kap G st rs xs st', Ok w kap G st H ∧ DenRs w kap G rs vs ∧ sem rs st = some (.d (.lst xs), st') ∧ PostF w kap G H st' xs Q
/-- a pair of fresh lists -/
def PostP (w : Wd) (kap : List Addr) (G H : Hp) (st' : S) (xs ys : List D) (Q : VK) : Prop :=
  ∀ t a c vs us kap' G' H', Step kap G H kap' G' H' → Ok w kap' G' st' H' → G' a = none → a ∉ kap' → H' a = some (.lst vs) → Dens w G' xs vs → (∀ o, H a = some o → ¬ notTbl o) →
    G' c = none → c ∉ kap' → H' c = some (.lst us) → Dens w G' ys us → (∀ o, H c = some o → ¬ notTbl o) → a ≠ c → H' t = some (.tup [.ref a, .ref c]) → Q (.ref t) H'
def spP (w : Wd) (sem : DSem) : Sp := fun vs H Q _ => ∃ kap G st rs xs ys st', Ok w kap G st H ∧ DenRs w kap G rs vs ∧ sem rs st = some (.d (.tup [.lst xs, .lst ys]), st') ∧ PostP w kap G H st' xs ys Q
structure FnAtG (w : Wd) (kk : Nat) (X : Cx) (f : Addr) (sp : Sp) : Prop where
  ok : ∃ fd ps, Binds X.K fd ps [] ∧ FnG X.prog X.w X.K X.mg X.base CX0 kk f fd ps sp
/-- isinstance of the own class at a -/
def KitC (K : PySem.W.Frag) (a : Addr) : Prop := PySem.W.kitOne K (.ref a) (.ref a) = some true ∧ ∀ n ∈ (["NoneType", "bool", "int", "str", "list", "tuple", "dict"] : List String), PySem.W.kitOne K (.type n) (.ref a) = some false
def DepOk (w : Wd) (kk : Nat) (X : Cx) : Dep → DSem → Prop
  | .fn x, sem => ∃ f, X.mg x = some (.ref f) ∧ PySem.W.keepIn X.K (.ref f) = true ∧ FnAt w kk X f (spD w sem)
  | .mk x, sem => ∃ C f, X.mg x = some (.ref (w.cls C)) ∧ Mk X.K (w.cls C) f ∧ FnAt w kk X f (spI w C sem)
  | .prop x, sem => ∀ C, ∃ p f, PropOf X.K (w.cls C) x p f ∧ FnAt w kk X f (spD w sem)
  | .len, sem => ∀ C, ∃ f, PySem.W.findIn X.K (.ref (w.cls C)) "__len__" = some (some (.ref f)) ∧ PySem.W.isFn X.K (.ref f) = true ∧ FnAt w kk X f (spD w sem)
  | .tld x, _ => LamDep w X x
  | .lamk, _ => LamDep1 w X
  | .fnF x, sem => ∃ f, X.mg x = some (.ref f) ∧ PySem.W.keepIn X.K (.ref f) = true ∧ FnAt w kk X f (spF w sem)
  | .fnP x, sem => ∃ f, X.mg x = some (.ref f) ∧ PySem.W.keepIn X.K (.ref f) = true ∧ FnAt w kk X f (spP w sem)
  | .fnG x, sem => ∃ f, X.mg x = some (.ref f) ∧ PySem.W.keepIn X.K (.ref f) = true ∧ FnAtG w kk X f (spD w sem)
  | .fnD x i, sem => ∃ f, X.mg x = some (.ref f) ∧ PySem.W.keepIn X.K (.ref f) = true ∧ ∃ (fd : FuncData) (ps : List Str) (u : Value) (sem0 : DSem), Binds X.K fd ps [u] ∧ RelV (.int i) u ∧ FnOk X.prog X.w X.K X.mg X.base CX0 kk f fd ps (spD w sem0) ∧ sem = fun as s => sem0 (as ++ [.d (.int i)]) s
  | .cls x, _ => X.mg x = some (.ref (w.cls 0)) ∧ (∀ C, w.cls C = w.cls 0) ∧ KitC X.K (w.cls 0)
  | .strd, sem => ∀ C, ∃ f, PySem.W.findIn X.K (.ref (w.cls C)) "__str__" = some (some (.ref f)) ∧ PySem.W.isFn X.K (.ref f) = true ∧ FnAt w kk X f (spD w sem)
structure WOk (w : Wd) : Prop where
  cl : ∀ C, Cls w.K (w.cls C)
  na : ∀ C f, (w.flds C).contains f = true → NoAttr w.K (w.cls C) f
  ha : ∀ C, PySem.W.findIn w.K (.ref (w.cls C)) "__class__" = some (some (.builtin "object.__class__"))
  hn : PySem.W.specialIn w.K (.builtin "object.__class__") "__get__" = some (some (.builtin "getset_descriptor.__get__"))
  htk : PySem.W.takesIn w.K (.builtin "object.__class__") = some true
  hm : ∀ C, PySem.W.mroIn w.K (w.cls C) (.type "object") = some true
  kit : ∀ C (t : TyN), PySem.W.kitOne w.K (.ref (w.cls C)) (.type t.name) = some false
def GlobOk (X : Cx) (x : Str) (d : D) : Prop := (∃ i t, d = .int i ∧ X.mg x = some (.int i t)) ∨ ∃ z t, d = .str z ∧ X.mg x = some (.str z t)
structure Fit (w : Wd) (F : Fx) (g : List DSem) (kk : Nat) (X : Cx) : Prop where
  hk : X.K = w.K
  calm : X.calm = true
  rm : Room (kk + 2 + if F.lam then 3 else 0) X.A
  qt : F.gd = true → Quiet X.A
  N : X.N = F.N
  nd : F.N.Nodup
  wok : WOk w
  frees : ∀ x, F.frees.contains x = true → X.mg x = none
  globs : ∀ x d, F.globs.lookup x = some d → GlobOk X x d
  deps : ∀ (j : Nat) d f, F.deps[j]? = some d → g[j]? = some f → (d.lamy = true → F.lam = true) → DepOk w kk X d f
theorem Fit.room {w : Wd} {F : Fx} {g : List DSem} {kk : Nat} {X : Cx} (f : Fit w F g kk X) : Room (kk + 2) X.A := f.rm.mono (Nat.le_add_right _ _)
theorem Fit.hu {w : Wd} {F : Fx} {g : List DSem} {kk : Nat} {X : Cx} (f : Fit w F g kk X) : X.A.units + 200 < cLine := by
  have := f.room.un
  omega
/-- the scope that the text bears, and the one that runs -/
structure ScOk (X : Cx) (sc : Scope) : Prop where
  keep : ∀ x k, k ≠ .free → sc.names.lookup x = some k → X.env.scope.names.lookup x = some k
  free : ∀ x, sc.names.lookup x = some .free → X.env.scope.names.lookup x = some .free ∨ X.env.scope.names.lookup x = some .cell
  fn : ∀ x, sc.names.lookup x = some .cell → X.fn x = true
theorem visB_ok {X : Cx} {sc : Scope} (S : ScOk X sc) {x : Str} (h : visB sc x = true) : Vis X.env.scope x ∧ (x == ("__debug__" : Str)) = false ∧ (x == ("__classdict__" : Str)) = false := by
  unfold visB at h
  rw [Bool.and_eq_true, Bool.and_eq_true] at h
  obtain ⟨⟨h1, h2⟩, h3⟩ := h
  refine ⟨?_, by simpa using h2, by simpa using h3⟩
  cases e : sc.names.lookup x with
  | none => rw [e] at h1; cases h1
  | some k =>
    rw [e] at h1
    cases k with
    | «local» => exact .inl (S.keep x _ (by decide) e)
    | cell => exact .inr (.inl (S.keep x _ (by decide) e))
    | free =>
      rcases S.free x e with q | q
      · exact .inr (.inr q)
      · exact .inr (.inl q)
    | _ => cases h1
theorem glB_ok {X : Cx} {sc : Scope} (S : ScOk X sc) {x : Str} (h : glB sc x = true) : Gl X x ∧ (x == ("__debug__" : Str)) = false ∧ x ≠ "__name__" := by
  unfold glB at h
  rw [Bool.and_eq_true, Bool.and_eq_true] at h
  obtain ⟨⟨h1, h2⟩, h3⟩ := h
  refine ⟨?_, by simpa using h2, by simpa using h3⟩
  cases e : sc.names.lookup x with
  | none => rw [e] at h1; cases h1
  | some k =>
    rw [e] at h1
    cases k with
    | globalImplicit => exact S.keep x _ (by decide) e
    | _ => cases h1
theorem locB_ok {X : Cx} {sc : Scope} (S : ScOk X sc) {x : Str} (h : locB sc x = true) : Loc X.env.scope x ∧ (X.fn x = true ∨ X.env.scope.names.lookup x = some .local) := by
  unfold locB at h
  cases e : sc.names.lookup x with
  | none => rw [e] at h; cases h
  | some k =>
    rw [e] at h
    cases k with
    | «local» => exact ⟨.inl (S.keep x _ (by decide) e), .inr (S.keep x _ (by decide) e)⟩
    | cell => exact ⟨.inr (S.keep x _ (by decide) e), .inl (S.fn x e)⟩
    | _ => cases h

theorem starEach_cons {e : Expr} {es : List Expr} {env : Env} (h : star e = false) : starEach (e :: es) env = (false, eval e env) :: starEach es env := by
  cases e <;> first | rfl | cases h
theorem noSlice_ix {e : Expr} (h : noSlice e = true) : PlainIx e := by
  intro o i
  cases e <;> first | rfl | cases h
theorem noBare_base {o : Expr} {n : Str} {env : Env} {t : Sem Value} (h : noBare o = true) : attributeBase o n env t = t := by
  cases o with
  | Call f xs ks p =>
    cases f with
    | Name x q =>
      cases xs with
      | nil =>
        cases ks with
        | nil => cases h
        | cons _ _ => rfl
      | cons _ _ => rfl
    | _ => rfl
  | _ => rfl

section
variable {w : Wd} {F : Fx} {g : List DSem} {kk : Nat} {X : Cx}
theorem dens_of {kap : List Addr} {G : Hp} : ∀ {rs : List R} {vs : List V} {xs : List D}, DenRs w kap G rs vs → dsOf rs = some xs → Dens w G xs vs
  | _, _, xs, .nil, h => by
    have e : ([] : List D) = xs := Option.some.inj h
    subst e
    exact .nil
  | _, _, xs, .cons (r := r) (rs := rs) q t, h => by
    cases r with
    | d x =>
      obtain ⟨ys, h1, rfl⟩ := Option.map_eq_some_iff.mp (show (dsOf rs).map (x :: ·) = some xs from h)
      exact .cons q (dens_of t h1)
    | c k => cases h
theorem postA_of {kap : List Addr} {G H : Hp} {st' : S} {rs : List R} {Q : List V → Hp → Prop} {xs : List D} (h : dsOf rs = some xs)
    (q : ∀ vs kap' G' H', Step kap G H kap' G' H' → Ok w kap' G' st' H' → Dens w G' xs vs → Q vs H') : PostA w kap G H st' rs Q := fun vs kap' G' H' s k r => q vs kap' G' H' s k (dens_of r h)

theorem r_nev {e : Expr} : PE X e (rd g w .nev) := ⟨fun _ _ _ _ _ _ ⟨_, _, _, _, _, _, _, _, h, _⟩ => nomatch h⟩
theorem r_var {i : Nat} {x : Str} {p : Pos} (hN : X.N[i]? = some x) (v : Vis X.env.scope x ∧ (x == ("__debug__" : Str)) = false ∧ (x == ("__classdict__" : Str)) = false) : PE X (.Name x p) (rd g w (.var i)) :=
  PE.of (pe_var hN v.1 v.2.1 v.2.2) fun sg H Q ⟨kap, G, st, δ, d, st', k, sl, h, q⟩ => by
    obtain ⟨y, h1, h2⟩ := Option.map_eq_some_iff.mp (show (atD δ i).map (fun x => (x, st)) = some (d, st') from h)
    cases h2
    have e : δ[i]? = some (some (.d d)) := by
      unfold atD at h1
      split at h1
      · rename_i z e; cases h1; exact e
      · cases h1
    obtain ⟨v, h3, h4⟩ := sl.at_ i _ e
    exact ⟨v, h3, q.here k h4⟩
theorem r_const {e : Expr} {ce : CE} {v : V} {d : D} (h : PE X e (tC v)) (hd : ∀ δ st, ev g w.flds ce δ st = some (d, st)) (r : ∀ G, Den w G d v) : PE X e (rd g w ce) :=
  PE.of h fun sg H Q ⟨kap, G, st, δ, d', st', k, sl, h, q⟩ => by
    rw [hd] at h
    cases h
    exact q.here k (r G)
theorem r_glob {x : Str} {d : D} {p : Pos} (gl : Gl X x ∧ (x == ("__debug__" : Str)) = false ∧ x ≠ "__name__") (h : GlobOk X x d) : PE X (.Name x p) (rd g w (.glob x d)) := by
  rcases h with ⟨i, t, rfl, hm⟩ | ⟨z, t, rfl, hm⟩
  · exact r_const (pe_glob (v := .int i) gl.1 hm ⟨t, rfl⟩ gl.2.1) (fun _ _ => rfl) fun _ => .int i
  · exact r_const (pe_glob (v := .str z) gl.1 hm ⟨t, rfl⟩ gl.2.1) (fun _ _ => rfl) fun _ => .str z
/-- two operands in a row -/
theorem r2_of {a b : CE} {sg : L2.St} {H : Hp} {kap : List Addr} {G : Hp} {st s1 s2 : S} {δ : EnvR} {d e : D} {Q : V → V → Hp → Prop} (k : Ok w kap G st H) (sl : Slots w kap G δ sg) (ha : ev g w.flds a δ st = some (d, s1)) (hb : ev g w.flds b δ s1 = some (e, s2))
    (q : ∀ x y kap' G' H', Step kap G H kap' G' H' → Ok w kap' G' s2 H' → Den w G' d x → Den w G' e y → Q x y H') : rd g w a sg H fun x H1 => rd g w b sg H1 fun y H2 => Q x y H2 :=
  ⟨kap, G, st, δ, d, s1, k, sl, ha, fun x kap1 G1 H1 S1 k1 r1 => ⟨kap1, G1, s1, δ, e, s2, k1, sl.mono S1.g S1.k, hb, fun y kap2 G2 H2 S2 k2 r2 => q x y kap2 G2 H2 (S1.trans S2) k2 (r1.mono S2.g) r2⟩⟩
theorem ev2 {a b : CE} {δ : EnvR} {st st' : S} {z : D} {phi : D → D → Option D} (h : (ev g w.flds a δ st).bind (fun p => (ev g w.flds b δ p.2).bind fun q => (phi p.1 q.1).map fun z => (z, q.2)) = some (z, st')) :
    ∃ d s1 e, ev g w.flds a δ st = some (d, s1) ∧ ev g w.flds b δ s1 = some (e, st') ∧ phi d e = some z := by
  obtain ⟨⟨d, s1⟩, h1, h⟩ := Option.bind_eq_some_iff.mp h
  obtain ⟨⟨e, s2⟩, h2, h⟩ := Option.bind_eq_some_iff.mp h
  obtain ⟨y, h3, h4⟩ := Option.map_eq_some_iff.mp h
  cases h4
  exact ⟨d, s1, e, h1, h2, h3⟩
theorem r_bin {op : Operator} {a b : CE} {x y : Expr} {p : Pos} (FT : Fit w F g kk X) (ha : PE X x (rd g w a)) (hb : PE X y (rd g w b)) : PE X (.BinOp x op y p) (rd g w (.bin op a b)) :=
  PE.of (pe_op (bin_ok FT.hk op).r ha hb) fun sg H Q ⟨kap, G, st, δ, z, st', k, sl, h, q⟩ => by
    obtain ⟨d, s1, e, h1, h2, h3⟩ := ev2 h
    exact r2_of k sl h1 h2 fun x y kap1 G1 H1 S k1 rx ry => ⟨kap1, G1, st', d, e, z, k1, rx, ry, h3, q.pre S⟩
theorem r_neg {a : CE} {x : Expr} {p : Pos} (ha : PE X x (rd g w a)) : PE X (.UnaryOp .USub x p) (rd g w (.neg a)) :=
  PE.of (pe_un un_neg ha) fun sg H Q ⟨kap, G, st, δ, z, st', k, sl, h, q⟩ => by
    obtain ⟨⟨d, s1⟩, h1, h⟩ := Option.bind_eq_some_iff.mp h
    obtain ⟨i, h3, h4⟩ := Option.map_eq_some_iff.mp h
    cases h4
    have ed : d = .int i := by
      cases d <;> cases h3
      rfl
    subst ed
    exact ⟨kap, G, st, δ, _, s1, k, sl, h1, fun v kap1 G1 H1 S k1 r => by
      cases r
      exact ⟨i, rfl, (q.pre S).here k1 (.int _)⟩⟩
theorem r_cmp {op : CmpOp} {a b : CE} {x y : Expr} {p : Pos} (FT : Fit w F g kk X) (ha : PE X x (rd g w a)) (hb : PE X y (rd g w b)) (hm : behindInMarks op y = false) : PE X (.Compare x [op] [y] p) (rd g w (.cmp op a b)) :=
  PE.of (pe_cmpR (cmp_ok FT.hk (by have := FT.hu; omega) op).r ha hb hm) fun sg H Q ⟨kap, G, st, δ, z, st', k, sl, h, q⟩ => by
    obtain ⟨d, s1, e, h1, h2, h3⟩ := ev2 h
    exact r2_of k sl h1 h2 fun x y kap1 G1 H1 S k1 rx ry => ⟨kap1, G1, st', d, e, z, k1, rx, ry, h3, q.pre S⟩
theorem r_chain {o1 o2 : CmpOp} {a b c : CE} {x y z : Expr} {p : Pos} (FT : Fit w F g kk X) (ha : PE X x (rd g w a)) (hb : PE X y (rd g w b)) (hc : PE X z (rd g w c)) (hm : lastMarks [o1, o2] [y, z] = false) :
    PE X (.Compare x [o1, o2] [y, z] p) (rd g w (.chain o1 o2 a b c)) :=
  PE.of (pe_chain (cmp_ok FT.hk (by have := FT.hu; omega) o1).r (cmp_ok FT.hk (by have := FT.hu; omega) o2).r ha hb hc hm) fun sg H Q ⟨kap, G, st, δ, z, st', k, sl, h, q⟩ => by
    obtain ⟨⟨d, s1⟩, h1, h⟩ := Option.bind_eq_some_iff.mp h
    obtain ⟨⟨e, s2⟩, h2, h⟩ := Option.bind_eq_some_iff.mp h
    refine r2_of k sl h1 h2 fun x y kap1 G1 H1 S k1 rx ry => ?_
    cases hc : cmpD o1 d e with
    | none => simp only [hc] at h; cases h
    | some t =>
      refine ⟨kap1, G1, s2, d, e, t, k1, rx, ry, hc, fun v kap2 G2 H2 S2 k2 rv => ?_⟩
      simp only [hc] at h
      cases t with
      | bl b =>
        cases rv
        refine ⟨b, rfl, ?_⟩
        cases b with
        | false =>
          cases h
          exact (q.pre (S.trans S2)).here k2 (.bl _)
        | true =>
          obtain ⟨⟨f, s3⟩, h3, h⟩ := Option.bind_eq_some_iff.mp h
          obtain ⟨u, h4, h5⟩ := Option.map_eq_some_iff.mp h
          cases h5
          exact ⟨kap2, G2, s2, δ, f, s3, k2, sl.mono (S.g.trans S2.g) (S.k.trans S2.k), h3, fun v3 kap3 G3 H3 S3 k3 r3 =>
            ⟨kap3, G3, _, e, f, _, k3, (ry.mono S2.g).mono S3.g, r3, h4, q.pre ((S.trans S2).trans S3)⟩⟩
      | _ => cases h
theorem r_one {op : BoolOp} {a : CE} {x : Expr} {p : Pos} (ha : PE X x (rd g w a)) : PE X (.BoolOp op [x] p) (rd g w (.one a)) := PE.of (pe_one ha) fun sg H Q h => h
theorem r_and {a r : CE} {x y : Expr} {l : List Expr} {p : Pos} (ha : PE X x (rd g w a)) (hb : PE X (.BoolOp .And (y :: l) p) (rd g w r)) : PE X (.BoolOp .And (x :: y :: l) p) (rd g w (.andc a r)) :=
  PE.of (pe_and ha hb) fun sg H Q ⟨kap, G, st, δ, z, st', k, sl, h, q⟩ => by
    obtain ⟨⟨d, s1⟩, h1, h⟩ := Option.bind_eq_some_iff.mp h
    refine ⟨kap, G, st, δ, d, s1, k, sl, h1, fun v kap1 G1 H1 S k1 rv => ?_⟩
    cases d with
    | bl b =>
      cases rv
      refine ⟨b, rfl, ?_⟩
      cases b with
      | true => exact ⟨kap1, G1, s1, δ, z, st', k1, sl.mono S.g S.k, h, q.pre S⟩
      | false =>
        cases h
        exact (q.pre S).here k1 (.bl _)
    | _ => cases h
theorem r_or {a r : CE} {x y : Expr} {l : List Expr} {p : Pos} (ha : PE X x (rd g w a)) (hb : PE X (.BoolOp .Or (y :: l) p) (rd g w r)) : PE X (.BoolOp .Or (x :: y :: l) p) (rd g w (.orc a r)) :=
  PE.of (pe_or ha hb) fun sg H Q ⟨kap, G, st, δ, z, st', k, sl, h, q⟩ => by
    obtain ⟨⟨d, s1⟩, h1, h⟩ := Option.bind_eq_some_iff.mp h
    refine ⟨kap, G, st, δ, d, s1, k, sl, h1, fun v kap1 G1 H1 S k1 rv => ?_⟩
    cases d with
    | bl b =>
      cases rv
      refine ⟨b, rfl, ?_⟩
      cases b with
      | false => exact ⟨kap1, G1, s1, δ, z, st', k1, sl.mono S.g S.k, h, q.pre S⟩
      | true =>
        cases h
        exact (q.pre S).here k1 (.bl _)
    | _ => cases h
theorem r_not {a : CE} {x : Expr} {p : Pos} (ha : PE X x (rd g w a)) : PE X (.UnaryOp .Not x p) (rd g w (.not a)) :=
  PE.of (pe_not ha) fun sg H Q ⟨kap, G, st, δ, z, st', k, sl, h, q⟩ => by
    obtain ⟨⟨d, s1⟩, h1, h⟩ := Option.bind_eq_some_iff.mp h
    refine ⟨kap, G, st, δ, d, s1, k, sl, h1, fun v kap1 G1 H1 S k1 rv => ?_⟩
    cases d with
    | bl b =>
      cases rv
      cases h
      exact ⟨b, rfl, (q.pre S).here k1 (.bl _)⟩
    | _ => cases h
/-- an expression as a test -/
theorem tru_den {G H : Hp} {d : D} {v : V} {b : Bool} {kap : List Addr} {st : S} (hk : X.K = w.K) (k : Ok w kap G st H) (r : Den w G d v) (h : truthD d = some b) : TruV X.K v H b := by
  cases r with
  | non => cases h; rfl
  | bl _ => cases h; rfl
  | int _ => cases h; rfl
  | str _ => cases h
  | lst s t =>
    cases h
    refine .inl ⟨_, by rw [hk]; exact k.le.sl s, ?_⟩
    cases t <;> rfl
  | tup s o t =>
    cases h
    refine .inr (.inl ⟨_, k.le.st (frzT s), ?_⟩)
    cases t <;> rfl
  | ins => cases h
  | emp => cases h
end
end DL

set_option Elab.async false
set_option linter.all false
set_option autoImplicit false
set_option maxRecDepth 100000
set_option maxHeartbeats 400000
namespace DL
open PySem L2 PySem.Spec PyProof.Rows
section
variable {prog : Program} {w : World} {A : Around} {E : Value → Shared → Prop} {s : Shared}
theorem places_back (n : Nat) : Builtin.Slice.slicePlaces ((n : Int) - 1) (-1) (-1) = n := by
  unfold Builtin.Slice.slicePlaces
  rw [if_neg (by decide)]
  by_cases h : (n : Int) - 1 > -1
  · rw [if_pos h]
    have e : (- -1 : Int) = 1 := by decide
    rw [e, Int.ediv_one]
    omega
  · rw [if_neg h]
    omega
theorem adjust_back (n : Nat) : Builtin.Slice.sliceAdjust none none (-1) (n : Int) = ((n : Int) - 1, -1) := by
  first | rfl | simp [Builtin.Slice.sliceAdjust]
theorem applied_back {sl : Addr} {vl vu vs : Value} {n : Nat} {Q : Int × Int × Nat → Shared → Prop} (hs : s.heap.IsSliceOf sl vl vu vs) (pl : IsPart vl none) (pu : IsPart vu none) (ps : IsPart vs (some (-1))) (h : Q ((n : Int) - 1, -1, n) s) :
    wpAny (model prog w) A (Builtin.Slice.sliceApplied (.ref sl) (pure (n : Int))) Q E s := by
  obtain ⟨os, hos, hcs, hds⟩ := id hs
  unfold Builtin.Slice.sliceApplied Builtin.Slice.sliceFields
  refine wpAny_bind (wpAny_bind (wpAny_field hos hds (x := vl) rfl (wpAny_bind (wpAny_field hos hds (x := vu) rfl (wpAny_bind (wpAny_field hos hds (x := vs) rfl (wpAny_pure ?_)))))))
  refine wpAny_bind (HT.slicePart_ ps ?_)
  show wpAny _ _ (if ((-1 : Int) == 0) = true then _ else _) _ _ s
  rw [if_neg (by decide)]
  refine wpAny_bind (HT.slicePart_ pl (wpAny_bind (HT.slicePart_ pu (wpAny_bind (wpAny_pure ?_)))))
  show wpAny _ _ (match Builtin.Slice.sliceAdjust none none (-1) (n : Int) with | (lo, hi) => pure (lo, (-1 : Int), Builtin.Slice.slicePlaces lo hi (-1))) _ _ s
  rw [adjust_back n]
  show wpAny _ _ (pure ((n : Int) - 1, (-1 : Int), Builtin.Slice.slicePlaces ((n : Int) - 1) (-1) (-1))) _ _ s
  rw [places_back]
  exact wpAny_pure h
theorem fm_congr {α β : Type} {f g : α → Option β} : ∀ {l : List α}, (∀ a ∈ l, f a = g a) → l.filterMap f = l.filterMap g
  | [], _ => rfl
  | a :: l, h => by
    rw [List.filterMap_cons, List.filterMap_cons, h a List.mem_cons_self, fm_congr fun b hb => h b (List.mem_cons_of_mem _ hb)]
theorem pick_back (xs : Array Value) : ((List.range xs.size).filterMap fun (m : Nat) => xs[((xs.size : Int) - 1 + (m : Int) * (-1)).toNat]?).toArray = xs.toList.reverse.toArray := by
  have e : (List.range xs.size).filterMap (fun (m : Nat) => xs[((xs.size : Int) - 1 + (m : Int) * (-1)).toNat]?) = ((List.range xs.size).map fun k => xs.size - 1 - k).filterMap (xs[·]?) := by
    rw [List.filterMap_map]
    refine fm_congr fun m hm => ?_
    have := List.mem_range.mp hm
    have e2 : ((xs.size : Int) - 1 + (m : Int) * (-1)).toNat = xs.size - 1 - m := by omega
    show xs[((xs.size : Int) - 1 + (m : Int) * (-1)).toNat]? = xs[xs.size - 1 - m]?
    rw [e2]
  rw [e, PySem.W.krv_range, List.filterMap_reverse, PySem.W.krv_all]
theorem getItem_tup_back {t sl : Addr} {items : Array Value} {vl vu vs : Value} {Q : Value → Shared → Prop} (ht : IsTup s.heap t items) (hs : s.heap.IsSliceOf sl vl vu vs) (pl : IsPart vl none) (pu : IsPart vu none) (ps : IsPart vs (some (-1)))
    (h : Q (.ref s.heap.objs.size) { s with heap := s.heap.push { cls := .type "tuple", data := .seq items.toList.reverse.toArray } }) (hsz : items.size ≤ sizeLine) : wpAny (model prog w) A (getItem (.ref t) (.ref sl)) Q E s := by
  obtain ⟨os, hos, hcs, hds⟩ := id hs
  have hTs : s.TypeIs (.ref sl) "slice" := ⟨os, hos, hcs⟩
  unfold getItem
  try with_reducible refine wpAny_holding ?_
  first | refine wpAny_bind (wpAny_pure ?_) | skip
  refine wpAny_bind (wpAny_sequenceKey ht.typeIs (by decide) ?_)
  refine wpAny_bind (wpAny_callSpecial?_slot (name := Str.ofString "__getitem__") ht.typeIs PyProof.Rows.slot_tuple_getitem
    (wpAny_call_entry PyProof.Rows.slot_tuple_getitem ht.typeIs entry_tuple_getitem ?_ (args_tuple_getitem _ _)))
  show wpAny _ _ (Builtin.Tuple.tupleItemsOf (.ref t) >>= _) _ _ s
  refine wpAny_bind (tupleItemsOf_ ht ?_)
  refine wpAny_bind (wpAny_typeOf hTs ?_)
  rw [if_pos (by decide)]
  refine wpAny_bind (applied_back hs pl pu ps ?_)
  have hno : ¬ ((((items.size : Int) - 1) == 0 && (-1 : Int) == 1 && items.size == items.size) = true) := by simp
  show wpAny _ _ (if ((((items.size : Int) - 1) == 0 && (-1 : Int) == 1 && items.size == items.size) = true) then _ else _) _ _ s
  rw [if_neg hno, pick_back]
  have hts : sizeOk (.seq items.toList.reverse.toArray) := by
    show items.toList.reverse.toArray.size ≤ sizeLine
    rw [List.size_toArray, List.length_reverse, Array.length_toList]
    exact hsz
  first
    | exact wpAny_bind (m := Builtin.Tuple.tupleExact _) (wpAny_newObj_type (wpAny_pure ⟨_, rfl, wpAny_pure h⟩) hts)
    | exact wpAny_bind (wpAny_bind (m := Builtin.Tuple.tupleExact _) (wpAny_newObj_type (wpAny_pure ⟨_, rfl, wpAny_pure h⟩) hts))
end
/-- t[::-1] of a tuple -/
def tRevT (K : PySem.W.Frag) (te : TE) : TE := fun sg H Q => te sg H fun x H1 => ∃ a xs, x = .ref a ∧ ((SqL K H1 a xs ∧ ∀ p, H1 p = none → Q (.ref p) (upd H1 p (.lst xs.reverse))) ∨ (SqT K H1 a xs ∧ ∀ p, H1 p = none → ∀ o, TupO o → Q (.ref p) (upd H1 p (.frz o (.tup xs.reverse)))))
section
variable {X : Cx}
theorem pe_revA {e : Expr} {te : TE} {k : Nat} {p1 p2 p3 pos : Pos} (he : PE X e te) : PE X (.Subscript e (.Slice none none (some (.UnaryOp .USub (.Constant (.int 1) k p1) p2)) p3) pos) (tRevT X.K te) := by
  constructor
  intro pins s sg H Q I h
  refine Subscript_ (thn (he.run pins s sg H _ I h) fun v s1 ⟨x, H1, I1, r1, a, xs, ex, hq⟩ => ?_)
  subst ex
  cases r1
  have hst : PO X (some (.UnaryOp .USub (.Constant (.int 1) k p1) p2)) (tPart (tUn (rU fun i => .int (-i)) (tC (.int 1)))) := po_some (pe_un un_neg pe_int)
  refine wpAny_Slice (thn (po_none.run pins s1 sg H1 (fun o H2 => o = none ∧ H2 = H1) I1 ⟨rfl, rfl⟩) fun vl s2 ⟨l, H2, I2, pl, el, e2⟩ => ?_)
  subst el e2
  refine thn (po_none.run pins s2 sg H2 (fun o H3 => o = none ∧ H3 = H2) I2 ⟨rfl, rfl⟩) fun vu s3 ⟨u, H3, I3, pu, eu, e3⟩ => ?_
  subst eu e3
  refine thn (hst.run pins s3 sg H3 (fun o H4 => o = some (-1) ∧ H4 = H3) I3 ⟨1, rfl, -1, rfl, rfl, rfl⟩) fun vs s4 ⟨o, H4, I4, ps, eo, e4⟩ => ?_
  subst eo e4
  have I5 : Inv X pins sg H4 { s4 with heap := s4.heap.push { cls := .type "slice", data := .fields #[vl, vu, vs] } } := I4.kept (t' := s4.toks) fun b ob q => Heap.get?_push_of_some _ q
  show wpAny (model X.prog X.w) X.A (subscriptTail e (.Slice none none (some (.UnaryOp .USub (.Constant (.int 1) k p1) p2)) p3) (.ref a) (.ref s4.heap.objs.size)) (EP X pins sg Q) X.xe { s4 with heap := s4.heap.push { cls := .type "slice", data := .fields #[vl, vu, vs] } }
  rcases hq with ⟨hx, q⟩ | ⟨hx, q⟩
  · obtain ⟨its, r, ht, hz⟩ := I5.list hx
    have hlen := r.length
    refine tail_any (ops := [.ref a, .ref s4.heap.objs.size]) ht.isList.typeIs (PySem.slot_list_getitem.lookup) ?_ (by with_unfolding_all rfl)
    refine wpAny_getItem_list_slice ht.isList (Heap.IsSliceOf.new _ vl vu vs) pl pu ps (by decide) ?_ (by rw [List.size_toArray]; omega)
    rw [PySem.W.krv_pick]
    refine ⟨.ref _, _, I5.laid (t' := s4.toks) (o := .lst xs.reverse) (fun b ob q => Heap.get?_push_of_some _ q) (Nat.le_refl _) ?_, rfl, q _ (I5.hok.fresh (Nat.le_refl _))⟩
    exact ⟨by rw [List.length_reverse]; exact hz, _, 0, r.reverse, Heap.get?_push_size _ rfl⟩
  · obtain ⟨its, r, ht, hz⟩ := I5.tuple hx
    have hlen := r.length
    refine tail_any (ops := [.ref a, .ref s4.heap.objs.size]) ht.typeIs (PyProof.Rows.slot_tuple_getitem.lookup) ?_ (by with_unfolding_all rfl)
    refine getItem_tup_back ht (Heap.IsSliceOf.new _ vl vu vs) pl pu ps ?_ (by rw [List.size_toArray]; omega)
    exact ⟨.ref _, _, I5.laid (t' := s4.toks) (o := .frz { cls := .type "tuple", data := .seq its.reverse.toArray } (.tup xs.reverse)) (fun b u q => Heap.get?_push_of_some _ q) (Nat.le_refl _) ⟨Heap.get?_push_size _ rfl, by rw [List.length_reverse]; exact hz, its.reverse, r.reverse, IsTup.new _ _⟩, rfl, q _ (I5.hok.fresh (Nat.le_refl _)) _ ⟨rfl, rfl⟩⟩
end

section
variable {w : Wd} {F : Fx} {g : List DSem} {kk : Nat} {X : Cx}
theorem rt_nev {e : Expr} : PT X e (rdT g w .nev) := ⟨fun _ _ _ _ _ _ ⟨_, _, _, _, _, _, _, _, _, h, _⟩ => nomatch h⟩
theorem plainT_ok {e : Expr} (h : plainT e = true) (env : Env) (whole : Sem Value) : isTrue e env whole = (do let v ← whole; standAt e.pos; holding [v] (truthy v)) := by
  cases e with
  | UnaryOp op x p => cases op <;> first | rfl | cases h
  | BoolOp => cases h
  | IfExp => cases h
  | Compare => cases h
  | _ => rfl
theorem rt_plain {ce : CE} {e : Expr} (FT : Fit w F g kk X) (he : PE X e (rd g w ce)) (hp : plainT e = true) : PT X e (rdT g w ce) :=
  PT.of (pt_truth he (plainT_ok hp X.env)) fun sg H Q ⟨kap, G, st, δ, d, st', b, k, sl, h, hb, q⟩ =>
    ⟨kap, G, st, δ, d, st', k, sl, h, fun v kap1 G1 H1 S k1 r => ⟨b, tru_den FT.hk k1 r hb, q kap1 G1 H1 S k1⟩⟩
theorem cmpD_bl {op : CmpOp} {d e z : D} (h : cmpD op d e = some z) : ∃ b, z = .bl b := by
  unfold cmpD at h
  split at h <;> first
    | (cases h; exact ⟨_, rfl⟩)
    | (obtain ⟨_, rfl⟩ := if_some h; exact ⟨_, rfl⟩)
    | cases h
theorem tru_bl {b c : Bool} (h : truthD (.bl b) = some c) : b = c := Option.some.inj h
theorem rt_cmp {op : CmpOp} {a b : CE} {x y : Expr} {p : Pos} (FT : Fit w F g kk X) (ha : PE X x (rd g w a)) (hb : PE X y (rd g w b)) (hm : behindInMarks op y = false) : PT X (.Compare x [op] [y] p) (rdT g w (.cmp op a b)) :=
  PT.of (pt_cmpR (cmp_ok FT.hk (by have := FT.hu; omega) op).r ha hb hm) fun sg H Q ⟨kap, G, st, δ, z, st', c, k, sl, h, hc, q⟩ => by
    obtain ⟨d, s1, e, h1, h2, h3⟩ := ev2 h
    obtain ⟨t, rfl⟩ := cmpD_bl h3
    have e := tru_bl hc
    subst e
    refine r2_of k sl h1 h2 fun x y kap1 G1 H1 S k1 rx ry => ⟨kap1, G1, st', d, _, _, k1, rx, ry, h3, fun v kap2 G2 H2 S2 k2 r => ?_⟩
    cases r
    exact ⟨t, rfl, q kap2 G2 H2 (S.trans S2) k2⟩
theorem rt_chain {o1 o2 : CmpOp} {a b c : CE} {x y z : Expr} {p : Pos} (FT : Fit w F g kk X) (ha : PE X x (rd g w a)) (hb : PE X y (rd g w b)) (hc : PE X z (rd g w c)) (hm : lastMarks [o1, o2] [y, z] = false) :
    PT X (.Compare x [o1, o2] [y, z] p) (rdT g w (.chain o1 o2 a b c)) :=
  PT.of (pt_chain (cmp_ok FT.hk (by have := FT.hu; omega) o1).r (cmp_ok FT.hk (by have := FT.hu; omega) o2).r ha hb hc hm) fun sg H Q ⟨kap, G, st, δ, z, st', cc, k, sl, h, hcc, q⟩ => by
    obtain ⟨⟨d, s1⟩, h1, h⟩ := Option.bind_eq_some_iff.mp h
    obtain ⟨⟨e, s2⟩, h2, h⟩ := Option.bind_eq_some_iff.mp h
    refine r2_of k sl h1 h2 fun x y kap1 G1 H1 S k1 rx ry => ?_
    cases hc : cmpD o1 d e with
    | none => simp only [hc] at h; cases h
    | some t =>
      refine ⟨kap1, G1, s2, d, e, t, k1, rx, ry, hc, fun v kap2 G2 H2 S2 k2 rv => ?_⟩
      simp only [hc] at h
      cases t with
      | bl b =>
        cases rv
        refine ⟨b, rfl, ?_⟩
        cases b with
        | false =>
          cases h
          have e := tru_bl hcc
          subst e
          exact ⟨false, rfl, q kap2 G2 H2 (S.trans S2) k2⟩
        | true =>
          obtain ⟨⟨f, s3⟩, h3, h⟩ := Option.bind_eq_some_iff.mp h
          obtain ⟨u, h4, h5⟩ := Option.map_eq_some_iff.mp h
          cases h5
          obtain ⟨t2, ez⟩ := cmpD_bl h4
          subst ez
          have e := tru_bl hcc
          subst e
          exact ⟨kap2, G2, s2, δ, f, s3, k2, sl.mono (S.g.trans S2.g) (S.k.trans S2.k), h3, fun v3 kap3 G3 H3 S3 k3 r3 =>
            ⟨kap3, G3, _, e, f, _, k3, (ry.mono S2.g).mono S3.g, r3, h4, fun v4 kap4 G4 H4 S4 k4 r4 => by
              cases r4
              exact ⟨t2, rfl, q kap4 G4 H4 (((S.trans S2).trans S3).trans S4) k4⟩⟩⟩
      | _ => cases h
theorem rw_one {op : BoolOp} {a : CE} {x : Expr} {p : Pos} (ha : PT X x (rdT g w a)) : PW X (.BoolOp op [x] p) (rdT g w (.one a)) := by
  cases op with
  | And => exact ⟨fun wh pins s σ H Q I h => (pw_and1 ha).run wh pins s σ H Q I h⟩
  | Or => exact ⟨fun wh pins s σ H Q I h => (pw_or1 ha).run wh pins s σ H Q I h⟩
theorem rw_and {a r : CE} {x y : Expr} {l : List Expr} {p : Pos} (ha : PT X x (rdT g w a)) (hb : PW X (.BoolOp .And (y :: l) p) (rdT g w r)) : PW X (.BoolOp .And (x :: y :: l) p) (rdT g w (.andc a r)) :=
  ⟨fun wh pins s σ H Q I ⟨kap, G, st, δ, z, st', c, k, sl, h, hc, q⟩ => (pw_and ha hb).run wh pins s σ H Q I (by
    obtain ⟨⟨d, s1⟩, h1, h⟩ := Option.bind_eq_some_iff.mp h
    cases d with
    | bl b =>
      refine ⟨kap, G, st, δ, _, s1, b, k, sl, h1, rfl, fun kap1 G1 H1 S k1 => ?_⟩
      cases b with
      | true =>
        rw [if_pos rfl]
        exact ⟨kap1, G1, s1, δ, z, st', c, k1, sl.mono S.g S.k, h, hc, fun kap2 G2 H2 S2 k2 => q kap2 G2 H2 (S.trans S2) k2⟩
      | false =>
        rw [if_neg Bool.false_ne_true]
        cases h
        have e := tru_bl hc
        subst e
        exact q kap1 G1 H1 S k1
    | _ => cases h)⟩
theorem rw_or {a r : CE} {x y : Expr} {l : List Expr} {p : Pos} (ha : PT X x (rdT g w a)) (hb : PW X (.BoolOp .Or (y :: l) p) (rdT g w r)) : PW X (.BoolOp .Or (x :: y :: l) p) (rdT g w (.orc a r)) :=
  ⟨fun wh pins s σ H Q I ⟨kap, G, st, δ, z, st', c, k, sl, h, hc, q⟩ => (pw_or ha hb).run wh pins s σ H Q I (by
    obtain ⟨⟨d, s1⟩, h1, h⟩ := Option.bind_eq_some_iff.mp h
    cases d with
    | bl b =>
      refine ⟨kap, G, st, δ, _, s1, b, k, sl, h1, rfl, fun kap1 G1 H1 S k1 => ?_⟩
      cases b with
      | false =>
        rw [if_neg Bool.false_ne_true]
        exact ⟨kap1, G1, s1, δ, z, st', c, k1, sl.mono S.g S.k, h, hc, fun kap2 G2 H2 S2 k2 => q kap2 G2 H2 (S.trans S2) k2⟩
      | true =>
        rw [if_pos rfl]
        cases h
        have e := tru_bl hc
        subst e
        exact q kap1 G1 H1 S k1
    | _ => cases h)⟩
theorem rt_not {a : CE} {x : Expr} {p : Pos} (ha : PT X x (rdT g w a)) : PT X (.UnaryOp .Not x p) (rdT g w (.not a)) :=
  PT.of (pt_not ha) fun sg H Q ⟨kap, G, st, δ, z, st', c, k, sl, h, hc, q⟩ => by
    obtain ⟨⟨d, s1⟩, h1, h⟩ := Option.bind_eq_some_iff.mp h
    cases d with
    | bl b =>
      cases h
      have e := tru_bl hc
      subst e
      exact ⟨kap, G, st, δ, _, s1, b, k, sl, h1, rfl, fun kap1 G1 H1 S k1 => q kap1 G1 H1 S k1⟩
    | _ => cases h
theorem r_ite {t a b : CE} {x y z : Expr} {p : Pos} (ht : PT X x (rdT g w t)) (ha : PE X y (rd g w a)) (hb : PE X z (rd g w b)) : PE X (.IfExp x y z p) (rd g w (.ite t a b)) :=
  PE.of (pe_ifExp ht ha hb) fun sg H Q ⟨kap, G, st, δ, d, st', k, sl, h, q⟩ => by
    obtain ⟨⟨c, s1⟩, h1, h⟩ := Option.bind_eq_some_iff.mp h
    cases hc : truthD c with
    | none => simp only [hc] at h; cases h
    | some b =>
      simp only [hc] at h
      refine ⟨kap, G, st, δ, c, s1, b, k, sl, h1, hc, fun kap1 G1 H1 S k1 => ?_⟩
      cases b with
      | true =>
        rw [if_pos rfl]
        exact ⟨kap1, G1, s1, δ, d, st', k1, sl.mono S.g S.k, h, q.pre S⟩
      | false =>
        rw [if_neg Bool.false_ne_true]
        exact ⟨kap1, G1, s1, δ, d, st', k1, sl.mono S.g S.k, h, q.pre S⟩

theorem ra_nil : PA X [] (rdA g w .nil) := PA.of pa_nil fun sg H Q ⟨kap, G, st, δ, rs, st', k, sl, h, q⟩ => by
  cases h
  exact q [] kap G H Step.refl k .nil
theorem ra_cons {a : CE} {r : CA} {e : Expr} {es : List Expr} (he : PE X e (rd g w a)) (hr : PA X es (rdA g w r)) (hs : star e = false) : PA X (e :: es) (rdA g w (.cons a r)) :=
  PA.of (pa_cons he hr (starEach_cons hs)) fun sg H Q ⟨kap, G, st, δ, rs, st', k, sl, h, q⟩ => by
    obtain ⟨⟨d, s1⟩, h1, h⟩ := Option.bind_eq_some_iff.mp h
    obtain ⟨⟨rs1, s2⟩, h2, h3⟩ := Option.map_eq_some_iff.mp h
    cases h3
    exact ⟨kap, G, st, δ, d, s1, k, sl, h1, fun v kap1 G1 H1 S k1 rv => ⟨kap1, G1, s1, δ, rs1, _, k1, sl.mono S.g S.k, h2, fun vs kap2 G2 H2 S2 k2 rvs =>
      q _ kap2 G2 H2 (S.trans S2) k2 (.cons (show DenR w kap2 G2 (.d d) v from rv.mono S2.g) rvs)⟩⟩
theorem atC_some {δ : EnvR} {i k : Nat} (h : atC δ i = some k) : δ[i]? = some (some (.c k)) := by
  unfold atC at h
  split at h
  · rename_i z e; cases h; exact e
  · cases h
theorem ra_cel {i : Nat} {r : CA} {x : Str} {p : Pos} {es : List Expr} (hN : X.N[i]? = some x) (v : Vis X.env.scope x ∧ (x == ("__debug__" : Str)) = false ∧ (x == ("__classdict__" : Str)) = false) (hr : PA X es (rdA g w r)) : PA X (.Name x p :: es) (rdA g w (.cel i r)) :=
  PA.of (pa_cons (pe_var hN v.1 v.2.1 v.2.2) hr rfl) fun sg H Q ⟨kap, G, st, δ, rs, st', k, sl, h, q⟩ => by
    obtain ⟨c, h1, h⟩ := Option.bind_eq_some_iff.mp h
    obtain ⟨⟨rs1, s2⟩, h2, h3⟩ := Option.map_eq_some_iff.mp h
    cases h3
    obtain ⟨y, h4, h5⟩ := sl.at_ i _ (atC_some h1)
    exact ⟨y, h4, kap, G, st, δ, rs1, _, k, sl, h2, fun vs kap2 G2 H2 S2 k2 rvs => q _ kap2 G2 H2 S2 k2 (.cons (h5.mono S2.g S2.k) rvs)⟩

theorem pe_tupF {es : List Expr} {t : TA} {k : Nat} {p : Pos} (h : PA X es t) : PE X (.Tuple es k p) (fun sg H Q => t sg H fun xs H1 => ∃ kap G st ds, Ok w kap G st H1 ∧ Dens w G ds xs ∧ ds.length ≤ lim ∧ Post w kap G H1 st (.tup ds) Q) := by
  refine ⟨fun pins s σ H Q I hq => ?_⟩
  refine wpAny_Tuple_spliced (thn (h.run p pins s σ H _ I hq) fun us s1 ⟨xs, H1, I1, r, kap, G, st, ds, k1, dd, z, q⟩ => ⟨by rw [← r.length, ← dd.length]; exact lim_size z, ?_⟩)
  exact endT (t := s1.toks) I1 k1 q dd r (by rw [← dd.length]; exact lim_size z)
theorem evArgs {es : CA} {δ : EnvR} {st : S} {rs : List R} {s1 : S} {d : D} {st' : S} {f : List D → S → Option (D × S)} (h : (evA g w.flds es δ st).bind (fun p => (dsOf p.1).bind fun xs => f xs p.2) = some (d, st')) :
    ∃ rs s1 xs, evA g w.flds es δ st = some (rs, s1) ∧ dsOf rs = some xs ∧ f xs s1 = some (d, st') := by
  obtain ⟨⟨rs, s1⟩, h1, h⟩ := Option.bind_eq_some_iff.mp h
  obtain ⟨xs, h2, h3⟩ := Option.bind_eq_some_iff.mp h
  exact ⟨rs, s1, xs, h1, h2, h3⟩
theorem r_tup {es : CA} {xs : List Expr} {n : Nat} {p : Pos} (h : PA X xs (rdA g w es)) : PE X (.Tuple xs n p) (rd g w (.tup es)) :=
  PE.of (pe_tupF h) fun sg H Q ⟨kap, G, st, δ, d, st', k, sl, h, q⟩ => by
    obtain ⟨⟨rs, s1⟩, h1, h⟩ := Option.bind_eq_some_iff.mp h
    obtain ⟨xs, h2, h3⟩ := Option.bind_eq_some_iff.mp h
    obtain ⟨c, e⟩ := if_some h3
    cases e
    exact ⟨kap, G, st, δ, rs, _, k, sl, h1, postA_of h2 fun vs kap1 G1 H1 S k1 r => ⟨kap1, G1, _, xs, k1, r, c, q.pre S⟩⟩
theorem r_lst {es : CA} {xs : List Expr} {p : Pos} (h : PA X xs (rdA g w es)) : PE X (.List xs p) (rd g w (.lst es)) :=
  PE.of (pe_lst h) fun sg H Q ⟨kap, G, st, δ, d, st', k, sl, h, q⟩ => by
    obtain ⟨⟨rs, s1⟩, h1, h⟩ := Option.bind_eq_some_iff.mp h
    obtain ⟨xs, h2, h3⟩ := Option.bind_eq_some_iff.mp h
    obtain ⟨c, e⟩ := if_some h3
    cases e
    exact ⟨kap, G, st, δ, rs, _, k, sl, h1, postA_of h2 fun vs kap1 G1 H1 S k1 r => ⟨by rw [← r.length]; exact lim_size c, fun a ha => (q.pre S).lst k1 r a ha⟩⟩
theorem r_emp {p : Pos} : PE X (.Dict [] [] p) (rd g w .emp) :=
  PE.of pe_dnewK fun sg H Q ⟨kap, G, st, δ, d, st', k, sl, h, q⟩ => by
    cases h
    intro a ha
    obtain ⟨s, k2⟩ := Step.new k ha (o := .dK []) nt_dK
    exact q _ _ _ _ s k2 (.emp upd_same)

theorem r_idx {a b : CE} {x y : Expr} {p : Pos} (FT : Fit w F g kk X) (ha : PE X x (rd g w a)) (hb : PE X y (rd g w b)) (hs : noSlice y = true) : PE X (.Subscript x y p) (rd g w (.idx a b)) :=
  PE.of (pe_ix (ix_ok FT.hk) ha hb (noSlice_ix hs)) fun sg H Q ⟨kap, G, st, δ, z, st', k, sl, h, q⟩ => by
    obtain ⟨d, s1, e, h1, h2, h3⟩ := ev2 h
    exact r2_of k sl h1 h2 fun x y kap1 G1 H1 S k1 rx ry => ⟨kap1, G1, st', d, e, z, k1, rx, ry, h3, q.pre S⟩
theorem isInt_of {d : D} {i : Int} (h : d.isInt = some i) : d = .int i := by
  cases d <;> cases h
  rfl
theorem r_slL {a lo : CE} {x y : Expr} {q p : Pos} (FT : Fit w F g kk X) (ha : PE X x (rd g w a)) (hl : PE X y (rd g w lo)) : PE X (.Subscript x (.Slice (some y) none none q) p) (rd g w (.slL a lo)) :=
  PE.of (pe_slice (sl_ok FT.hk) ha (po_some hl) po_none) fun sg H Q ⟨kap, G, st, δ, z, st', k, sl, h, q⟩ => by
    obtain ⟨⟨d, s1⟩, h1, h⟩ := Option.bind_eq_some_iff.mp h
    obtain ⟨⟨e, s2⟩, h2, h⟩ := Option.bind_eq_some_iff.mp h
    obtain ⟨i, h3, h⟩ := Option.bind_eq_some_iff.mp h
    obtain ⟨y, h4, h5⟩ := Option.map_eq_some_iff.mp h
    cases h5
    have ei := isInt_of h3
    have ei : e = .int i := ei
    subst ei
    exact r2_of k sl h1 h2 fun x y kap1 G1 H1 S k1 rx ry => by
      cases ry
      exact ⟨i, rfl, kap1, G1, _, d, _, k1, rx, h4, q.pre S⟩
theorem r_slH {a hi : CE} {x y : Expr} {q p : Pos} (FT : Fit w F g kk X) (ha : PE X x (rd g w a)) (hl : PE X y (rd g w hi)) : PE X (.Subscript x (.Slice none (some y) none q) p) (rd g w (.slH a hi)) :=
  PE.of (pe_slice (sl_ok FT.hk) ha po_none (po_some hl)) fun sg H Q ⟨kap, G, st, δ, z, st', k, sl, h, q⟩ => by
    obtain ⟨⟨d, s1⟩, h1, h⟩ := Option.bind_eq_some_iff.mp h
    obtain ⟨⟨e, s2⟩, h2, h⟩ := Option.bind_eq_some_iff.mp h
    obtain ⟨i, h3, h⟩ := Option.bind_eq_some_iff.mp h
    obtain ⟨y, h4, h5⟩ := Option.map_eq_some_iff.mp h
    cases h5
    have ei : e = .int i := isInt_of h3
    subst ei
    exact r2_of k sl h1 h2 fun x y kap1 G1 H1 S k1 rx ry => by
      cases ry
      exact ⟨i, rfl, kap1, G1, _, d, _, k1, rx, h4, q.pre S⟩
theorem r_slB {a lo hi : CE} {x y z : Expr} {q p : Pos} (FT : Fit w F g kk X) (ha : PE X x (rd g w a)) (hl : PE X y (rd g w lo)) (hh : PE X z (rd g w hi)) : PE X (.Subscript x (.Slice (some y) (some z) none q) p) (rd g w (.slB a lo hi)) :=
  PE.of (pe_slice (sl_ok FT.hk) ha (po_some hl) (po_some hh)) fun sg H Q ⟨kap, G, st, δ, z, st', k, sl, h, q⟩ => by
    obtain ⟨⟨d, s1⟩, h1, h⟩ := Option.bind_eq_some_iff.mp h
    obtain ⟨⟨e, s2⟩, h2, h⟩ := Option.bind_eq_some_iff.mp h
    obtain ⟨⟨f, s3⟩, h6, h⟩ := Option.bind_eq_some_iff.mp h
    obtain ⟨i, h3, h⟩ := Option.bind_eq_some_iff.mp h
    obtain ⟨j, h7, h⟩ := Option.bind_eq_some_iff.mp h
    obtain ⟨y, h4, h5⟩ := Option.map_eq_some_iff.mp h
    cases h5
    have ei : e = .int i := isInt_of h3
    subst ei
    have ej : f = .int j := isInt_of h7
    subst ej
    exact r2_of k sl h1 h2 fun x y kap1 G1 H1 S k1 rx ry => by
      cases ry
      exact ⟨i, rfl, kap1, G1, _, δ, _, _, k1, sl.mono S.g S.k, h6, fun v kap2 G2 H2 S2 k2 rv => by
        cases rv
        exact ⟨j, rfl, kap2, G2, _, d, _, k2, rx.mono S2.g, h4, q.pre (S.trans S2)⟩⟩
theorem r_rev {a : CE} {x : Expr} {n : Nat} {p1 p2 p3 p : Pos} (FT : Fit w F g kk X) (ha : PE X x (rd g w a)) : PE X (.Subscript x (.Slice none none (some (.UnaryOp .USub (.Constant (.int 1) n p1) p2)) p3) p) (rd g w (.rev a)) :=
  PE.of (pe_revA ha) fun sg H Q ⟨kap, G, st, δ, z, st', k, sl, h, q⟩ => by
    obtain ⟨⟨d, s1⟩, h1, h⟩ := Option.bind_eq_some_iff.mp h
    refine ⟨kap, G, st, δ, d, s1, k, sl, h1, fun v kap1 G1 H1 S k1 rv => ?_⟩
    cases d with
    | lst xs =>
      cases h
      obtain ⟨a, vs, rfl, ha, da⟩ := den_lst rv
      exact ⟨a, vs, rfl, .inl ⟨by rw [FT.hk]; exact k1.le.sl ha, fun l hl => (q.pre S).lst k1 da.reverse l hl⟩⟩
    | tup xs =>
      cases h
      obtain ⟨a, vs, o, rfl, ha, ho, da⟩ := den_tup rv
      exact ⟨a, vs, rfl, .inr ⟨k1.le.st (frzT ha), fun l hl o ho => (q.pre S).tup k1 da.reverse l hl o ho⟩⟩
    | _ => cases h
end
end DL

set_option Elab.async false
set_option linter.all false
set_option autoImplicit false
set_option maxRecDepth 100000
set_option maxHeartbeats 400000
namespace DL
open PySem L2 PySem.Spec PyProof.Rows

theorem plain_trees {es : List Expr} {env : Env} {pos : Pos} (h : noStars es = true) : (backTo pos (starEach es env)).any (·.1) = false := by
  induction es with
  | nil => rfl
  | cons e es ih =>
    have h2 : (!star e && noStars es) = true := h
    rw [Bool.and_eq_true] at h2
    have h3 : star e = false := by simpa using h2.1
    rw [starEach_cons h3]
    exact ih h2.2
theorem few_trees {es : List Expr} {env : Env} {pos : Pos} (h : noStars es = true) (hl : es.length < 30) :
    ((backTo pos (starEach es env)).all (fun x => !x.1) && (backToKw pos (keywordEach [] env)).all (fun x => x.1.isSome) && decide (es.length + ([] : List Keyword).length + (if ([] : List Keyword).isEmpty then 0 else 1) < 30)) = true := by
  have a : (backTo pos (starEach es env)).all (fun x => !x.1) = true := by
    rw [List.all_eq_not_any_not]
    have := plain_trees (env := env) (pos := pos) h
    simpa using this
  rw [a]
  have b : (backToKw pos (keywordEach [] env)).all (fun x => x.1.isSome) = true := rfl
  rw [b, Bool.true_and, Bool.true_and]
  exact decide_eq_true hl

section
variable {w : Wd} {F : Fx} {g : List DSem} {kk : Nat} {X : Cx}
theorem fit_call (FT : Fit w F g kk X) {pins : List (Addr × Obj)} {sg : L2.St} {H : Hp} {s : Shared} {f : Addr} {sp : Sp} {us : List Value} {vs : List V} {Q : VK} (FA : FnAt w kk X f sp) (I : Inv X pins sg H s) (r : Vals vs us) (h : sp vs H Q fun _ _ _ => False) :
    wpAny (model X.prog X.w) X.A (call (.ref f) us) (EP X pins sg Q) X.xe s := by
  obtain ⟨fd, ps, hb, FO⟩ := FA.ok
  exact run_fn FO (FT.room.mono (Nat.le_add_right _ _)) hb (dvs := []) .nil (fun _ _ _ _ _ _ _ z => False.elim z) I r (by rw [List.append_nil]; exact h)
theorem Ok.cut {w : Wd} {kap0 kap : List Addr} {G H : Hp} {st : S} (k : Ok w kap G st H) (hp : kap0 <+: kap) : Ok w kap0 G (st.take kap0.length) H := by
  have hl := hp.length_le
  refine ⟨k.le, k.nt, by rw [List.length_take]; have := k.len; omega, k.nd.sublist hp.sublist, fun a ha => k.fr a (hp.subset ha), fun k1 c1 a1 h1 h2 => ?_, k.tabs, fun a ha => k.ntc a (hp.subset ha)⟩
  have hk1 := (List.getElem?_eq_some_iff.mp h2).1
  rw [List.getElem?_take_of_lt hk1] at h1
  exact k.cells k1 c1 a1 h1 (pre_get hp h2)
theorem Step.cut {kap0 kap : List Addr} {G0 H0 G H : Hp} (s : Step kap0 G0 H0 kap G H) : Step kap0 G0 H0 kap0 G H :=
  ⟨s.g, List.prefix_refl _, s.fr, fun _ h1 h2 => absurd h1 h2, s.ext, s.dom⟩
theorem cutOf_some {s : S} {o : Option (R × S)} {d : D} {s' : S} (h : cutOf s o = some (d, s')) : ∃ s2, o = some (.d d, s2) ∧ s' = s2.take s.length := by
  unfold cutOf at h
  split at h
  · cases h; exact ⟨_, rfl, rfl⟩
  · cases h
theorem fstOf_some {s : S} {o : Option (R × S)} {d : D} {s' : S} (h : fstOf s o = some (d, s')) : o = some (.d d, s') := by
  unfold fstOf at h
  split at h
  · cases h; rfl
  · cases h
theorem DenRs.snoc {w : Wd} {kap : List Addr} {G : Hp} {r : R} {v : V} : ∀ {rs : List R} {vs : List V}, DenRs w kap G rs vs → DenR w kap G r v → DenRs w kap G (rs ++ [r]) (vs ++ [v])
  | _, _, .nil, h => .cons h .nil
  | _, _, .cons a t, h => .cons a (DenRs.snoc t h)
theorem r_call {j : Nat} {es : CA} {x : Str} {e : Expr} {xs : List Expr} {p q : Pos} (FT : Fit w F g kk X) (gl : Gl X x ∧ (x == ("__debug__" : Str)) = false ∧ x ≠ "__name__") (hd : (Dep.isFn x F.deps[j]? || (F.gd && Dep.isFnG x F.deps[j]?) || Dep.isFnD x F.deps[j]?) = true) (hs : noStars (e :: xs) = true) (ha : PA X (e :: xs) (rdA g w es)) :
    PE X (.Call (.Name x q) (e :: xs) [] p) (rd g w (.call j es)) := by
  have h2 : (!star e && noStars xs) = true := hs
  rw [Bool.and_eq_true] at h2
  have h3 : star e = false := by simpa using h2.1
  cases hg : g[j]? with
  | none => exact ⟨fun pins s sg H Q I ⟨kap, G, st, δ, d, st', k, sl, h, q⟩ => by
      obtain ⟨⟨rs, s1⟩, h1, h⟩ := Option.bind_eq_some_iff.mp h
      simp only [hg] at h
      cases h⟩
  | some sem =>
    cases hD : F.deps[j]? with
    | none =>
      rw [hD] at hd
      have hd : (false || (F.gd && false) || false) = true := hd
      simp at hd
    | some dp =>
      rw [hD] at hd
      have rd1 : ∀ sg H Q, rd g w (.call j es) sg H Q → tCall (spD w sem) [] (fun _ _ _ => False) (rdA g w es) sg H Q := fun sg H Q ⟨kap, G, st, δ, d, st', k, sl, h, q⟩ => by
        obtain ⟨⟨rs, s1⟩, h1, h⟩ := Option.bind_eq_some_iff.mp h
        simp only [hg] at h
        obtain ⟨s2, h4, rfl⟩ := cutOf_some h
        exact ⟨kap, G, st, δ, rs, s1, k, sl, h1, fun vs kap1 G1 H1 S k1 r => by
          show spD w sem (vs ++ []) H1 Q _
          rw [List.append_nil]
          exact ⟨kap1, G1, s1, rs, _, _, k1, r, h4, fun v kap2 G2 H2 S2 k2 rv => q v kap G2 H2 (S.trans S2).cut (by rw [← k.len]; exact k2.cut (S.trans S2).k) rv⟩⟩
      cases dp with
      | fnD y i =>
        have hd : (false || (F.gd && false) || Dep.isFnD x (some (.fnD y i))) = true := hd
        have hd : Dep.isFnD x (some (.fnD y i)) = true := by simpa using hd
        have ey : y = x := eq_of_beq hd
        subst ey
        obtain ⟨f, hm, hk, fd, ps, u, sem0, hb, ru, FO, es⟩ := FT.deps j _ _ hD hg (fun z => absurd z Bool.false_ne_true)
        refine PE.of (pe_call (E := fun _ _ _ => False) FO (FT.room.mono (Nat.le_add_right _ _)) gl.1 hm hk hb (.cons ru .nil) (fun _ _ _ _ _ _ _ z => False.elim z) ha gl.2.1 (starEach_cons h3) (plain_trees h2.2)) fun sg H Q ⟨kap, G, st, δ, d, st', k, sl, h, q⟩ => ?_
        obtain ⟨⟨rs, s1⟩, h1, h⟩ := Option.bind_eq_some_iff.mp h
        simp only [hg] at h
        obtain ⟨s2, h4, rfl⟩ := cutOf_some h
        rw [es] at h4
        exact ⟨kap, G, st, δ, rs, s1, k, sl, h1, fun vs kap1 G1 H1 S k1 r => ⟨kap1, G1, s1, _, _, _, k1, r.snoc (show DenR w kap1 G1 (.d (.int i)) (.int i) from .int i), h4, fun v kap2 G2 H2 S2 k2 rv => q v kap G2 H2 (S.trans S2).cut (by rw [← k.len]; exact k2.cut (S.trans S2).k) rv⟩⟩
      | fnG y =>
        have hd : (false || (F.gd && Dep.isFnG x (some (.fnG y))) || false) = true := hd
        have hd : (F.gd && Dep.isFnG x (some (.fnG y))) = true := by simpa using hd
        rw [Bool.and_eq_true] at hd
        have ey : y = x := eq_of_beq hd.2
        subst ey
        obtain ⟨f, hm, hk, fd, ps, hb, FO⟩ := FT.deps j _ _ hD hg (fun z => absurd z Bool.false_ne_true)
        exact PE.of (pe_callG (E := fun _ _ _ => False) FO (FT.qt hd.1) (FT.room.mono (Nat.le_add_right _ _)) gl.1 hm hk hb (fun _ _ _ _ _ _ _ z => False.elim z) ha gl.2.1 (starEach_cons h3) (plain_trees h2.2)) rd1
      | fn y =>
        have hd : (Dep.isFn x (some (.fn y)) || (F.gd && false) || false) = true := hd
        have hd : Dep.isFn x (some (.fn y)) = true := by simpa using hd
        have ey : y = x := eq_of_beq hd
        subst ey
        obtain ⟨f, hm, hk, fd, ps, hb, FO⟩ := FT.deps j _ _ hD hg (fun z => absurd z Bool.false_ne_true)
        exact PE.of (pe_call (E := fun _ _ _ => False) FO (FT.room.mono (Nat.le_add_right _ _)) gl.1 hm hk hb .nil (fun _ _ _ _ _ _ _ z => False.elim z) ha gl.2.1 (starEach_cons h3) (plain_trees h2.2)) rd1
      | _ =>
        have hd : (false || (F.gd && false) || false) = true := hd
        simp at hd
theorem r_mk {j : Nat} {es : CA} {x : Str} {e : Expr} {xs : List Expr} {p q : Pos} (FT : Fit w F g kk X) (gl : Gl X x ∧ (x == ("__debug__" : Str)) = false ∧ x ≠ "__name__") (hd : Dep.isMk x F.deps[j]? = true) (hs : noStars (e :: xs) = true) (ha : PA X (e :: xs) (rdA g w es)) :
    PE X (.Call (.Name x q) (e :: xs) [] p) (rd g w (.mk j es)) := by
  have h2 : (!star e && noStars xs) = true := hs
  rw [Bool.and_eq_true] at h2
  have h3 : star e = false := by simpa using h2.1
  cases hg : g[j]? with
  | none => exact ⟨fun pins s sg H Q I ⟨kap, G, st, δ, d, st', k, sl, h, q⟩ => by
      obtain ⟨⟨rs, s1⟩, h1, h⟩ := Option.bind_eq_some_iff.mp h
      simp only [hg] at h
      cases h⟩
  | some sem =>
    cases hD : F.deps[j]? with
    | none => rw [hD] at hd; cases hd
    | some dp =>
      rw [hD] at hd
      cases dp with
      | mk y =>
        have ey : y = x := eq_of_beq hd
        subst ey
        obtain ⟨C, f, hm, M, fd, ps, hb, FO⟩ := FT.deps j _ _ hD hg (fun z => absurd z Bool.false_ne_true)
        refine PE.of (pe_make (E := fun _ _ _ => False) M FO (FT.room.mono (Nat.le_succ _)) gl.1 hm hb .nil (fun _ _ _ _ _ _ _ z => False.elim z) ha gl.2.1 (starEach_cons h3) (plain_trees h2.2)) fun sg H Q ⟨kap, G, st, δ, d, st', k, sl, h, q⟩ => ?_
        obtain ⟨⟨rs, s1⟩, h1, h⟩ := Option.bind_eq_some_iff.mp h
        simp only [hg] at h
        have h4 := fstOf_some h
        exact ⟨kap, G, st, δ, rs, s1, k, sl, h1, fun vs kap1 G1 H1 S k1 r a dx na nd ne => by
          rw [List.append_nil]
          exact ⟨a, dx, vs, H1, kap1, G1, s1, rs, _, _, rfl, rfl, na, nd, ne, k1, r, h4, fun kap2 G2 H2 S2 k2 rv => ⟨rfl, q _ kap2 G2 H2 (S.trans S2) k2 rv⟩⟩⟩
      | _ => cases hd
theorem bi_boot (b : BI) : bootBuiltins b.nm = some b.val := by cases b <;> kernel_rfl
theorem r_blt {b : BI} {es : CA} {x : Str} {e : Expr} {xs : List Expr} {p q : Pos} (FT : Fit w F g kk X) (gl : Gl X x ∧ (x == ("__debug__" : Str)) = false ∧ x ≠ "__name__") (hx : x = b.nm) (hm : X.mg x = none) (hs : noStars (e :: xs) = true) (ha : PA X (e :: xs) (rdA g w es)) :
    PE X (.Call (.Name x q) (e :: xs) [] p) (rd g w (.blt b es)) := by
  have h2 : (!star e && noStars xs) = true := hs
  rw [Bool.and_eq_true] at h2
  have h3 : star e = false := by simpa using h2.1
  subst hx
  have fin : ∀ sg H Q, rd g w (.blt b es) sg H Q → tCB (rBI w b) (rdA g w es) sg H Q := fun sg H Q ⟨kap, G, st, δ, d, st', k, sl, h, q⟩ => by
    obtain ⟨⟨rs, s1⟩, h1, h⟩ := Option.bind_eq_some_iff.mp h
    obtain ⟨ys, h4, h⟩ := Option.bind_eq_some_iff.mp h
    obtain ⟨z, h5, h6⟩ := Option.map_eq_some_iff.mp h
    cases h6
    exact ⟨kap, G, st, δ, rs, _, k, sl, h1, postA_of h4 fun vs kap1 G1 H1 S k1 r => ⟨kap1, G1, _, ys, _, k1, r, h5, q.pre S⟩⟩
  have hv := bi_boot b
  have hc := bi_ok FT.hk FT.calm FT.hu b
  cases b <;> first
    | exact PE.of (pe_callB hc gl.1 hm hv ha gl.2.2 gl.2.1 (starEach_cons h3) (plain_trees h2.2)) fin
    | exact PE.of (pe_callTy hc gl.1 hm hv ha gl.2.2 gl.2.1 (starEach_cons h3) (plain_trees h2.2)) fin
/-- the type's name of a datum -/
def tyD : D → String
  | .non => "NoneType" | .bl _ => "bool" | .int _ => "int" | .str _ => "str" | .lst _ => "list" | .tup _ => "tuple" | .ins .. => "" | .emp => "dict"
theorem kit_data (d : D) (t : TyN) (h : ∀ C xs, d ≠ .ins C xs) : kitB (tyD d) t.name = some (isiD t d) := by
  cases d <;> first | exact absurd rfl (h _ _) | (cases t <;> kernel_rfl)
theorem tyX_den {G H : Hp} {d : D} {v : V} {kap : List Addr} {st : S} (FT : Fit w F g kk X) (k : Ok w kap G st H) (r : Den w G d v) : ∃ t, TyX X.K H v t ∧ ∀ n : TyN, PySem.W.kitOne X.K t (.type n.name) = some (isiD n d) := by
  cases r with
  | non => exact ⟨_, .base .non, fun n => kit_ty (kit_data .non n fun _ _ z => nomatch z)⟩
  | bl b => exact ⟨_, .base (.bl b), fun n => kit_ty (kit_data (.bl b) n fun _ _ z => nomatch z)⟩
  | int b => exact ⟨_, .base (.int b), fun n => kit_ty (kit_data (.int b) n fun _ _ z => nomatch z)⟩
  | str b => exact ⟨_, .base (.str b), fun n => kit_ty (kit_data (.str b) n fun _ _ z => nomatch z)⟩
  | @lst xs a vs s t =>
    have f : ∀ n : TyN, PySem.W.kitOne X.K (.type "list") (.type n.name) = some (isiD n (.lst xs)) := fun n => kit_ty (kit_data (.lst xs) n fun _ _ z => nomatch z)
    rcases s with (s | ⟨o, s⟩) | ⟨o, its, m, s, c, _⟩
    · exact ⟨_, .base (.lst (k.le _ _ s)), f⟩
    · exact ⟨_, .base (.frz (k.le _ _ s)), f⟩
    · exact ⟨_, .kList (by rw [FT.hk]; exact s) c, f⟩
  | @tup xs a vs o s t u => exact ⟨_, .fTuple (k.le _ _ s), fun n => kit_ty (kit_data (.tup xs) n fun _ _ z => nomatch z)⟩
  | @ins C xs a dx vs s t u =>
    have hk := FT.hk
    refine ⟨_, .base (.ins (k.le _ _ s) ?_ ?_ ?_ ?_ ?_), fun n => ?_⟩
    · rw [hk]; exact FT.wok.cl C
    · rw [hk]; exact FT.wok.ha C
    · rw [hk]; exact FT.wok.hn
    · rw [hk]; exact FT.wok.htk
    · rw [hk]; exact FT.wok.hm C
    · rw [hk, FT.wok.kit C n]
      cases n <;> rfl
  | @emp a s => exact ⟨_, .base (.dK (k.le _ _ s)), fun n => kit_ty (kit_data .emp n fun _ _ z => nomatch z)⟩
theorem ty_boot (t : TyN) : bootBuiltins t.nm = some (.type t.name) := by cases t <;> kernel_rfl
theorem r_isi {t : TyN} {a : CE} {x : Expr} {f y : Str} {p q r : Pos} (FT : Fit w F g kk X) (gf : Gl X f ∧ (f == ("__debug__" : Str)) = false ∧ f ≠ "__name__") (hf : f = "isinstance") (mf : X.mg f = none) (gy : Gl X y ∧ (y == ("__debug__" : Str)) = false ∧ y ≠ "__name__") (hy : y = t.nm) (my : X.mg y = none)
    (hs : star x = false) (ha : PE X x (rd g w a)) : PE X (.Call (.Name f q) [x, .Name y r] [] p) (rd g w (.isi t a)) := by
  subst hf
  subst hy
  have e1 : starEach [Expr.Name t.nm r] X.env = (false, eval (.Name t.nm r) X.env) :: starEach [] X.env := rfl
  refine PE.of (pe_callB (call_isi (X := X)) gf.1 mf (by kernel_rfl) (pa_cons ha (pa_cons (pe_bltn (v := .ty t.name) gy.1 my (ty_boot t) rfl gy.2.2 gy.2.1) pa_nil e1) (starEach_cons hs)) gf.2.2 gf.2.1 (starEach_cons hs) rfl) fun sg H Q ⟨kap, G, st, δ, d, st', k, sl, h, q⟩ => ?_
  obtain ⟨⟨e, s1⟩, h1, h2⟩ := Option.map_eq_some_iff.mp h
  cases h2
  refine ⟨kap, G, st, δ, e, _, k, sl, h1, fun v kap1 G1 H1 S k1 r => ?_⟩
  obtain ⟨t0, ht, hkit⟩ := tyX_den FT k1 r
  exact ⟨v, .ty t.name, t0, _, _, rfl, .ty t.name, ht, hkit t, (q.pre S).here k1 (.bl _)⟩

def rMI (w : Wd) (m : MI) (d : D) : V → List V → Hp → VK → Prop := fun x xs H Q => ∃ kap G st ds z, Ok w kap G st H ∧ Den w G d x ∧ Dens w G ds xs ∧ miD m d ds = some z ∧ Post w kap G H st z Q
theorem indexL_spec (y : D) : ∀ (xs : List D) (n m : Nat), indexL y n xs = some m → n ≤ m ∧ ∃ d, xs[m - n]? = some d ∧ eqD d y = true ∧ ∀ (i : Nat) e, i < m - n → xs[i]? = some e → eqD e y = false
  | [], n, m, h => by cases h
  | x :: xs, n, m, h => by
    have h2 : (if eqD x y then some n else indexL y (n + 1) xs) = some m := h
    cases q : eqD x y with
    | true =>
      rw [q, if_pos rfl] at h2
      cases h2
      exact ⟨Nat.le_refl _, x, by simp, q, fun i e hi _ => by omega⟩
    | false =>
      rw [q, if_neg Bool.false_ne_true] at h2
      obtain ⟨h3, d, h4, h5, h6⟩ := indexL_spec y xs (n + 1) m h2
      have e1 : m - n = (m - (n + 1)) + 1 := by omega
      refine ⟨by omega, d, by rw [e1, List.getElem?_cons_succ]; exact h4, h5, fun i e hi he => ?_⟩
      cases i with
      | zero =>
        have e2 : x = e := by simpa using he
        rw [← e2]; exact q
      | succ i => exact h6 i e (by omega) (by simpa using he)
theorem ix_facts {pins : List (Addr × Obj)} {sg : L2.St} {H G : Hp} {s : Shared} (I : Inv X pins sg H s) (hk : X.K = w.K) (le : Le G H) {xs : List D} {vs : List V} {its : List Value} {y : D} {m : Nat} (da : Dens w G xs vs) (rv : Vals vs its) (hx : shps 20 xs = true) (h : indexL y 0 xs = some m) :
    ∃ hm : m < its.toArray.size, eU w G y its.toArray[m] = true ∧ ∀ (i : Nat) (hi : i < its.toArray.size), i < m → eU w G y its.toArray[i] = false := by
  obtain ⟨_, d, h4, h5, h6⟩ := indexL_spec y xs 0 m h
  rw [Nat.sub_zero] at h4 h6
  have hl := lens da rv
  have hml : m < xs.length := (List.getElem?_eq_some_iff.mp h4).1
  have at_ : ∀ (i : Nat) (hi : i < its.toArray.size), ∃ e, xs[i]? = some e ∧ eU w G y its.toArray[i] = eqD e y := fun i hi => by
    obtain ⟨v, e1, q1⟩ := vals_ix rv (j := i) (by simpa using hi)
    obtain ⟨e, f1, g1⟩ := da.getV e1
    refine ⟨e, f1, ?_⟩
    have := eU_of (x := y) I hk le g1 q1 (shps_get hx f1)
    simpa using this
  refine ⟨by omega, ?_, fun i hi him => ?_⟩
  · obtain ⟨e, f1, f2⟩ := at_ m (by omega)
    rw [h4] at f1
    cases f1
    rw [f2]; exact h5
  · obtain ⟨e, f1, f2⟩ := at_ i hi
    rw [f2]
    exact h6 i e him f1
theorem mt_facts {pins : List (Addr × Obj)} {sg : L2.St} {H : Hp} {s : Shared} {m : MI} {d : D} {x : V} {v : Value} {kap : List Addr} {G : Hp} {st : S} (FT : Fit w F g kk X) (I : Inv X pins sg H s) (k : Ok w kap G st H) (hd : Den w G d x) (rx : RelV x v) (hm : ∃ ds z, miD m d ds = some z) :
    ∃ T id, PlainAttrs T ∧ Slot T m.nm id ∧ typeOf (.builtin id) = pure (.type "method_descriptor") ∧ s.TypeIs v T ∧ (∀ a, v = .ref a → ∃ ob, s.heap.get? a = some ob ∧ ob.dict = none) ∧ MtR X id (rMI w m d) := by
  obtain ⟨ds0, z0, hm⟩ := hm
  have hu := FT.hu
  cases m with
  | index =>
    cases d with
    | lst xs =>
      obtain ⟨a, vs, rfl, ha, da⟩ := den_lst hd
      cases rx
      rw [← FT.hk] at ha
      obtain ⟨its, rv, ⟨o, n, ho, hc, hdd, hdt⟩, _⟩ := I.list (k.le.sl ha)
      refine ⟨"list", _, PySem.F.plainAttrs_list, PySem.F.slot_list_index, PySem.F.type_list_index, ⟨o, ho, hc⟩, fun b e => ?_, ?_⟩
      · cases e; exact ⟨o, ho, hdd⟩
      · rintro pins2 s2 sg2 H2 x2 xs2 v2 us2 Q2 I2 rx2 rxs2 ⟨kap2, G2, st2, ds, z, k2, hd2, hds, hz, q⟩
        obtain ⟨a2, vs2, rfl, ha2, da2⟩ := den_lst hd2
        cases rx2
        have ha3 := ha2
        rw [← FT.hk] at ha2
        obtain ⟨its2, rv2, ⟨⟨c2, d2, dt2, sl2⟩, n2, ho2, hc2, hdd2, hdt2⟩, hz2⟩ := I2.list (k2.le.sl ha2)
        simp only at hc2 hdd2 hdt2
        subst hc2 hdd2 hdt2
        match ds, hz, hds with
        | [y], hz, hds =>
          have h7 : (if (shps 20 xs && shp 20 y) = true then (indexL y 0 xs).map (fun (n : Nat) => D.int (n : Int)) else none) = some z := hz
          split at h7
          · rename_i hc
            rw [Bool.and_eq_true] at hc
            obtain ⟨j, hj, rfl⟩ := Option.map_eq_some_iff.mp h7
            obtain ⟨vy, rfl, hy⟩ := dens1 hds
            obtain ⟨uy, rfl, ry⟩ := vals1 rxs2
            obtain ⟨h1, h2, h3⟩ := ix_facts I2 FT.hk k2.le da2 rv2 hc.1 hj
            have hlen := rv2.length
            have hsl := sizeLine_eq
            have h1' : j < its2.length := by simpa using h1
            refine call_meets PySem.F.slot_list_index ⟨_, ho2, rfl⟩ PySem.F.entry_list_index (PySem.F.args_list_index_2 _ _)
              (SeqAt.list_indexAt a2 its2.toArray n2 none sl2 uy (eU w G2 y) j h1 (by omega) h2 h3) ⟨ho2, fun t ht => mem_eU I2 FT.hk k2.le (by show X.A.units + 1 + 21 < cLine; omega) hy ry hc.2 da2 rv2 hc.1 t (by simpa using ht), ?_⟩
            exact ⟨.int (j : Nat), H2, I2.tok _, ⟨_, rfl⟩, q.here k2 (.int _)⟩
          · cases h7
    | tup xs =>
      obtain ⟨a, vs, o1, rfl, ha, to, da⟩ := den_tup hd
      cases rx
      obtain ⟨its0, rv0, hT⟩ := isT I FT.hk k.le ha
      have hobj : ∃ ob, s.heap.get? a = some ob ∧ ob.cls = .type "tuple" ∧ ob.dict = none := by
        have := I.hok a _ (k.le _ _ ha)
        obtain ⟨e1, _⟩ := this
        exact ⟨o1, e1, to.1, to.2⟩
      obtain ⟨ob, e1, e2, e3⟩ := hobj
      refine ⟨"tuple", _, PySem.F.plainAttrs_tuple, PySem.F.slot_tuple_index, PySem.F.type_tuple_index, ⟨ob, e1, e2⟩, fun b e => ?_, ?_⟩
      · cases e; exact ⟨ob, e1, e3⟩
      · rintro pins2 s2 sg2 H2 x2 xs2 v2 us2 Q2 I2 rx2 rxs2 ⟨kap2, G2, st2, ds, z, k2, hd2, hds, hz, q⟩
        obtain ⟨a2, vs2, o2, rfl, ha2, to2, da2⟩ := den_tup hd2
        cases rx2
        obtain ⟨its2, rv2, ⟨⟨c2, d2, dt2, sl2⟩, ho2, hc2, n2, hdt2⟩, _⟩ := I2.tuple (k2.le.st (frzT ha2))
        simp only at hc2 hdt2
        subst hc2 hdt2
        match ds, hz, hds with
        | [y], hz, hds =>
          have h7 : (if (shps 20 xs && shp 20 y) = true then (indexL y 0 xs).map (fun (n : Nat) => D.int (n : Int)) else none) = some z := hz
          split at h7
          · rename_i hc
            rw [Bool.and_eq_true] at hc
            obtain ⟨j, hj, rfl⟩ := Option.map_eq_some_iff.mp h7
            obtain ⟨vy, rfl, hy⟩ := dens1 hds
            obtain ⟨uy, rfl, ry⟩ := vals1 rxs2
            obtain ⟨h1, h2, h3⟩ := ix_facts I2 FT.hk k2.le da2 rv2 hc.1 hj
            refine call_meets PySem.F.slot_tuple_index ⟨_, ho2, rfl⟩ PySem.F.entry_tuple_index (PySem.F.args_tuple_index_2 _ _)
              (TI.tuple_indexAt a2 its2.toArray n2 d2 sl2 uy (eU w G2 y) j h1 h2 h3) ⟨ho2, fun t ht => mem_eU I2 FT.hk k2.le (by show X.A.units + 1 + 21 < cLine; omega) hy ry hc.2 da2 rv2 hc.1 t (by simpa using ht), ?_⟩
            exact ⟨.int (j : Nat), H2, I2.tok _, ⟨_, rfl⟩, q.here k2 (.int _)⟩
          · cases h7
    | _ => cases hm
  | split =>
    cases d with
    | str a =>
      cases hd
      obtain ⟨t, rfl⟩ := rx
      refine ⟨"str", _, PySem.F.plainAttrs_str, PySem.F.slot_str_split, PySem.F.type_str_split, typeIs_str _ _ _, (fun _ e => nomatch e), ?_⟩
      rintro pins2 s2 sg2 H2 x2 xs2 v2 us2 Q2 I2 rx2 rxs2 ⟨kap2, G2, st2, ds, z, k2, hd2, hds, hz, q⟩
      cases hd2
      match ds, hz, hds with
      | [.str sep], hz, hds =>
        obtain ⟨⟨c1, c2⟩, rfl⟩ := if_some (show (if sep.length ≠ 0 ∧ a.length + 2 ≤ lim then some (D.lst ((Txt.split a sep).map .str)) else none) = some z from hz)
        obtain ⟨vy, rfl, hy⟩ := dens1 hds
        cases hy
        exact mt_split pins2 s2 sg2 H2 _ _ v2 us2 Q2 I2 rx2 rxs2 ⟨a, sep, rfl, rfl, by simpa using c1, lim_size c2, fun l hl => q.lst k2 (dens_flat_strs _) l hl⟩
    | _ => cases hm
  | join =>
    cases d with
    | str a =>
      cases hd
      obtain ⟨t, rfl⟩ := rx
      refine ⟨"str", _, PySem.F.plainAttrs_str, PySem.F.slot_str_join, PySem.F.type_str_join, typeIs_str _ _ _, (fun _ e => nomatch e), ?_⟩
      rintro pins2 s2 sg2 H2 x2 xs2 v2 us2 Q2 I2 rx2 rxs2 ⟨kap2, G2, st2, ds, z, k2, hd2, hds, hz, q⟩
      cases hd2
      have fin : ∀ (e : D) (xs : List D), ds = [e] → (e = .lst xs ∨ e = .tup xs) → (strsOf xs).bind (fun ys => if (ys.map (·.length)).sum + a.length * ys.length ≤ lim then some (D.str (Txt.join a ys)) else none) = some z →
          wpAny (model X.prog X.w) X.A (call (.builtin "str.join") (v2 :: us2)) (EP X pins2 sg2 Q2) X.xe s2 := fun e xs e1 e2 hj => by
        subst e1
        obtain ⟨ys, h1, h2⟩ := Option.bind_eq_some_iff.mp hj
        obtain ⟨c, rfl⟩ := if_some h2
        obtain ⟨vy, rfl, hy⟩ := dens1 hds
        obtain ⟨p, vs, rfl, hsq, da⟩ := den_sq (X := X) FT.hk k2.le (by
          rcases e2 with e2 | e2
          · rw [e2] at hy; exact .inl hy
          · rw [e2] at hy; exact .inr hy)
        have ev := dens_strs da h1
        subst ev
        exact mt_join pins2 s2 sg2 H2 _ _ v2 us2 Q2 I2 rx2 rxs2 ⟨a, p, ys, rfl, rfl, hsq, by rw [Nat.mul_comm ys.length]; exact Nat.le_trans c (by decide), q.here k2 (.str _)⟩
      match ds, hz, fin with
      | [.lst xs], hz, fin => exact fin _ xs rfl (.inl rfl) hz
      | [.tup xs], hz, fin => exact fin _ xs rfl (.inr rfl) hz
    | _ => cases hm
  | count => cases d <;> cases hm
  | upper =>
    cases d with
    | str a =>
      cases hd
      obtain ⟨t, rfl⟩ := rx
      refine ⟨"str", _, PySem.F.plainAttrs_str, PySem.F.slot_str_upper, PySem.F.type_str_upper, typeIs_str _ _ _, (fun _ e => nomatch e), ?_⟩
      rintro pins2 s2 sg2 H2 x2 xs2 v2 us2 Q2 I2 rx2 rxs2 ⟨kap2, G2, st2, ds, z, k2, hd2, hds, hz, q⟩
      cases hd2
      match ds, hz, hds with
      | [], hz, hds =>
        obtain ⟨c, rfl⟩ := if_some (show (if a.length ≤ lim then some (D.str (Txt.upper a)) else none) = some z from hz)
        cases hds
        exact mt_upper pins2 s2 sg2 H2 _ _ v2 us2 Q2 I2 rx2 rxs2 ⟨a, rfl, rfl, Nat.le_trans c (by decide), q.here k2 (.str _)⟩
    | _ => cases hm
theorem r_upper {o : CE} {y : Expr} {n : Str} {a c : Pos} (FT : Fit w F g kk X) (hn : n = MI.upper.nm) (ho : PE X y (rd g w o)) (hb : noBare y = true) (hline : (a.endLine == c.line) = true) :
    PE X (.Call (.Attribute y n a) [] [] c) (rd g w (.mth .upper o .nil)) := by
  subst hn
  exact PE.of (pe_upper ho (noBare_base hb) hline) fun sg H Q ⟨kap, G, st, δ, d, st', k, sl, h, q⟩ => by
    obtain ⟨⟨d1, s1⟩, h1, h⟩ := Option.bind_eq_some_iff.mp h
    obtain ⟨⟨rs, s2⟩, h4, h⟩ := Option.bind_eq_some_iff.mp h
    cases h4
    obtain ⟨ys, h5, h⟩ := Option.bind_eq_some_iff.mp h
    cases h5
    obtain ⟨z, h6, h7⟩ := Option.map_eq_some_iff.mp h
    cases h7
    refine ⟨kap, G, st, δ, d1, s1, k, sl, h1, fun v kap1 G1 H1 S k1 r => ?_⟩
    cases d1 with
    | str t =>
      obtain ⟨c, rfl⟩ := if_some (show (if t.length ≤ lim then some (D.str (Txt.upper t)) else none) = some _ from h6)
      cases r
      exact ⟨⟨t, rfl⟩, t, rfl, rfl, Nat.le_trans c (by decide), (q.pre S).here k1 (.str _)⟩
    | _ => cases h6
theorem r_mth {m : MI} {o : CE} {es : CA} {y e : Expr} {n : Str} {xs : List Expr} {a c : Pos} (FT : Fit w F g kk X) (hn : n = m.nm) (ho : PE X y (rd g w o)) (hb : noBare y = true) (hs : noStars (e :: xs) = true) (hl : (e :: xs).length < 30) (hline : (a.endLine == c.line) = true) (ha : PA X (e :: xs) (rdA g w es)) :
    PE X (.Call (.Attribute y n a) (e :: xs) [] c) (rd g w (.mth m o es)) := by
  subst hn
  have h2 : (!star e && noStars xs) = true := hs
  rw [Bool.and_eq_true] at h2
  have h3 : star e = false := by simpa using h2.1
  refine ⟨fun pins s sg H Q I ⟨kap, G, st, δ, d, st', k, sl, h, q⟩ => ?_⟩
  obtain ⟨⟨d1, s1⟩, h1, h⟩ := Option.bind_eq_some_iff.mp h
  obtain ⟨⟨rs, s2⟩, h4, h⟩ := Option.bind_eq_some_iff.mp h
  obtain ⟨ys, h5, h⟩ := Option.bind_eq_some_iff.mp h
  obtain ⟨z, h6, h7⟩ := Option.map_eq_some_iff.mp h
  cases h7
  refine wpAny_Call_method_late (noBare_base hb) (few_trees hs hl) hline rfl (thn (ho.run pins s sg H (fun x H1 => ∃ kap1 G1, Step kap G H kap1 G1 H1 ∧ Ok w kap1 G1 s1 H1 ∧ Den w G1 d1 x) I ⟨kap, G, st, δ, d1, s1, k, sl, h1, fun v kap1 G1 H1 S k1 r => ⟨kap1, G1, S, k1, r⟩⟩) fun v t1 ⟨x, H1, I1, r1, kap1, G1, S, k1, rx⟩ => ?_)
  obtain ⟨T, id, pa, slot, hty, t1', t2', hm⟩ := mt_facts (m := m) FT I1 k1 rx r1 ⟨ys, _, h6⟩
  refine ⟨T, id, pa, slot, hty, t1', t2', ?_⟩
  have hA := ha.run c pins t1 sg H1 (fun vs H2 => rMI w m d1 x vs H2 Q) I1 ⟨kap1, G1, s1, δ, rs, _, k1, sl.mono S.g S.k, h4, postA_of h5 fun vs kap2 G2 H2 S2 k2 r => ⟨kap2, G2, _, ys, _, k2, rx.mono S2.g, r, h6, q.pre (S.trans S2)⟩⟩
  rw [starEach_cons h3] at hA ⊢
  refine Calls.callWith_builtin (by show (false || (backTo c (starEach xs X.env)).any (·.1)) = false; rw [plain_trees h2.2] <;> rfl) (Calls.evalArgs_plain ?_)
  exact thn hA fun us s2 ⟨vs, H2, I2, r2, q2⟩ => hm pins s2 sg H2 x vs v us Q I2 r1 r2 q2

theorem lookup_zip {G : Hp} {f : Str} : ∀ {fs : List Str} {xs : List D} {vs : List V} {z : D}, Dens w G xs vs → (fs.zip xs).lookup f = some z → ∃ v, (fs.zip vs).lookup f = some v ∧ Den w G z v
  | [], _, _, _, _, h => by simp at h
  | y :: fs, _, _, _, .nil, h => by simp at h
  | y :: fs, _, _, z, .cons (d := d) (v := v) r t, h => by
    simp only [List.zip_cons_cons, List.lookup_cons] at h ⊢
    cases q : f == y with
    | true =>
      simp only [q] at h
      cases h
      exact ⟨v, rfl, r⟩
    | false =>
      simp only [q] at h
      exact lookup_zip t h
theorem lookup_mem {f : Str} : ∀ {fs : List Str} {xs : List D} {z : D}, (fs.zip xs).lookup f = some z → fs.contains f = true
  | [], _, _, h => by simp at h
  | y :: fs, [], _, h => by simp at h
  | y :: fs, x :: xs, z, h => by
    simp only [List.zip_cons_cons, List.lookup_cons] at h
    cases q : f == y with
    | true =>
      rw [List.contains_cons, q]
      rfl
    | false =>
      simp only [q] at h
      have := lookup_mem h
      simp [List.contains_cons] at this ⊢
      exact .inr this
theorem r_att {o : CE} {f : Str} {y : Expr} {p : Pos} (FT : Fit w F g kk X) (ho : PE X y (rd g w o)) (hb : noBare y = true) : PE X (.Attribute y f p) (rd g w (.att o f)) :=
  PE.of (pe_fld ho (noBare_base hb)) fun sg H Q ⟨kap, G, st, δ, z, st', k, sl, h, q⟩ => by
    obtain ⟨⟨d, s1⟩, h1, h⟩ := Option.bind_eq_some_iff.mp h
    refine ⟨kap, G, st, δ, d, s1, k, sl, h1, fun v kap1 G1 H1 S k1 r => ?_⟩
    cases d with
    | ins C xs =>
      obtain ⟨t, h2, h3⟩ := Option.map_eq_some_iff.mp (show (((w.flds C).zip xs).lookup f).map (fun z => (z, s1)) = some (z, st') from h)
      cases h3
      obtain ⟨a, dx, vs, rfl, ha, hl, da⟩ := den_ins r
      obtain ⟨u, h4, h5⟩ := lookup_zip da h2
      exact ⟨a, w.cls C, dx, _, u, rfl, k1.le _ _ ha, by rw [FT.hk]; exact FT.wok.cl C, by rw [FT.hk]; exact FT.wok.na C f (lookup_mem h2), h4, (q.pre S).here k1 h5⟩
    | _ => cases h
theorem r_prp {j : Nat} {o : CE} {f : Str} {y : Expr} {p : Pos} (FT : Fit w F g kk X) (hd : Dep.isProp f F.deps[j]? = true) (ho : PE X y (rd g w o)) (hb : noBare y = true) : PE X (.Attribute y f p) (rd g w (.prp j o f)) := by
  refine ⟨fun pins s sg H Q I ⟨kap, G, st, δ, z, st', k, sl, h, q⟩ => ?_⟩
  obtain ⟨⟨d, s1⟩, h1, h⟩ := Option.bind_eq_some_iff.mp h
  refine attr_of (noBare_base hb) (thn (ho.run pins s sg H (fun x H1 => ∃ kap1 G1, Step kap G H kap1 G1 H1 ∧ Ok w kap1 G1 s1 H1 ∧ Den w G1 d x) I ⟨kap, G, st, δ, d, s1, k, sl, h1, fun v kap1 G1 H1 S k1 r => ⟨kap1, G1, S, k1, r⟩⟩) fun v t1 ⟨x, H1, I1, r1, kap1, G1, S, k1, rx⟩ => ?_)
  cases d with
  | ins C xs =>
    cases hg : g[j]? with
    | none => simp only [hg] at h; cases h
    | some sem =>
      simp only [hg] at h
      have h4 := fstOf_some h
      cases hD : F.deps[j]? with
      | none => rw [hD] at hd; cases hd
      | some dp =>
        rw [hD] at hd
        cases dp with
        | prop y =>
          have ey : y = f := eq_of_beq hd
          subst ey
          obtain ⟨p0, fa, hP, fd, ps, hbn, FO⟩ := FT.deps j _ _ hD hg (fun z => absurd z Bool.false_ne_true) C
          obtain ⟨a, dx, vs, rfl, ha, hl, da⟩ := den_ins rx
          cases r1
          refine getprop_ok (E := fun _ _ _ => False) I1 (k1.le _ _ ha) (by rw [FT.hk]; exact FT.wok.cl C) hP FO (FT.room.mono (Nat.le_succ _)) hbn .nil (fun _ _ _ _ _ _ _ z => False.elim z) ?_
          exact ⟨kap1, G1, s1, [.d (.ins C xs)], _, _, k1, .cons (show Den w G1 (.ins C xs) (.ref a) from rx) .nil, h4, fun v kap2 G2 H2 S2 k2 rv => q v kap2 G2 H2 (S.trans S2) k2 rv⟩
        | _ => cases hd
  | _ => cases h
end
section
variable {prog : Program} {wd : World} {A : Around} {E : Value → Shared → Prop} {s : Shared} {K : PySem.W.Frag} {x C f : Addr} {ox : Obj} {odd : Option Obj}
theorem len_ownK {Q : Value → Shared → Prop} (X : K.In s.heap) (I : PySem.W.InstAt s.heap x ox C odd) (hs : PySem.W.findIn K (.ref C) "__len__" = some (some (.ref f))) (hf : PySem.W.isFn K (.ref f) = true)
    (h : wpAny (model prog wd) A.in1 (call (.ref f) [.ref x]) (fun r s' => ∃ n u, r = Value.int n u ∧ 0 ≤ n ∧ n < 2 ^ 63 ∧ Q (.int n s'.toks) { s' with toks := s'.toks + 1 }) E s) : wpAny (model prog wd) A (call (.builtin "len") [.ref x]) Q E s := by
  refine Calls.call_function_entry kind_len plain_len entry_len (args_len1 _) ?_
  unfold Builtin.«len»
  refine wpAny_bind (m := oneArg "len" _) (wpAny_pure ?_)
  refine wpAny_bind (m := callSpecial? (.ref x) (Str.ofString "__len__")) (PySem.W.special_fn X I hs (beq_iff_eq.mp hf) (wpAny_mono h (fun r s' hr => ?_) fun _ _ y => y))
  obtain ⟨n, u, rfl, h0, h1, hq⟩ := hr
  refine wpAny_bind (wpAny_holding (wpAny_pure ?_))
  refine wpAny_bind (wpAny_letGo ?_)
  show wpAny _ _ (if n < 0 then _ else _) _ _ _
  rw [if_neg (by omega)]
  show wpAny _ _ (if n ≥ 2 ^ 63 then _ else _) _ _ _
  rw [if_neg (by omega)]
  exact wpAny_bind (wpAny_mkInt (wpAny_pure ⟨_, rfl, hq⟩))
end
end DL

set_option Elab.async false
set_option linter.all false
set_option autoImplicit false
set_option maxRecDepth 100000
set_option maxHeartbeats 400000
namespace DL
open PySem L2 PySem.Spec PyProof.Rows

def ItW (C : Hp → Prop) (n : Nat) (row : Nat → List V → Prop) : It :=
  ⟨fun i H => C H ∧ i < n, fun i H v H' => ∃ T vs, v = .ref T ∧ H T = none ∧ H' = upd H T (.tup vs) ∧ row i vs, fun i H => C H ∧ i = n⟩
theorem turn_ofT {P : Program} {w : World} {K : PySem.W.Frag} {elts : List Expr} {kk : Nat} {tpos : Pos} {it : Addr} {fp : List Addr} {tn : Nat → Heap → Prop} {C : Hp → Prop} {n : Nat} {row : Nat → List V → Prop}
    (mem : it ∈ fp) (obj : ∀ i h, tn i h → ∀ b ∈ fp, ∃ o, h.get? b = some o ∧ ∀ v, o.data ≠ .cell v) (keep : ∀ i h h', tn i h → (∀ b ∈ fp, ∀ o, h.get? b = some o → h'.get? b = some o) → tn i h')
    (mk : ∀ (X : Cx), X.prog = P → X.w = w → X.K = K → X.calm = true → ∀ (i : Nat) (pins : List (Addr × Obj)) (s : Shared) (σ : L2.St) (H : Hp), Inv X pins σ H s → tn i s.heap → C H →
      ∃ fpW wr Pt St Mid, WalksT P w X.A it fpW wr n Pt St Mid ∧ St i s.heap ∧ (∀ b ∈ wr, b ∈ fp) ∧ (∀ i vals, Pt i vals → ∃ vs, row i vs ∧ Vals vs vals.toList ∧ vs.length ≤ sizeLine) ∧ (∀ i h, St i h → tn i h))
    (self : ∀ (A : Around) (i : Nat) (s : Shared) (Q : Value → Shared → Prop) (E : Value → Shared → Prop), tn i s.heap → Q (.ref it) s → wpAny (model P w) A (pyIter (.ref it)) Q E s) :
    Turn P w K (.Tuple elts kk tpos) (ItW C n row) fp it tn where
  mem := mem
  obj := obj
  keep := keep
  item := by
    intro X hP hw hK hc i pins s σ H E I hf st hg
    obtain ⟨hC, hi⟩ := hg
    obtain ⟨fpW, wr, Pt, St, Mid, W, hS, hwr, hrow, htn⟩ := mk X hP hw hK hc i pins s σ H I st hC
    subst hP hw hK
    refine W.item i s _ _ hi hS fun T vals h' tk hp hge hT hM hk => ⟨_, rfl, W.go elts kk tpos i T { s with heap := h', toks := tk } _ _ hM fun h'' hS2 hk2 => ?_⟩
    obtain ⟨vs, hr, rv, hz⟩ := hrow i vals hp
    have hT2 : h''.IsTuple T vals := hT.at fun o e => hk2 T o (W.apart i T h' hM) e
    have new : ObjOk X.prog X.w (upd H T (.tup vs)) h'' T (.tup vs) := by
      obtain ⟨o, e, c, m, d⟩ := hT2
      refine ⟨hz, vals.toList, rv, o, e, c, m, ?_⟩
      rw [d]
    have I1 : Inv X pins σ (upd H T (.tup vs)) { s with heap := h'', toks := tk } :=
      I.turnedNew (ch := fp) (fun b o hb q => hk2 b o (fun z => hb (hwr b z)) (hk b o (fun z => hb (hwr b z)) q)) hf hge new
    refine ⟨.ref T, _, I1, rfl, ⟨T, vs, rfl, I.hok.fresh hge, rfl, hr⟩, htn _ _ hS2, fun b hb => ?_⟩
    obtain ⟨o, e, _⟩ := obj i s.heap st b hb
    rw [upd_ne (Nat.ne_of_lt (Nat.lt_of_lt_of_le (Heap.lt_size e) hge))]
    exact (hf b hb).1
  done := by
    intro X hP hw hK hc i pins s σ H E I hf st hg
    obtain ⟨hC, hi⟩ := hg
    obtain ⟨fpW, wr, Pt, St, Mid, W, hS, hwr, hrow, htn⟩ := mk X hP hw hK hc i pins s σ H I st hC
    subst hP hw hK hi
    exact W.done s _ _ hS fun h' tk hk => ⟨rfl, I.turnedL (ch := fp) (fun b o hb q => hk b o (fun z => hb (hwr b z)) q) hf⟩
  self := self

def SqB (K : PySem.W.Frag) (t : Bool) (H : Hp) (a : Addr) (vs : List V) : Prop := if t then SqT K H a vs else SqL K H a vs
def ItB (t : Bool) (h : Heap) (it a : Addr) (i : Nat) : Prop := if t then h.IsTupleIter it a i else h.IsListIter it a i
def IsB (t : Bool) (h : Heap) (a : Addr) (its : Array Value) : Prop := if t then h.IsTuple a its else h.IsList a its
def objB (t : Bool) (a : Addr) : Obj := if t then { cls := .type "tuple_iterator", data := .fields #[.ref a, .int 0 0] } else { cls := .type "list_iterator", data := .fields #[.ref a, .int 0 0] }
theorem beginsB (t : Bool) (a : Addr) (items : Array Value) : Begins (.ref a) (objB t a) fun h => IsB t h a items := by
  cases t with
  | true => exact begins_tuple a items
  | false => exact begins_list a items
theorem drawsB {prog : Program} {w : World} {A : Around} (t : Bool) (hh : A.handled = none) (it a : Addr) (hne : a ≠ it) (items : Array Value) :
    Draws prog w A it [it, a] items.size (fun i v => items[i]? = some v) (fun i h => ItB t h it a i ∧ IsB t h a items) := by
  cases t with
  | true => exact Draws.tuple hh it a hne items
  | false => exact Draws.list hh it a hne items
theorem itB_new {t : Bool} {h : Heap} {it a : Addr} (e : h.get? it = some (objB t a)) : ItB t h it a 0 := by
  cases t with
  | true => exact ⟨_, e, rfl, rfl⟩
  | false => exact ⟨_, e, rfl, rfl⟩
theorem itB_at {t : Bool} {h h' : Heap} {it a : Addr} {i : Nat} (x : ItB t h it a i) (k : ∀ o, h.get? it = some o → h'.get? it = some o) : ItB t h' it a i := by
  cases t with
  | true => exact Heap.IsTupleIter.at x k
  | false => exact Heap.IsListIter.at x k
theorem itB_obj {t : Bool} {h : Heap} {it a : Addr} {i : Nat} (x : ItB t h it a i) : ∃ o, h.get? it = some o ∧ ∀ v, o.data ≠ .cell v := by
  cases t with
  | true => obtain ⟨o, e, _, d⟩ := x; exact ⟨o, e, fun v q => by rw [d] at q; cases q⟩
  | false => obtain ⟨o, e, _, d⟩ := x; exact ⟨o, e, fun v q => by rw [d] at q; cases q⟩
theorem sqB_at {X : Cx} {pins : List (Addr × Obj)} {sg : L2.St} {H : Hp} {s : Shared} {t : Bool} {a : Addr} {vs : List V} (I : Inv X pins sg H s) (h : SqB X.K t H a vs) : ∃ its : List Value, Vals vs its ∧ IsB t s.heap a its.toArray ∧ vs.length ≤ sizeLine := by
  cases t with
  | true => obtain ⟨its, r, p, z⟩ := I.tuple h; exact ⟨its, r, p, z⟩
  | false => obtain ⟨its, r, p, z⟩ := I.list h; exact ⟨its, r, p.isList, z⟩
theorem isB_lt {t : Bool} {h : Heap} {a : Addr} {its : Array Value} (x : IsB t h a its) : a < h.objs.size := by
  cases t with
  | true => obtain ⟨o, e, _⟩ := x; exact Heap.lt_size e
  | false => obtain ⟨o, e, _⟩ := x; exact Heap.lt_size e
theorem le_sqB {K : PySem.W.Frag} {G H : Hp} {t : Bool} {a : Addr} {vs : List V} (h : Le G H) (x : SqB K t G a vs) : SqB K t H a vs := by
  cases t with
  | true => exact h.st x
  | false => exact h.sl x
theorem vals_get {vs : List V} {its : List Value} (r : Vals vs its) {i : Nat} {u : Value} (h : its.toArray[i]? = some u) : ∃ v, vs[i]? = some v ∧ RelV v u := by
  have h2 : its[i]? = some u := by simpa using h
  obtain ⟨hl, e⟩ := List.getElem?_eq_some_iff.mp h2
  obtain ⟨v, h3, h4⟩ := vals_ix r hl
  rw [e] at h4
  exact ⟨v, h3, h4⟩

theorem meets_enum_B1 {v : Value} {o : Obj} {H : Heap → Prop} (B : Begins v o H) :
    Meets (Builtin.«enumerate.__new__» ⟨[.type "enumerate", v], []⟩) (fun _ R s => H s.heap ∧
      R (.ok (.ret (.ref (s.heap.push o).objs.size))) { s with heap := (s.heap.push o).push { cls := .type "enumerate", data := .fields #[.none, .bool false, .ref s.heap.objs.size, rawInt 0, .none, .none] } }) :=
  .of_wp fun prog w A R s h => by
    obtain ⟨hp, g, d, tk, os⟩ := s; obtain ⟨h1, h⟩ := h
    have hsub := sub_enumerate
    have q1 : ∀ {A' : Around} {E : Value → Shared → Prop} {Q : Value → Shared → Prop}, Q (.ref hp.objs.size) ⟨hp.push o, g, d, tk, os⟩ → wpAny (model prog w) A' (pyIter v) Q E ⟨hp, g, d, tk, os⟩ :=
      fun q => B.iter prog w _ _ ⟨hp, g, d, tk, os⟩ _ h1 q
    wp_walk using q1
    refine wpAny_stack_any fun st => wpAny_pure ?_
    split
    · rename_i c _ _ _ _ _
      cases (c == Value.type "enumerate")
      · wp_walk using q1
        exact ⟨_, rfl, h⟩
      · wp_walk using q1
        exact ⟨_, rfl, h⟩
    · wp_walk using q1
      exact ⟨_, rfl, h⟩
section
variable {prog : Program} {w : World} {A : Around} {E : Value → Shared → Prop} {s : Shared}
theorem enum_begins1 {v : Value} {o : Obj} {H : Heap → Prop} {Q : Value → Shared → Prop} (B : Begins v o H) (h1 : H s.heap)
    (h : ∀ h', IsEnum h' (s.heap.objs.size + 1) s.heap.objs.size 0 .none → h'.get? s.heap.objs.size = some o → h'.objs.size = s.heap.objs.size + 2 →
      (∀ b o, s.heap.get? b = some o → h'.get? b = some o) → Q (.ref (s.heap.objs.size + 1)) { s with heap := h' }) :
    wpAny (model prog w) A (call (.type "enumerate") [v]) Q E s := by
  refine callType_new F.called_enumerate (by decide) (F.typeCall_enumerate_1 _) (F.newCall_enumerate_1 _) (fun obj => F.args_object_init_2 obj _) F.entry_enumerate_new
    (meets_enum_B1 B) ⟨h1, ?_⟩
  have hz : (s.heap.push o).objs.size = s.heap.objs.size + 1 := Heap.size_push ..
  show _ ∧ _
  rw [hz]
  have he : IsEnum ((s.heap.push o).push { cls := .type "enumerate", data := .fields #[.none, .bool false, .ref s.heap.objs.size, rawInt 0, .none, .none] }) (s.heap.objs.size + 1) s.heap.objs.size 0 .none := by
    have := Heap.get?_push_size (s.heap.push o) (o := { cls := .type "enumerate", data := .fields #[.none, .bool false, .ref s.heap.objs.size, rawInt 0, .none, .none] }) rfl
    rw [hz] at this; exact this
  refine ⟨⟨_, he, rfl⟩, h _ he (Heap.get?_push_of_some _ (Heap.get?_push_size _ B.free)) (by rw [Heap.size_push, hz]) fun b o x => Heap.get?_push_of_some _ (Heap.get?_push_of_some _ x)⟩
end
def rowE (vs : List V) (i : Nat) (r : List V) : Prop := ∃ x, vs[i]? = some x ∧ r = [.int (i : Nat), x]
def ItE (K : PySem.W.Frag) (t : Bool) (a : Addr) (vs : List V) : It := ItW (fun H => SqB K t H a vs) vs.length (rowE vs)
theorem turn_enumB {P : Program} {w : World} {K : PySem.W.Frag} {elts : List Expr} {kk : Nat} {tpos : Pos} (t : Bool) (a e it : Addr) (vs : List V) (hei : e ≠ it) (hea : e ≠ a) (hai : a ≠ it) :
    Turn P w K (.Tuple elts kk tpos) (ItE K t a vs) [e, it] e (fun i h => (∃ old, IsEnum h e it ((i : Nat) : Int) old) ∧ ItB t h it a i) :=
  turn_ofT (by simp) (fun i h st b hb => by
      obtain ⟨⟨old, he⟩, hi⟩ := st
      have e' : b = e ∨ b = it := by simpa using hb
      rcases e' with z | z
      · rw [z]; exact ⟨_, he, fun v q => nomatch q⟩
      · rw [z]; exact itB_obj hi)
    (fun i h h' st k => let ⟨⟨old, he⟩, hi⟩ := st; ⟨⟨old, k e (by simp) _ he⟩, itB_at hi fun o q => k it (by simp) o q⟩)
    (fun X hP hw hK hc i pins s σ H I st hC => by
      subst hP hw hK
      obtain ⟨⟨old, he⟩, hi⟩ := st
      obtain ⟨its, rv, hb, hz⟩ := sqB_at I hC
      have hl := rv.length
      have W := WalksT.enumerateD (prog := X.prog) (w := X.w) (A := X.A) (drawsB (A := X.A.in1) t (I.ok.hd hc) it a hai its.toArray) e hei (by simp [hei, hea]) (by simp)
      have en : its.toArray.size = vs.length := by simp [hl]
      rw [en] at W
      refine ⟨_, _, _, _, _, W, ⟨⟨old, he⟩, hi, hb⟩, fun b q => q, fun j vals hp => ?_, fun j h hs => ⟨hs.1, hs.2.1⟩⟩
      obtain ⟨tk, x, hx, rfl⟩ := hp
      obtain ⟨v, h1, h2⟩ := vals_get rv hx
      exact ⟨_, ⟨v, h1, rfl⟩, .cons ⟨_, rfl⟩ (.cons h2 .nil), by show 2 ≤ sizeLine; rw [sizeLine_eq]; decide⟩)
    (fun A i s Q E st h => let ⟨⟨_, he⟩, _⟩ := st; wpAny_pyIter_enum he h)

def row2 (v1 v2 : List V) (i : Nat) (r : List V) : Prop := ∃ x y, v1[i]? = some x ∧ v2[i]? = some y ∧ r = [x, y]
def ItZ2 (K : PySem.W.Frag) (t1 : Bool) (a1 : Addr) (v1 : List V) (t2 : Bool) (a2 : Addr) (v2 : List V) : It := ItW (fun H => SqB K t1 H a1 v1 ∧ SqB K t2 H a2 v2) (min v1.length v2.length) (row2 v1 v2)
theorem turn_zipB2 {P : Program} {w : World} {K : PySem.W.Frag} {elts : List Expr} {kk : Nat} {tpos : Pos} (t1 t2 : Bool) {a1 a2 z TI TO i1 i2 : Addr} (v1 v2 : List V) (S : ZipSep2 z TI TO i1 i2 [i1, a1] [i2, a2]) (h1 : a1 ≠ i1) (h2 : a2 ≠ i2) :
    Turn P w K (.Tuple elts kk tpos) (ItZ2 K t1 a1 v1 t2 a2 v2) [z, TI, TO, i1, i2] z (fun i h => IsZip h z TI TO .none ∧ IsTupOf2 h TI (.ref i1) (.ref i2) ∧ (∃ x y, IsTupOf2 h TO x y) ∧ ItB t1 h i1 a1 i ∧ ItB t2 h i2 a2 i) :=
  turn_ofT (by simp) (fun i h st b hb => by
      obtain ⟨hz, hTI, ⟨x, y, hTO⟩, q1, q2⟩ := st
      have e' : b = z ∨ b = TI ∨ b = TO ∨ b = i1 ∨ b = i2 := by simpa using hb
      rcases e' with q | q | q | q | q
      · rw [q]; exact ⟨_, hz, fun v q => nomatch q⟩
      · rw [q]; exact ⟨_, hTI, fun v q => nomatch q⟩
      · rw [q]; exact ⟨_, hTO, fun v q => nomatch q⟩
      · rw [q]; exact itB_obj q1
      · rw [q]; exact itB_obj q2)
    (fun i h h' st k => by
      obtain ⟨hz, hTI, ⟨x, y, hTO⟩, q1, q2⟩ := st
      exact ⟨k z (by simp) _ hz, k TI (by simp) _ hTI, ⟨x, y, k TO (by simp) _ hTO⟩, itB_at q1 fun o q => k i1 (by simp) o q, itB_at q2 fun o q => k i2 (by simp) o q⟩)
    (fun X hP hw hK hc i pins s σ H I st hC => by
      subst hP hw hK
      obtain ⟨hz, hTI, hTO, q1, q2⟩ := st
      obtain ⟨its1, r1, b1, _⟩ := sqB_at I hC.1
      obtain ⟨its2, r2, b2, _⟩ := sqB_at I hC.2
      have l1 := r1.length
      have l2 := r2.length
      have W := WalksT.zipD2 (prog := X.prog) (w := X.w) (A := X.A) S (drawsB (A := X.A.in1) t1 (I.ok.hd hc) i1 a1 h1 its1.toArray) (drawsB (A := X.A.in1) t2 (I.ok.hd hc) i2 a2 h2 its2.toArray)
      have en : min its1.toArray.size its2.toArray.size = min v1.length v2.length := by simp [l1, l2]
      rw [en] at W
      refine ⟨_, _, _, _, _, W, ⟨hz, hTI, hTO, ⟨q1, b1⟩, ⟨q2, b2⟩⟩, fun b q => ?_, fun j vals hp => ?_, fun j h hs => ⟨hs.1, hs.2.1, hs.2.2.1, hs.2.2.2.1.1, hs.2.2.2.2.1⟩⟩
      · have e' : b = z ∨ b = TO ∨ b = i1 ∨ b = i2 := by simpa using q
        rcases e' with e | e | e | e <;> simp [e]
      · obtain ⟨x, y, hx, hy, rfl⟩ := hp
        obtain ⟨v, h1, h2⟩ := vals_get r1 hx
        obtain ⟨v', h1', h2'⟩ := vals_get r2 hy
        exact ⟨_, ⟨v, v', h1, h1', rfl⟩, .cons h2 (.cons h2' .nil), by show 2 ≤ sizeLine; rw [sizeLine_eq]; decide⟩)
    (fun A i s Q E st h => wpAny_pyIter_zip st.1 h)
def row3 (v1 v2 v3 : List V) (i : Nat) (r : List V) : Prop := ∃ x y z, v1[i]? = some x ∧ v2[i]? = some y ∧ v3[i]? = some z ∧ r = [x, y, z]
def ItZ3 (K : PySem.W.Frag) (t1 : Bool) (a1 : Addr) (v1 : List V) (t2 : Bool) (a2 : Addr) (v2 : List V) (t3 : Bool) (a3 : Addr) (v3 : List V) : It :=
  ItW (fun H => SqB K t1 H a1 v1 ∧ SqB K t2 H a2 v2 ∧ SqB K t3 H a3 v3) (min (min v1.length v2.length) v3.length) (row3 v1 v2 v3)
theorem turn_zipB3 {P : Program} {w : World} {K : PySem.W.Frag} {elts : List Expr} {kk : Nat} {tpos : Pos} (t1 t2 t3 : Bool) {a1 a2 a3 z TI TO i1 i2 i3 : Addr} (v1 v2 v3 : List V) (S : ZipSep3 z TI TO i1 i2 i3 [i1, a1] [i2, a2] [i3, a3]) (h1 : a1 ≠ i1) (h2 : a2 ≠ i2) (h3 : a3 ≠ i3) :
    Turn P w K (.Tuple elts kk tpos) (ItZ3 K t1 a1 v1 t2 a2 v2 t3 a3 v3) [z, TI, TO, i1, i2, i3] z (fun i h => IsZip h z TI TO .none ∧ IsTupOf3 h TI (.ref i1) (.ref i2) (.ref i3) ∧ (∃ x y u, IsTupOf3 h TO x y u) ∧ ItB t1 h i1 a1 i ∧ ItB t2 h i2 a2 i ∧ ItB t3 h i3 a3 i) :=
  turn_ofT (by simp) (fun i h st b hb => by
      obtain ⟨hz, hTI, ⟨x, y, u, hTO⟩, q1, q2, q3⟩ := st
      have e' : b = z ∨ b = TI ∨ b = TO ∨ b = i1 ∨ b = i2 ∨ b = i3 := by simpa using hb
      rcases e' with q | q | q | q | q | q
      · rw [q]; exact ⟨_, hz, fun v q => nomatch q⟩
      · rw [q]; exact ⟨_, hTI, fun v q => nomatch q⟩
      · rw [q]; exact ⟨_, hTO, fun v q => nomatch q⟩
      · rw [q]; exact itB_obj q1
      · rw [q]; exact itB_obj q2
      · rw [q]; exact itB_obj q3)
    (fun i h h' st k => by
      obtain ⟨hz, hTI, ⟨x, y, u, hTO⟩, q1, q2, q3⟩ := st
      exact ⟨k z (by simp) _ hz, k TI (by simp) _ hTI, ⟨x, y, u, k TO (by simp) _ hTO⟩, itB_at q1 fun o q => k i1 (by simp) o q, itB_at q2 fun o q => k i2 (by simp) o q, itB_at q3 fun o q => k i3 (by simp) o q⟩)
    (fun X hP hw hK hc i pins s σ H I st hC => by
      subst hP hw hK
      obtain ⟨hz, hTI, hTO, q1, q2, q3⟩ := st
      obtain ⟨its1, r1, b1, _⟩ := sqB_at I hC.1
      obtain ⟨its2, r2, b2, _⟩ := sqB_at I hC.2.1
      obtain ⟨its3, r3, b3, _⟩ := sqB_at I hC.2.2
      have l1 := r1.length
      have l2 := r2.length
      have l3 := r3.length
      have W := WalksT.zipD3 (prog := X.prog) (w := X.w) (A := X.A) S (drawsB (A := X.A.in1) t1 (I.ok.hd hc) i1 a1 h1 its1.toArray) (drawsB (A := X.A.in1) t2 (I.ok.hd hc) i2 a2 h2 its2.toArray) (drawsB (A := X.A.in1) t3 (I.ok.hd hc) i3 a3 h3 its3.toArray)
      have en : min (min its1.toArray.size its2.toArray.size) its3.toArray.size = min (min v1.length v2.length) v3.length := by simp [l1, l2, l3]
      rw [en] at W
      refine ⟨_, _, _, _, _, W, ⟨hz, hTI, hTO, ⟨q1, b1⟩, ⟨q2, b2⟩, ⟨q3, b3⟩⟩, fun b q => ?_, fun j vals hp => ?_, fun j h hs => ⟨hs.1, hs.2.1, hs.2.2.1, hs.2.2.2.1.1, hs.2.2.2.2.1.1, hs.2.2.2.2.2.1⟩⟩
      · have e' : b = z ∨ b = TO ∨ b = i1 ∨ b = i2 ∨ b = i3 := by simpa using q
        rcases e' with e | e | e | e | e <;> simp [e]
      · obtain ⟨x, y, u, hx, hy, hu, rfl⟩ := hp
        obtain ⟨v, h1, h2⟩ := vals_get r1 hx
        obtain ⟨v', h1', h2'⟩ := vals_get r2 hy
        obtain ⟨v'', h1'', h2''⟩ := vals_get r3 hu
        exact ⟨_, ⟨v, v', v'', h1, h1', h1'', rfl⟩, .cons h2 (.cons h2' (.cons h2'' .nil)), by show 3 ≤ sizeLine; rw [sizeLine_eq]; decide⟩)
    (fun A i s Q E st h => wpAny_pyIter_zip st.1 h)

/-- what it yields, over data: an item of the frozen part, or a new tracked tuple -/
def YD (w : Wd) (G0 : Hp) (tp : Bool) (ds : List D) (i : Nat) (H : Hp) (x : V) (H' : Hp) : Prop :=
  (tp = false ∧ H' = H ∧ ∃ d, ds[i]? = some d ∧ Den w G0 d x) ∨ (tp = true ∧ ∃ T vs xs, x = .ref T ∧ H T = none ∧ H' = upd H T (.tup vs) ∧ ds[i]? = some (.tup xs) ∧ Dens w G0 xs vs)
def Src (w : Wd) (J : It) (G0 : Hp) (tp : Bool) (ds : List D) : Prop := Walk J ds.length (fun H => Le G0 H) (YD w G0 tp ds)
def rdI (g : List DSem) (w : Wd) (tp : Bool) (ce : CE) : TI := fun sg H R => ∃ kap G st δ d st' xs, Ok w kap G st H ∧ Slots w kap G δ sg ∧ ev g w.flds ce δ st = some (d, st') ∧ itemsD d = some xs ∧
  ∀ J kap' G' H', Step kap G H kap' G' H' → Ok w kap' G' st' H' → Src w J G' tp xs → R J H'
theorem PI.of {X : Cx} {tg e : Expr} {t t' : TI} (h : PI X tg e t) (i : ∀ sg H R, t' sg H R → t sg H R) : PI X tg e t' := ⟨fun pins s sg H R I q => h.run pins s sg H R I (i sg H R q)⟩
theorem PI.or {X : Cx} {tg e : Expr} {t t' : TI} (h : PI X tg e t) (h' : PI X tg e t') : PI X tg e (fun sg H R => t sg H R ∨ t' sg H R) := ⟨fun pins s sg H R I q => q.elim (h.run pins s sg H R I) (h'.run pins s sg H R I)⟩
section
variable {w : Wd} {F : Fx} {g : List DSem} {kk : Nat} {X : Cx}
theorem src_list {G : Hp} {a : Addr} {xs : List D} {vs : List V} {K : PySem.W.Frag} (hk : K = w.K) (h : SqL w.K G a vs) (da : Dens w G xs vs) : Src w (Itl K a) G false xs := by
  subst hk
  unfold Src
  rw [da.length]
  refine walk_list.mono (fun H le => le.sl h) fun i H x H' hi le y => .inl ⟨rfl, y.1, ?_⟩
  exact da.getV y.2
theorem src_tup {G : Hp} {a : Addr} {xs : List D} {vs : List V} {K : PySem.W.Frag} (h : SqT K G a vs) (da : Dens w G xs vs) : Src w (Itt K a) G false xs := by
  unfold Src
  rw [da.length]
  refine walk_tup.mono (fun H le => le.st h) fun i H x H' hi le y => .inl ⟨rfl, y.1, ?_⟩
  exact da.getV y.2
theorem src_str {G : Hp} {x : Str} : Src w (Its x) G false (chars x) := by
  unfold Src
  have e : (chars x).length = x.cps.size := by unfold chars; simp
  rw [e]
  refine walk_str.mono (fun _ _ => True.intro) fun i H v H' hi le y => .inl ⟨rfl, y.1, ?_⟩
  obtain ⟨c, h1, rfl⟩ := y.2
  refine ⟨.str ⟨#[c]⟩, ?_, .str _⟩
  unfold chars
  rw [List.getElem?_map]
  have : x.cps.toList[i]? = some c := by simpa using h1
  rw [this]
  rfl
theorem src_rng {G : Hp} {lo : Int} {n : Nat} : Src w (Itr lo n) G false (rngD lo n) := by
  have hl : ∀ (n : Nat) (lo : Int), (rngD lo n).length = n := by
    intro n
    induction n with
    | zero => intro lo; rfl
    | succ n ih => intro lo; show (rngD (lo + 1) n).length + 1 = n + 1; rw [ih]
  have hg : ∀ (n : Nat) (lo : Int) (i : Nat), i < n → (rngD lo n)[i]? = some (.int (lo + i)) := by
    intro n
    induction n with
    | zero => intro lo i h; omega
    | succ n ih =>
      intro lo i h
      cases i with
      | zero => show some (D.int lo) = _; simp
      | succ i =>
        show (rngD (lo + 1) n)[i]? = _
        rw [ih (lo + 1) i (by omega)]
        congr 2
        omega
  unfold Src
  rw [hl]
  refine walk_range.mono (fun _ _ => True.intro) fun i H v H' hi le y => .inl ⟨rfl, y.1, ?_⟩
  obtain ⟨_, rfl⟩ := y
  exact ⟨_, hg n lo i hi, .int _⟩
/-- a list, a tuple, a text -/
theorem ri_plain {ce : CE} {tg e : Expr} (FT : Fit w F g kk X) (he : PE X e (rd g w ce)) : PI X tg e (rdI g w false ce) :=
  PI.of (PI.or (pi_list he) (PI.or (pi_tup he) (pi_str he))) fun sg H R ⟨kap, G, st, δ, d, st', xs, k, sl, h, hx, q⟩ => by
    have hk := FT.hk
    cases d with
    | lst ys =>
      cases hx
      refine .inl ⟨kap, G, st, δ, _, st', k, sl, h, fun v kap1 G1 H1 S k1 r => ?_⟩
      obtain ⟨a, vs, rfl, ha, da⟩ := den_lst r
      exact ⟨a, rfl, ⟨vs, by rw [hk]; exact k1.le.sl ha⟩, q _ kap1 G1 H1 S k1 (src_list hk ha da)⟩
    | tup ys =>
      cases hx
      refine .inr (.inl ⟨kap, G, st, δ, _, st', k, sl, h, fun v kap1 G1 H1 S k1 r => ?_⟩)
      obtain ⟨a, vs, o, rfl, ha, ho, da⟩ := den_tup r
      exact ⟨a, rfl, ⟨vs, k1.le.st (frzT ha)⟩, q _ kap1 G1 H1 S k1 (src_tup (frzT ha) da)⟩
    | str y =>
      cases hx
      refine .inr (.inr ⟨kap, G, st, δ, _, st', k, sl, h, fun v kap1 G1 H1 S k1 r => ?_⟩)
      cases r
      exact ⟨y, rfl, q _ kap1 G1 H1 S k1 src_str⟩
    | _ => cases hx
theorem ri_rng1 {a : CE} {tg x : Expr} {f : Str} {p q : Pos} (gf : Gl X f ∧ (f == ("__debug__" : Str)) = false ∧ f ≠ "__name__") (hf : f = "range") (mf : X.mg f = none) (hs : star x = false) (ha : PE X x (rd g w a)) :
    PI X tg (.Call (.Name f q) [x] [] p) (rdI g w false (.rng1 a)) := by
  subst hf
  refine PI.of (pi_range1 gf.1 mf (pa_cons ha pa_nil (starEach_cons hs)) (starEach_cons hs)) fun sg H R ⟨kap, G, st, δ, d, st', xs, k, sl, h, hx, q⟩ => ?_
  obtain ⟨⟨d1, s1⟩, h1, h⟩ := Option.bind_eq_some_iff.mp h
  refine ⟨kap, G, st, δ, d1, s1, k, sl, h1, fun v kap1 G1 H1 S k1 r => ?_⟩
  cases d1 with
  | int i =>
    obtain ⟨c, e⟩ := if_some (show (if -1000000 ≤ i ∧ i ≤ lim then some (D.lst (rngD 0 i.toNat), s1) else none) = some (d, st') from h)
    cases e
    cases hx
    cases r
    have hl : (lim : Int) = 1000000 := rfl
    exact ⟨i, rfl, by omega, by omega, q _ kap1 G1 H1 S k1 src_rng⟩
  | _ => cases h
theorem ri_rng2 {a b : CE} {tg x y : Expr} {f : Str} {p q : Pos} (gf : Gl X f ∧ (f == ("__debug__" : Str)) = false ∧ f ≠ "__name__") (hf : f = "range") (mf : X.mg f = none) (hs : star x = false) (hs2 : star y = false) (ha : PE X x (rd g w a)) (hb : PE X y (rd g w b)) :
    PI X tg (.Call (.Name f q) [x, y] [] p) (rdI g w false (.rng2 a b)) := by
  subst hf
  have e1 : starEach [y] X.env = (false, eval y X.env) :: starEach [] X.env := starEach_cons hs2
  have e2 : starEach [x, y] X.env = [(false, eval x X.env), (false, eval y X.env)] := by
    rw [starEach_cons hs, e1]
    rfl
  refine PI.of (pi_range2 gf.1 mf (pa_cons ha (pa_cons hb pa_nil e1) (starEach_cons hs)) e2 e1) fun sg H R ⟨kap, G, st, δ, d, st', xs, k, sl, h, hx, q⟩ => ?_
  obtain ⟨⟨d1, s1⟩, h1, h⟩ := Option.bind_eq_some_iff.mp h
  obtain ⟨⟨d2, s2⟩, h2, h⟩ := Option.bind_eq_some_iff.mp h
  refine r2_of k sl h1 h2 fun u v kap1 G1 H1 S k1 ru rv => ?_
  cases d1 with
  | int i =>
    cases d2 with
    | int j =>
      obtain ⟨c, e⟩ := if_some (show (if -1000000 ≤ i ∧ i ≤ lim ∧ -1000000 ≤ j ∧ j ≤ lim then some (D.lst (rngD i (j - i).toNat), s2) else none) = some (d, st') from h)
      cases e
      cases hx
      cases ru
      cases rv
      have hl : (lim : Int) = 1000000 := rfl
      exact ⟨i, j, rfl, by omega, q _ kap1 G1 H1 S k1 src_rng⟩
    | _ => cases h
  | _ => cases h
/-- a list or a tuple, as a source of zip and enumerate -/
theorem den_B {G : Hp} {d : D} {v : V} {xs : List D} (hk : X.K = w.K) (h : Den w G d v) (hx : d = .lst xs ∨ d = .tup xs) : ∃ t a vs, v = .ref a ∧ SqB X.K t G a vs ∧ Dens w G xs vs := by
  rcases hx with hx | hx
  · subst hx
    obtain ⟨a, vs, rfl, ha, da⟩ := den_lst h
    exact ⟨false, a, vs, rfl, by rw [hk]; exact ha, da⟩
  · subst hx
    obtain ⟨a, vs, o, rfl, ha, ho, da⟩ := den_tup h
    exact ⟨true, a, vs, rfl, frzT ha, da⟩
theorem fp_new {pins : List (Addr × Obj)} {sg : L2.St} {H : Hp} {s : Shared} (I : Inv X pins sg H s) {c : Addr} (h : s.heap.objs.size ≤ c) : FpOk X pins H c := I.fpOk h (I.hok.fresh h)
theorem ri_enum {a : CE} {x : Expr} {f : Str} {p q tpos : Pos} {elts : List Expr} {n : Nat} (FT : Fit w F g kk X) (gf : Gl X f ∧ (f == ("__debug__" : Str)) = false ∧ f ≠ "__name__") (hf : f = "enumerate") (mf : X.mg f = none) (hs : star x = false) (ha : PE X x (rd g w a)) :
    PI X (.Tuple elts n tpos) (.Call (.Name f q) [x] [] p) (rdI g w true (.enm a)) := by
  subst hf
  have hk := FT.hk
  refine ⟨fun pins s sg H R I ⟨kap, G, st, δ, d, st', xs, k, sl, h, hx, q⟩ => ?_⟩
  obtain ⟨⟨d1, s1⟩, h1, h⟩ := Option.bind_eq_some_iff.mp h
  have hd : ∃ ys, (d1 = .lst ys ∨ d1 = .tup ys) ∧ d = .lst (enumD 0 ys) ∧ st' = s1 := by
    cases d1 <;> cases h
    · exact ⟨_, .inl rfl, rfl, rfl⟩
    · exact ⟨_, .inr rfl, rfl, rfl⟩
  obtain ⟨ys, hys, rfl, rfl⟩ := hd
  cases hx
  have pa := pa_cons (X := X) ha pa_nil (starEach_cons hs)
  refine Call_ (ld_blt I gf.1 mf boot_enumerate (PyProof.Rows.callWith_type1 (thn (pa.run p pins s sg H (fun vs H1 => ∃ kap1 G1 v, vs = [v] ∧ Step kap G H kap1 G1 H1 ∧ Ok w kap1 G1 st' H1 ∧ Den w G1 d1 v) I
    ⟨kap, G, st, δ, d1, st', k, sl, h1, fun v kap1 G1 H1 S k1 r => ⟨kap1, G1, v, rfl, S, k1, r⟩⟩) fun us s1 ⟨vs, H1, I1, r1, kap1, G1, v, e1, S, k1, rv⟩ => ?_) (starEach_cons hs) rfl))
  subst e1
  obtain ⟨u, rfl, ru⟩ := vals1 r1
  obtain ⟨t, a0, vs, rfl, hq, da⟩ := den_B hk rv hys
  cases ru
  obtain ⟨its, rvs, hb, hz⟩ := sqB_at I1 (le_sqB k1.le hq)
  have hl := da.length
  refine enum_begins1 (beginsB t a0 its.toArray) hb fun h' he hit hsz hkp => wpAny_pyIter_enum he ?_
  have I2 : Inv X pins sg H1 { s1 with heap := h' } := I1.kept (t' := s1.toks) hkp
  have ea := isB_lt hb
  refine ⟨s1.heap.objs.size + 1, [s1.heap.objs.size + 1, s1.heap.objs.size], _, _, H1, rfl, I2, turn_enumB t a0 (s1.heap.objs.size + 1) s1.heap.objs.size vs (Nat.succ_ne_self _) (Nat.ne_of_gt (Nat.lt_succ_of_lt ea)) (Nat.ne_of_lt ea), ⟨⟨.none, he⟩, itB_new hit⟩, fun b hb2 => ?_, q _ kap1 G1 H1 S k1 ?_⟩
  · have e' : b = s1.heap.objs.size + 1 ∨ b = s1.heap.objs.size := by simpa using hb2
    exact fp_new I1 (by
      rcases e' with z | z
      · rw [z]; exact Nat.le_succ _
      · rw [z]; exact Nat.le_refl _)
  · have en : ∀ (ys : List D) (n : Nat), (enumD n ys).length = ys.length := by
      intro ys
      induction ys with
      | nil => intro n; rfl
      | cons y ys ih => intro n; show (enumD (n + 1) ys).length + 1 = _; rw [ih]; rfl
    have eg : ∀ (ys : List D) (n i : Nat) (y : D), ys[i]? = some y → (enumD n ys)[i]? = some (.tup [.int ((n + i : Nat) : Int), y]) := by
      intro ys
      induction ys with
      | nil => intro n i y h; simp at h
      | cons y0 ys ih =>
        intro n i y h
        cases i with
        | zero =>
          have e0 : y0 = y := by simpa using h
          subst e0
          show some (D.tup [.int n, y0]) = _
          simp
        | succ i =>
          show (enumD (n + 1) ys)[i]? = _
          rw [ih (n + 1) i y (by simpa using h)]
          congr 4
          omega
    unfold Src
    rw [en, hl]
    refine ⟨fun i H2 hi le => ⟨le_sqB le hq, hi⟩, fun H2 le => ⟨le_sqB le hq, rfl⟩, fun i H2 v H3 hi le y => .inr ⟨rfl, ?_⟩⟩
    obtain ⟨T, r, h3, h4, h5, x0, h6, rfl⟩ := y
    obtain ⟨d0, h7, h8⟩ := da.getV h6
    have := eg ys 0 i d0 h7
    rw [Nat.zero_add] at this
    exact ⟨T, _, [.int i, d0], h3, h4, h5, this, .cons (.int _) (.cons h8 .nil)⟩
theorem zipD_len : ∀ xs ys : List D, (zipD xs ys).length = min xs.length ys.length
  | [], _ => by simp [zipD]
  | _ :: _, [] => by simp [zipD]
  | x :: xs, y :: ys => by
    show (zipD xs ys).length + 1 = _
    rw [zipD_len xs ys]
    simp only [List.length_cons]
    omega
theorem zipD_get : ∀ (xs ys : List D) (i : Nat) (x y : D), xs[i]? = some x → ys[i]? = some y → (zipD xs ys)[i]? = some (.tup [x, y])
  | [], _, _, _, _, h, _ => by simp at h
  | _ :: _, [], _, _, _, _, h => by simp at h
  | x0 :: xs, y0 :: ys, 0, x, y, h1, h2 => by
    have e1 : x0 = x := by simpa using h1
    have e2 : y0 = y := by simpa using h2
    rw [e1, e2]; rfl
  | x0 :: xs, y0 :: ys, i + 1, x, y, h1, h2 => zipD_get xs ys i x y (by simpa using h1) (by simpa using h2)
theorem zip3D_len : ∀ xs ys zs : List D, (zip3D xs ys zs).length = min (min xs.length ys.length) zs.length
  | [], _, _ => by simp [zip3D]
  | _ :: _, [], _ => by simp [zip3D]
  | _ :: _, _ :: _, [] => by simp [zip3D]
  | x :: xs, y :: ys, z :: zs => by
    show (zip3D xs ys zs).length + 1 = _
    rw [zip3D_len xs ys zs]
    simp only [List.length_cons]
    omega
theorem zip3D_get : ∀ (xs ys zs : List D) (i : Nat) (x y z : D), xs[i]? = some x → ys[i]? = some y → zs[i]? = some z → (zip3D xs ys zs)[i]? = some (.tup [x, y, z])
  | [], _, _, _, _, _, _, h, _, _ => by simp at h
  | _ :: _, [], _, _, _, _, _, _, h, _ => by simp at h
  | _ :: _, _ :: _, [], _, _, _, _, _, _, h => by simp at h
  | x0 :: xs, y0 :: ys, z0 :: zs, 0, x, y, z, h1, h2, h3 => by
    have e1 : x0 = x := by simpa using h1
    have e2 : y0 = y := by simpa using h2
    have e3 : z0 = z := by simpa using h3
    rw [e1, e2, e3]; rfl
  | x0 :: xs, y0 :: ys, z0 :: zs, i + 1, x, y, z, h1, h2, h3 => zip3D_get xs ys zs i x y z (by simpa using h1) (by simpa using h2) (by simpa using h3)
theorem ri_zip2 {a b : CE} {x y : Expr} {f : Str} {p q tpos : Pos} {elts : List Expr} {n : Nat} (FT : Fit w F g kk X) (gf : Gl X f ∧ (f == ("__debug__" : Str)) = false ∧ f ≠ "__name__") (hf : f = "zip") (mf : X.mg f = none) (hs : star x = false) (hs2 : star y = false) (ha : PE X x (rd g w a)) (hb : PE X y (rd g w b)) :
    PI X (.Tuple elts n tpos) (.Call (.Name f q) [x, y] [] p) (rdI g w true (.zip2 a b)) := by
  subst hf
  have hk := FT.hk
  refine ⟨fun pins s sg H R I ⟨kap, G, st, δ, d, st', xs, k, sl, h, hx, q⟩ => ?_⟩
  obtain ⟨⟨d1, s1⟩, h1, h⟩ := Option.bind_eq_some_iff.mp h
  obtain ⟨⟨d2, s2⟩, h2, h⟩ := Option.bind_eq_some_iff.mp h
  have hd : ∃ ys zs, (d1 = .lst ys ∨ d1 = .tup ys) ∧ (d2 = .lst zs ∨ d2 = .tup zs) ∧ d = .lst (zipD ys zs) ∧ st' = s2 := by
    cases d1 <;> cases d2 <;> cases h
    · exact ⟨_, _, .inl rfl, .inl rfl, rfl, rfl⟩
    · exact ⟨_, _, .inl rfl, .inr rfl, rfl, rfl⟩
    · exact ⟨_, _, .inr rfl, .inl rfl, rfl, rfl⟩
    · exact ⟨_, _, .inr rfl, .inr rfl, rfl, rfl⟩
  obtain ⟨ys, zs, hy, hz, rfl, rfl⟩ := hd
  cases hx
  have pa := pa_cons (X := X) ha (pa_cons hb pa_nil (starEach_cons hs2)) (starEach_cons hs)
  have hn2 : noStars [y] = true := by show (!star y && true) = true; rw [hs2]; rfl
  refine Call_ (ld_blt I gf.1 mf PyProof.Rows.boot_zip (PyProof.Rows.callWith_type1 (thn (pa.run p pins s sg H (fun vs H1 => ∃ kap1 G1 v u, vs = [v, u] ∧ Step kap G H kap1 G1 H1 ∧ Ok w kap1 G1 st' H1 ∧ Den w G1 d1 v ∧ Den w G1 d2 u) I
    (r2_of k sl h1 h2 fun u v kap1 G1 H1 S k1 ru rv => ⟨kap1, G1, u, v, rfl, S, k1, ru, rv⟩)) fun us t1 ⟨vs, H1, I1, r1, kap1, G1, v, u, e1, S, k1, rv, ru⟩ => ?_) (starEach_cons hs) (plain_trees hn2)))
  subst e1
  obtain ⟨w1, w2, rfl, rw1, rw2⟩ := vals2 r1
  obtain ⟨b1, a1, vs1, rfl, q1, da1⟩ := den_B hk rv hy
  obtain ⟨b2, a2, vs2, rfl, q2, da2⟩ := den_B hk ru hz
  cases rw1
  cases rw2
  obtain ⟨its1, rs1, hb1, _⟩ := sqB_at I1 (le_sqB k1.le q1)
  obtain ⟨its2, rs2, hb2, _⟩ := sqB_at I1 (le_sqB k1.le q2)
  have l1 := da1.length
  have l2 := da2.length
  have ea1 := isB_lt hb1
  have ea2 := isB_lt hb2
  refine zip_begins2 (beginsB b1 a1 its1.toArray) (beginsB b2 a2 its2.toArray) hb1 hb2 fun h' hz' hTI hTO hi1 hi2 hsz hkp => wpAny_pyIter_zip hz' ?_
  have I2 : Inv X pins sg H1 { t1 with heap := h' } := I1.kept (t' := t1.toks) hkp
  refine ⟨t1.heap.objs.size + 4, [t1.heap.objs.size + 4, t1.heap.objs.size + 2, t1.heap.objs.size + 3, t1.heap.objs.size, t1.heap.objs.size + 1], _, _, H1, rfl, I2,
    turn_zipB2 b1 b2 vs1 vs2 (zip_sep2 (N := t1.heap.objs.size) (fp1 := [a1]) (fp2 := [a2]) (fun b hb => by rw [List.mem_singleton.mp hb]; exact ea1) (fun b hb => by rw [List.mem_singleton.mp hb]; exact ea2)) (Nat.ne_of_lt ea1) (Nat.ne_of_lt (Nat.lt_succ_of_lt ea2)),
    ⟨hz', hTI, ⟨_, _, hTO⟩, itB_new hi1, itB_new hi2⟩, fun b hb3 => ?_, q _ kap1 G1 H1 S k1 ?_⟩
  · have e' : b = t1.heap.objs.size + 4 ∨ b = t1.heap.objs.size + 2 ∨ b = t1.heap.objs.size + 3 ∨ b = t1.heap.objs.size ∨ b = t1.heap.objs.size + 1 := by simpa using hb3
    exact fp_new I1 (by
      rcases e' with z | z | z | z | z
      · rw [z]; exact Nat.le_add_right _ _
      · rw [z]; exact Nat.le_add_right _ _
      · rw [z]; exact Nat.le_add_right _ _
      · rw [z]; exact Nat.le_refl _
      · rw [z]; exact Nat.le_add_right _ _)
  · unfold Src
    rw [zipD_len, l1, l2]
    refine ⟨fun i H2 hi le => ⟨⟨le_sqB le q1, le_sqB le q2⟩, hi⟩, fun H2 le => ⟨⟨le_sqB le q1, le_sqB le q2⟩, rfl⟩, fun i H2 v H3 hi le y => .inr ⟨rfl, ?_⟩⟩
    obtain ⟨T, r, h3, h4, h5, x0, y0, h6, h7, rfl⟩ := y
    obtain ⟨c1, h8, h9⟩ := da1.getV h6
    obtain ⟨c2, h10, h11⟩ := da2.getV h7
    exact ⟨T, _, _, h3, h4, h5, zipD_get ys zs i c1 c2 h8 h10, .cons h9 (.cons h11 .nil)⟩
theorem vals3c {a b c : V} {us : List Value} (h : Vals [a, b, c] us) : ∃ x y z, us = [x, y, z] ∧ RelV a x ∧ RelV b y ∧ RelV c z := by
  cases h with
  | cons r1 t =>
    cases t with
    | cons r2 t =>
      cases t with
      | cons r3 t =>
        cases t
        exact ⟨_, _, _, rfl, r1, r2, r3⟩
theorem ri_zip3 {a b c : CE} {x y u : Expr} {f : Str} {p q tpos : Pos} {elts : List Expr} {n : Nat} (FT : Fit w F g kk X) (gf : Gl X f ∧ (f == ("__debug__" : Str)) = false ∧ f ≠ "__name__") (hf : f = "zip") (mf : X.mg f = none) (hs : star x = false) (hs2 : star y = false) (hs3 : star u = false) (ha : PE X x (rd g w a)) (hb : PE X y (rd g w b)) (hc : PE X u (rd g w c)) :
    PI X (.Tuple elts n tpos) (.Call (.Name f q) [x, y, u] [] p) (rdI g w true (.zip3 a b c)) := by
  subst hf
  have hk := FT.hk
  refine ⟨fun pins s sg H R I ⟨kap, G, st, δ, d, st', xs, k, sl, h, hx, q⟩ => ?_⟩
  obtain ⟨⟨d1, s1⟩, h1, h⟩ := Option.bind_eq_some_iff.mp h
  obtain ⟨⟨d2, s2⟩, h2, h⟩ := Option.bind_eq_some_iff.mp h
  obtain ⟨⟨d3, s3⟩, h3, h⟩ := Option.bind_eq_some_iff.mp h
  have hd : ∃ ys zs us, (d1 = .lst ys ∨ d1 = .tup ys) ∧ (d2 = .lst zs ∨ d2 = .tup zs) ∧ (d3 = .lst us ∨ d3 = .tup us) ∧ d = .lst (zip3D ys zs us) ∧ st' = s3 := by
    cases d1 <;> cases d2 <;> cases d3 <;> cases h
    · exact ⟨_, _, _, .inl rfl, .inl rfl, .inl rfl, rfl, rfl⟩
    · exact ⟨_, _, _, .inl rfl, .inl rfl, .inr rfl, rfl, rfl⟩
    · exact ⟨_, _, _, .inl rfl, .inr rfl, .inl rfl, rfl, rfl⟩
    · exact ⟨_, _, _, .inl rfl, .inr rfl, .inr rfl, rfl, rfl⟩
    · exact ⟨_, _, _, .inr rfl, .inl rfl, .inl rfl, rfl, rfl⟩
    · exact ⟨_, _, _, .inr rfl, .inl rfl, .inr rfl, rfl, rfl⟩
    · exact ⟨_, _, _, .inr rfl, .inr rfl, .inl rfl, rfl, rfl⟩
    · exact ⟨_, _, _, .inr rfl, .inr rfl, .inr rfl, rfl, rfl⟩
  obtain ⟨ys, zs, us0, hy, hz, hu0, rfl, rfl⟩ := hd
  cases hx
  have pa := pa_cons (X := X) ha (pa_cons hb (pa_cons hc pa_nil (starEach_cons hs3)) (starEach_cons hs2)) (starEach_cons hs)
  have hn2 : noStars [y, u] = true := by show (!star y && (!star u && true)) = true; rw [hs2, hs3]; rfl
  refine Call_ (ld_blt I gf.1 mf PyProof.Rows.boot_zip (PyProof.Rows.callWith_type1 (thn (pa.run p pins s sg H (fun vs H1 => ∃ kap1 G1 v u v3, vs = [v, u, v3] ∧ Step kap G H kap1 G1 H1 ∧ Ok w kap1 G1 st' H1 ∧ Den w G1 d1 v ∧ Den w G1 d2 u ∧ Den w G1 d3 v3) I
    (r2_of k sl h1 h2 fun u v kap1 G1 H1 S k1 ru rv => ⟨kap1, G1, s2, δ, d3, st', k1, sl.mono S.g S.k, h3, fun v3 kap2 G2 H2 S2 k2 r3 => ⟨kap2, G2, u, v, v3, rfl, S.trans S2, k2, ru.mono S2.g, rv.mono S2.g, r3⟩⟩)) fun us t1 ⟨vs, H1, I1, r1, kap1, G1, v, u, v3, e1, S, k1, rv, ru, r3⟩ => ?_) (starEach_cons hs) (plain_trees hn2)))
  subst e1
  obtain ⟨w1, w2, w3, rfl, rw1, rw2, rw3⟩ := vals3c r1
  obtain ⟨b1, a1, vs1, rfl, q1, da1⟩ := den_B hk rv hy
  obtain ⟨b2, a2, vs2, rfl, q2, da2⟩ := den_B hk ru hz
  obtain ⟨b3, a3, vs3, rfl, q3, da3⟩ := den_B hk r3 hu0
  cases rw1
  cases rw2
  cases rw3
  obtain ⟨its1, rs1, hb1, _⟩ := sqB_at I1 (le_sqB k1.le q1)
  obtain ⟨its2, rs2, hb2, _⟩ := sqB_at I1 (le_sqB k1.le q2)
  obtain ⟨its3, rs3, hb3, _⟩ := sqB_at I1 (le_sqB k1.le q3)
  have l1 := da1.length
  have l2 := da2.length
  have l3 := da3.length
  have ea1 := isB_lt hb1
  have ea2 := isB_lt hb2
  have ea3 := isB_lt hb3
  refine zip_begins3 (beginsB b1 a1 its1.toArray) (beginsB b2 a2 its2.toArray) (beginsB b3 a3 its3.toArray) hb1 hb2 hb3 fun h' hz' hTI hTO hi1 hi2 hi3 hsz hkp => wpAny_pyIter_zip hz' ?_
  have I2 : Inv X pins sg H1 { t1 with heap := h' } := I1.kept (t' := t1.toks) hkp
  refine ⟨t1.heap.objs.size + 5, [t1.heap.objs.size + 5, t1.heap.objs.size + 3, t1.heap.objs.size + 4, t1.heap.objs.size, t1.heap.objs.size + 1, t1.heap.objs.size + 2], _, _, H1, rfl, I2,
    turn_zipB3 b1 b2 b3 vs1 vs2 vs3 (zip_sep3 (N := t1.heap.objs.size) (fp1 := [a1]) (fp2 := [a2]) (fp3 := [a3]) (fun b hb => by rw [List.mem_singleton.mp hb]; exact ea1) (fun b hb => by rw [List.mem_singleton.mp hb]; exact ea2) (fun b hb => by rw [List.mem_singleton.mp hb]; exact ea3)) (Nat.ne_of_lt ea1) (Nat.ne_of_lt (Nat.lt_succ_of_lt ea2)) (Nat.ne_of_lt (Nat.lt_succ_of_lt (Nat.lt_succ_of_lt ea3))),
    ⟨hz', hTI, ⟨_, _, _, hTO⟩, itB_new hi1, itB_new hi2, itB_new hi3⟩, fun b hb3 => ?_, q _ kap1 G1 H1 S k1 ?_⟩
  · have e' : b = t1.heap.objs.size + 5 ∨ b = t1.heap.objs.size + 3 ∨ b = t1.heap.objs.size + 4 ∨ b = t1.heap.objs.size ∨ b = t1.heap.objs.size + 1 ∨ b = t1.heap.objs.size + 2 := by simpa using hb3
    exact fp_new I1 (by
      rcases e' with z | z | z | z | z | z
      · rw [z]; exact Nat.le_add_right _ _
      · rw [z]; exact Nat.le_add_right _ _
      · rw [z]; exact Nat.le_add_right _ _
      · rw [z]; exact Nat.le_refl _
      · rw [z]; exact Nat.le_add_right _ _
      · rw [z]; exact Nat.le_add_right _ _)
  · unfold Src
    rw [zip3D_len, l1, l2, l3]
    refine ⟨fun i H2 hi le => ⟨⟨le_sqB le q1, le_sqB le q2, le_sqB le q3⟩, hi⟩, fun H2 le => ⟨⟨le_sqB le q1, le_sqB le q2, le_sqB le q3⟩, rfl⟩, fun i H2 v H3 hi le y => .inr ⟨rfl, ?_⟩⟩
    obtain ⟨T, r, h3, h4, h5, x0, y0, z0, h6, h7, h8, rfl⟩ := y
    obtain ⟨c1, k1, k2⟩ := da1.getV h6
    obtain ⟨c2, k3, k4⟩ := da2.getV h7
    obtain ⟨c3, k5, k6⟩ := da3.getV h8
    exact ⟨T, _, _, h3, h4, h5, zip3D_get ys zs us0 i c1 c2 c3 k1 k3 k5, .cons k2 (.cons k4 (.cons k6 .nil))⟩
end
end DL

set_option Elab.async false
set_option linter.all false
set_option autoImplicit false
set_option maxRecDepth 100000
set_option maxHeartbeats 400000
namespace DL
open PySem L2 PySem.Spec PyProof.Rows

section
variable {w : Wd} {kap : List Addr} {G H : Hp} {st : S} {p : Addr} {o : HO}
/-- a new object that the frozen part does not take -/
theorem Ok.side (k : Ok w kap G st H) (hp : H p = none) : Step kap G H kap G (upd H p o) ∧ Ok w kap G st (upd H p o) := by
  have cne : ∀ (k1 : Nat) c a, st[k1]? = some c → kap[k1]? = some a → a ≠ p := fun k1 c a h1 h2 e => by
    have z := k.cells k1 c a h1 h2
    subst e
    cases c with
    | lst xs => obtain ⟨vs, e, _⟩ := z; rw [hp] at e; cases e
    | dct xs => obtain ⟨vs, e, _⟩ := z; rw [hp] at e; cases e
    | dead => exact z.elim
  have kne : ∀ a ∈ kap, a ≠ p := fun a ha e => by
    obtain ⟨i, hi⟩ := List.getElem?_of_mem ha
    obtain ⟨hl, _⟩ := List.getElem?_eq_some_iff.mp hi
    have hl2 : i < st.length := by rw [← k.len]; exact hl
    exact cne i st[i] a (by simp [hl2]) hi e
  refine ⟨⟨Le.refl _, List.prefix_refl _, fun _ h1 h2 => absurd h2 h1, fun _ h1 h2 => absurd h1 h2, fun b u h _ _ => ?_, fun b u h n => ⟨u, ?_, n⟩⟩, ⟨fun b u h => ?_, k.nt, k.len, k.nd, k.fr, fun k1 c a h1 h2 => ?_, k.tabs.ext fun b u h => ?_, fun a ha ps => ?_⟩⟩
  · rw [upd_ne (ne_of_none h hp)]; exact h
  · rw [upd_ne (ne_of_none h hp)]; exact h
  · have := k.le b u h
    rw [upd_ne (ne_of_none this hp)]; exact this
  · have ne := cne k1 c a h1 h2
    have z := k.cells k1 c a h1 h2
    cases c with
    | lst xs => obtain ⟨vs, e, d⟩ := z; exact ⟨vs, by rw [upd_ne ne]; exact e, d⟩
    | dct xs => obtain ⟨vs, e, d1, d⟩ := z; exact ⟨vs, by rw [upd_ne ne]; exact e, d1, d⟩
    | dead => exact z.elim
  · rw [upd_ne (ne_of_none h hp)]; exact h
  · rw [upd_ne (kne a ha)]; exact k.ntc a ha ps
theorem Ok.has (k : Ok w kap G st H) {a : Addr} (m : a ∈ kap) : ∃ o, H a = some o := by
  obtain ⟨i, hi⟩ := List.getElem?_of_mem m
  obtain ⟨hl, _⟩ := List.getElem?_eq_some_iff.mp hi
  have hl2 : i < st.length := by rw [← k.len]; exact hl
  obtain ⟨c, hc⟩ : ∃ c, st[i]? = some c := ⟨st[i], by simp [hl2]⟩
  have z := k.cells i c a hc hi
  cases c with
  | lst xs => obtain ⟨vs, e, _⟩ := z; exact ⟨_, e⟩
  | dct xs => obtain ⟨vs, e, _⟩ := z; exact ⟨_, e⟩
  | dead => exact z.elim
/-- an object beside it is written -/
theorem Ok.poke {u : HO} (k : Ok w kap G st H) (hg : G p = none) (hk : p ∉ kap) (hp : H p = some u) (hu : notTbl u) (hc : ∀ c q, u ≠ LamX.CodeO c q) (ho : notTbl o) : Ok w kap G st (upd H p o) := by
  have cne : ∀ (k1 : Nat) (a : Addr), kap[k1]? = some a → a ≠ p := fun k1 a h e => hk (e ▸ List.mem_of_getElem? h)
  refine ⟨fun b v h => ?_, k.nt, k.len, k.nd, k.fr, fun k1 c a h1 h2 => ?_, ?_, fun a ha ps => ?_⟩
  · rw [upd_ne (ne_of_none h hg)]; exact k.le b v h
  · have ne := cne k1 a h2
    have z := k.cells k1 c a h1 h2
    cases c with
    | lst xs => obtain ⟨vs, e, d⟩ := z; exact ⟨vs, by rw [upd_ne ne]; exact e, d⟩
    | dct xs => obtain ⟨vs, e, d1, d⟩ := z; exact ⟨vs, by rw [upd_ne ne]; exact e, d1, d⟩
    | dead => exact z.elim
  · exact tabs_poke k.tabs hp hu hc
  · have ne : a ≠ p := fun e => hk (e ▸ ha)
    rw [upd_ne ne]; exact k.ntc a ha ps
where
  tabs_poke {T : List (Addr × Str)} {H : Hp} {p : Addr} {u o : HO} (t : LamX.Tabs T H) (hp : H p = some u) (hu : notTbl u) (hcd : ∀ c q, u ≠ LamX.CodeO c q) : LamX.Tabs T (upd H p o) := by
    intro q hq
    obtain ⟨ps, h1, h2, h3⟩ := t q hq
    refine ⟨ps, ?_, h2, fun pos cv hc => ?_⟩
    · have ne : q.1 ≠ p := fun e => by rw [e, hp] at h1; exact hu ps (Option.some.inj h1)
      rw [upd_ne ne]; exact h1
    · obtain ⟨c, rfl, h4⟩ := h3 pos cv hc
      refine ⟨c, rfl, ?_⟩
      by_cases e : c = p
      · rw [e, hp] at h4
        exact absurd (Option.some.inj h4) (hcd _ _)
      · rw [upd_ne e]; exact h4
theorem lst_nc {vs : List V} : ∀ c q, HO.lst vs ≠ LamX.CodeO c q := fun _ _ z => by
  unfold LamX.CodeO at z
  cases z
theorem dT_nc {vs : List (List Key × V)} : ∀ c q, HO.dT vs ≠ LamX.CodeO c q := fun _ _ z => by
  unfold LamX.CodeO at z
  cases z
/-- it is taken into the frozen part -/
theorem Ok.ice {u : HO} (k : Ok w kap G st H) (hk : p ∉ kap) (hg : G p = none) (hp : H p = some u) (hu : notTbl u) : Ok w kap (upd G p u) st H := by
  have leG : Le G (upd G p u) := fun b v h => by rw [upd_ne (ne_of_none h hg)]; exact h
  refine ⟨fun b v h => ?_, fun b v h => ?_, k.len, k.nd, fun a ha => ?_, fun k1 c a h1 h2 => ?_, k.tabs, k.ntc⟩
  · by_cases e : b = p
    · subst e; rw [upd_same] at h; rw [hp]; exact h
    · rw [upd_ne e] at h; exact k.le b v h
  · by_cases e : b = p
    · subst e; rw [upd_same] at h; cases h; exact hu
    · rw [upd_ne e] at h; exact k.nt b v h
  · have ne : a ≠ p := fun e => hk (e ▸ ha)
    rw [upd_ne ne]; exact k.fr a ha
  · have z := k.cells k1 c a h1 h2
    cases c with
    | lst xs => obtain ⟨vs, e, d⟩ := z; exact ⟨vs, e, d.mono leG⟩
    | dct xs => obtain ⟨vs, e, d1, d⟩ := z; exact ⟨vs, e, d1, d.mono leG⟩
    | dead => exact z
theorem Step.ice {k0 : List Addr} {G0 H0 : Hp} {u : HO} (s : Step k0 G0 H0 kap G H) (hg : G p = none) (h0 : H0 p = none) : Step k0 G0 H0 kap (upd G p u) H := by
  refine ⟨s.g.trans fun b v h => ?_, s.k, fun b h1 h2 => ?_, s.frk, s.ext, s.dom⟩
  · rw [upd_ne (ne_of_none h hg)]; exact h
  · by_cases e : b = p
    · rw [e, h0]; intro o z; cases z
    · rw [upd_ne e] at h1; exact s.fr b h1 h2
theorem Step.poke {k0 : List Addr} {G0 H0 : Hp} {u : HO} (s : Step k0 G0 H0 kap G H) (h0 : H0 p = none) : Step k0 G0 H0 kap G (upd H p u) := by
  refine ⟨s.g, s.k, s.fr, s.frk, fun b v h hn hb => ?_, fun b v h n => ?_⟩
  · rw [upd_ne (ne_of_none h h0)]; exact s.ext b v h hn hb
  · rw [upd_ne (ne_of_none h h0)]; exact s.dom b v h n
end

/-- but for the slots of is, the same -/
def Same (is : List Nat) (s s' : L2.St) : Prop := s'.length = s.length ∧ ∀ i, i ∉ is → s'[i]? = s[i]?
theorem Same.refl {is : List Nat} {s : L2.St} : Same is s s := ⟨rfl, fun _ _ => rfl⟩
theorem Same.trans {is js : List Nat} {s t u : L2.St} (a : Same is s t) (b : Same js t u) : Same (is ++ js) s u :=
  ⟨b.1.trans a.1, fun i h => (b.2 i fun z => h (List.mem_append_right _ z)).trans (a.2 i fun z => h (List.mem_append_left _ z))⟩
theorem Same.set {s : L2.St} {i : Nat} {v : Option V} : Same [i] s (s.set i v) := ⟨by simp, fun j h => by rw [List.getElem?_set_ne (fun e => h (by simp [e]))]⟩
theorem wipe_get {s : L2.St} : ∀ {vs : List Nat} {i : Nat}, (wipe s vs)[i]? = if i ∈ vs then (if i < s.length then some none else none) else s[i]?
  | [], i => by simp [wipe]
  | v :: vs, i => by
    unfold wipe
    by_cases e : v = i
    · subst e
      rw [if_pos (List.mem_cons_self ..), List.getElem?_set]
      simp [wipe_length]
    · rw [List.getElem?_set_ne e, wipe_get]
      by_cases m : i ∈ vs
      · rw [if_pos m, if_pos (List.mem_cons_of_mem _ m)]
      · rw [if_neg m, if_neg (fun z => by rcases List.mem_cons.mp z with q | q; exact e q.symm; exact m q)]
theorem Same.wipe {is vs : List Nat} {s s' : L2.St} (h : Same is s s') (hs : ∀ i ∈ is, i ∈ vs) : L2.wipe s' vs = L2.wipe s vs := by
  apply List.ext_getElem?
  intro i
  rw [wipe_get, wipe_get, h.1]
  by_cases m : i ∈ vs
  · rw [if_pos m, if_pos m]
  · rw [if_neg m, if_neg m]
    exact h.2 i fun z => m (hs i z)
theorem wipe_wipe {s : L2.St} {vs : List Nat} : wipe (wipe s vs) vs = wipe s vs := by
  apply List.ext_getElem?
  intro i
  rw [wipe_get, wipe_length]
  by_cases m : i ∈ vs
  · rw [if_pos m, wipe_get, if_pos m]
  · rw [if_neg m]
theorem Slots.wipe {w : Wd} {kap : List Addr} {G : Hp} {δ : EnvR} {sg : L2.St} (s : Slots w kap G δ sg) : ∀ vs : List Nat, Slots w kap G (wipeE δ vs) (L2.wipe sg vs)
  | [] => s
  | v :: vs => (Slots.wipe s vs).wipe1 v
/-- what a target takes: a datum, or a tracked tuple of data -/
def TIn (w : Wd) (G H : Hp) (ct : CT) (d : D) (v : V) : Prop := Den w G d v ∨ (isTp ct = true ∧ ∃ xs a vs, d = .tup xs ∧ v = .ref a ∧ H a = some (.tup vs) ∧ Dens w G xs vs)
def rdG (w : Wd) (ct : CT) : TG := fun v sg H Q => ∃ kap G st δ d δ', Ok w kap G st H ∧ Slots w kap G δ sg ∧ TIn w G H ct d v ∧ asgT ct d δ = some δ' ∧ ∀ sg', Slots w kap G δ' sg' → Same (ctIx ct) sg sg' → Q sg' H
def rdGs (w : Wd) (ct : CT) : TGs := fun vs sg H Q => ∃ kap G st δ ds δ', Ok w kap G st H ∧ Slots w kap G δ sg ∧ Dens w G ds vs ∧ asgTs ct ds δ = some δ' ∧ ∀ sg', Slots w kap G δ' sg' → Same (ctIx ct) sg sg' → Q sg' H
theorem PG.of {X : Cx} {e : Expr} {t t' : TG} (h : PG X e t) (i : ∀ v sg H Q, t' v sg H Q → t v sg H Q) : PG X e t' := ⟨fun pins s sg H v u Q I r q => h.run pins s sg H v u Q I r (i v sg H Q q)⟩
theorem PGs.of {X : Cx} {e : List Expr} {t t' : TGs} (h : PGs X e t) (i : ∀ v sg H Q, t' v sg H Q → t v sg H Q) : PGs X e t' := ⟨fun pins s sg H v u Q I r q => h.run pins s sg H v u Q I r (i v sg H Q q)⟩
theorem PG.or {X : Cx} {e : Expr} {t t' : TG} (h : PG X e t) (h' : PG X e t') : PG X e (fun v sg H Q => t v sg H Q ∨ t' v sg H Q) := ⟨fun pins s sg H v u Q I r q => q.elim (h.run pins s sg H v u Q I r) (h'.run pins s sg H v u Q I r)⟩
theorem assignEach_cons {e : Expr} {es : List Expr} {env : Env} (h : star e = false) : assignEach (e :: es) env = (false, assign e env) :: assignEach es env := by
  cases e <;> first | rfl | cases h
def ctLen : CT → Nat
  | .cons _ r => ctLen r + 1
  | _ => 0
theorem asgTs_len : ∀ {r : CT} {ds : List D} {δ δ' : EnvR}, asgTs r ds δ = some δ' → ds.length = ctLen r
  | .nil, [], _, _, _ => rfl
  | .nil, _ :: _, _, _, h => by cases h
  | .cons a r, [], _, _, h => by cases h
  | .cons a r, d :: ds, δ, δ', h => by
    obtain ⟨δ1, h1, h2⟩ := Option.bind_eq_some_iff.mp (show (asgT a d δ).bind (fun δ' => asgTs r ds δ') = some δ' from h)
    show ds.length + 1 = ctLen r + 1
    rw [asgTs_len h2]
  | .nm _, ds, _, _, h => by cases ds <;> cases h
  | .tp _, ds, _, _, h => by cases ds <;> cases h
section
variable {w : Wd} {F : Fx} {g : List DSem} {kk : Nat} {X : Cx} {sc : Scope}
mutual
theorem snd_T (FT : Fit w F g kk X) (S : ScOk X sc) : ∀ (ct : CT) (e : Expr), chkT F.N sc ct e = true → PG X e (rdG w ct)
  | .nm i, .Name x p, h => by
    have h2 : (decide (F.N[i]? = some x) && locB sc x) = true := h
    rw [Bool.and_eq_true] at h2
    obtain ⟨l1, l2⟩ := locB_ok S h2.2
    refine PG.of (pg_name (by rw [FT.N]; exact FT.nd) (i := i) (by rw [FT.N]; exact of_decide_eq_true h2.1) l1 l2) fun v sg H Q ⟨kap, G, st, δ, d, δ', k, sl, ti, ha, q⟩ => ?_
    have e : some (δ.set i (some (.d d))) = some δ' := ha
    cases e
    rcases ti with ti | ⟨z, _⟩
    · exact q _ (sl.set (d := .d d) ti i) Same.set
    · cases z
  | .tp r, .Tuple es n p, h => by
    obtain ⟨h1, h2, h3⟩ := snd_Ts FT S r es h
    refine PG.of (PG.or (pg_tup (n := ctLen r) FT.calm h1 h2 h3) (pg_unl (n := ctLen r) FT.calm h1 h2 h3)) fun v sg H Q ⟨kap, G, st, δ, d, δ', k, sl, ti, ha, q⟩ => ?_
    have hk := FT.hk
    rcases ti with ti | ⟨_, xs, a, vs, rfl, rfl, hs, hd⟩
    · cases d with
      | tup xs =>
        obtain ⟨a, vs, o, rfl, hG, ho, hd⟩ := den_tup ti
        have ha2 : asgTs r xs δ = some δ' := ha
        exact .inl ⟨a, vs, rfl, k.le.st (frzT hG), by rw [← hd.length, asgTs_len ha2], kap, G, st, δ, xs, δ', k, sl, hd, ha2, q⟩
      | lst xs =>
        obtain ⟨a, vs, rfl, hG, hd⟩ := den_lst ti
        have ha2 : asgTs r xs δ = some δ' := ha
        exact .inr ⟨a, vs, rfl, by rw [hk]; exact k.le.sl hG, by rw [← hd.length, asgTs_len ha2], kap, G, st, δ, xs, δ', k, sl, hd, ha2, q⟩
      | _ => cases ha
    · have ha2 : asgTs r xs δ = some δ' := ha
      exact .inl ⟨a, vs, rfl, .of hs, by rw [← hd.length, asgTs_len ha2], kap, G, st, δ, xs, δ', k, sl, hd, ha2, q⟩
  | .nil, e, h => by cases e <;> cases h
  | .cons _ _, e, h => by cases e <;> cases h
theorem snd_Ts (FT : Fit w F g kk X) (S : ScOk X sc) : ∀ (ct : CT) (es : List Expr), chkTs F.N sc ct es = true → PGs X es (rdGs w ct) ∧ (assignEach es X.env).length = ctLen ct ∧ (assignEach es X.env).findIdx? (·.1) = none
  | .nil, [], h => by
    refine ⟨PGs.of pgs_nil fun v sg H Q ⟨kap, G, st, δ, ds, δ', k, sl, hd, ha, q⟩ => ?_, rfl, rfl⟩
    cases ds with
    | nil =>
      cases hd
      cases ha
      exact ⟨rfl, q sg sl Same.refl⟩
    | cons _ _ => cases ha
  | .cons a r, e :: es, h => by
    have h2 : (!star e && chkT F.N sc a e && chkTs F.N sc r es) = true := h
    rw [Bool.and_eq_true, Bool.and_eq_true] at h2
    obtain ⟨⟨hs, h3⟩, h4⟩ := h2
    have hs' : star e = false := by simpa using hs
    have g1 := snd_T FT S a e h3
    obtain ⟨g2, g3, g4⟩ := snd_Ts FT S r es h4
    refine ⟨PGs.of (pgs_cons g1 g2 (by rw [assignEach_cons hs']; rfl)) fun v sg H Q ⟨kap, G, st, δ, ds, δ', k, sl, hd, ha, q⟩ => ?_, ?_, ?_⟩
    · cases hd with
      | nil => cases ha
      | @cons d v ds vs r1 t1 =>
        obtain ⟨δ1, h5, h6⟩ := Option.bind_eq_some_iff.mp (show (asgT a d δ).bind (fun δ' => asgTs r ds δ') = some δ' from ha)
        exact ⟨v, vs, rfl, kap, G, st, δ, d, δ1, k, sl, .inl r1, h5, fun sg1 s1 m1 => ⟨kap, G, st, δ1, ds, δ', k, s1, t1, h6, fun sg2 s2 m2 => q sg2 s2 (m1.trans m2)⟩⟩
    · rw [assignEach_cons hs']
      show (assignEach es X.env).length + 1 = ctLen r + 1
      rw [g3]
    · rw [assignEach_cons hs']
      rw [List.findIdx?_cons]
      simp only [Bool.false_eq_true, if_false, g4]
      rfl
  | .nil, _ :: _, h => by cases h
  | .cons _ _, [], h => by cases h
  | .nm _, es, h => by cases es <;> cases h
  | .tp _, es, h => by cases es <;> cases h
end
end
end DL

set_option Elab.async false
set_option linter.all false
set_option autoImplicit false
set_option maxRecDepth 100000
set_option maxHeartbeats 400000
namespace DL
open PySem L2 PySem.Spec PyProof.Rows

section
variable {w : Wd} {F : Fx} {g : List DSem} {kk : Nat} {X : Cx} {sc : Scope}
theorem fit_blk (FT : Fit w F g kk X) (s : Shared) (H : Hp) (scope : Scope) (cenv : Env) (fp : List Addr) (hcd : cenv.code = X.env.code := by rfl) (hqu : cenv.qual = X.env.qual := by rfl) : Fit w F g kk (X.blk s H scope cenv fp) := by
  refine ⟨FT.hk, FT.calm, FT.rm, FT.qt, FT.N, FT.nd, FT.wok, FT.frees, FT.globs, fun j d f h1 h2 h3 => ?_⟩
  have z := FT.deps j d f h1 h2 h3
  cases d with
  | fn x => obtain ⟨f, a, b, c⟩ := z; exact ⟨f, a, b, ⟨c.ok⟩⟩
  | mk x => obtain ⟨C, f, a, b, c⟩ := z; exact ⟨C, f, a, b, ⟨c.ok⟩⟩
  | prop x => exact fun C => let ⟨p, f, a, c⟩ := z C; ⟨p, f, a, ⟨c.ok⟩⟩
  | len => exact fun C => let ⟨f, a, b, c⟩ := z C; ⟨f, a, b, ⟨c.ok⟩⟩
  | fnG x => obtain ⟨f, a, b, c⟩ := z; exact ⟨f, a, b, ⟨c.ok⟩⟩
  | cls x => exact z
  | fnD x i => exact z
  | strd => exact fun C => let ⟨f, a, b, c⟩ := z C; ⟨f, a, b, ⟨c.ok⟩⟩
  | lamk =>
    obtain ⟨c, P, z1, z2, z3, z4⟩ := z
    refine ⟨c, P, z1, hcd.trans z2, ?_, ?_⟩
    · show (P, cenv.qual ++ "<lambda>") ∈ w.T
      rw [hqu]; exact z3
    · show ∀ p ∈ w.T, p.1 = P → p.2 = cenv.qual ++ "<lambda>"
      rw [hqu]; exact z4
  | tld x =>
    obtain ⟨a, g, c, P, pg, bg, sg, dV, kV, doc, pm, cdv, ct, oc, an, od, osl, Ng, z1, z2, z3, z4, z5, z6, z7, z8, z9, z10, z11, z12, z13, z14, z15⟩ := z
    refine ⟨a, g, c, P, pg, bg, sg, dV, kV, doc, pm, cdv, ct, oc, an, od, osl, Ng, ?_, ?_, ?_, ?_, ?_, z6, z7, z8, ?_, ?_, ?_, ?_, ?_, z14, z15⟩
    · exact z1
    · exact z2
    · exact z3
    · exact z4
    · exact z5
    · exact z9
    · exact hcd.trans z10
    · show (P, cenv.qual ++ "<lambda>") ∈ w.T
      rw [hqu]; exact z11
    · show ∀ p ∈ w.T, p.1 = P → p.2 = cenv.qual ++ "<lambda>"
      rw [hqu]; exact z12
    · show LamX.GivesTo (X.blk s H scope cenv fp) Ng x sg g cdv bg a (cenv.qual ++ "<lambda>") TT0
      rw [hqu]
      intro f c' s0 H0 Q tl act hc h
      exact z13 f c' s0 H0 Q tl act hc h
  | fnF x => obtain ⟨f, a, b, c⟩ := z; exact ⟨f, a, b, ⟨c.ok⟩⟩
  | fnP x => obtain ⟨f, a, b, c⟩ := z; exact ⟨f, a, b, ⟨c.ok⟩⟩
theorem lookup_rel_free {e : Env} : ∀ {names : List (Str × NameKind)} {x : Str}, names.lookup x = some .free →
    (names.map fun (n, k) => if (k == NameKind.free && e.scope.kind == .function && e.kindOf n == some .cell) then (n, NameKind.cell) else (n, k)).lookup x = some .free ∨
    (names.map fun (n, k) => if (k == NameKind.free && e.scope.kind == .function && e.kindOf n == some .cell) then (n, NameKind.cell) else (n, k)).lookup x = some .cell
  | [], _, h => by simp at h
  | (n, k₀) :: r, x, h => by
    have ih := @lookup_rel_free e r x
    show List.lookup x ((if (k₀ == NameKind.free && e.scope.kind == .function && e.kindOf n == some .cell) = true then (n, NameKind.cell) else (n, k₀)) :: (r.map _)) = _ ∨ List.lookup x ((if (k₀ == NameKind.free && e.scope.kind == .function && e.kindOf n == some .cell) = true then (n, NameKind.cell) else (n, k₀)) :: (r.map _)) = _
    cases hx : x == n with
    | true =>
      simp only [List.lookup_cons, hx] at h
      cases h
      by_cases hc : (NameKind.free == NameKind.free && e.scope.kind == .function && e.kindOf n == some .cell) = true
      · rw [if_pos hc]; simp only [List.lookup_cons, hx]; exact .inr trivial
      · rw [if_neg hc]; simp only [List.lookup_cons, hx]; exact .inl trivial
    | false =>
      simp only [List.lookup_cons, hx] at h
      by_cases hc : (k₀ == NameKind.free && e.scope.kind == .function && e.kindOf n == some .cell) = true
      · rw [if_pos hc]; simp only [List.lookup_cons, hx]; exact ih h
      · rw [if_neg hc]; simp only [List.lookup_cons, hx]; exact ih h
theorem sc_blk (s : Shared) (H : Hp) (scope : Scope) (C : Addr) (cl : List (Str × Addr)) (fp : List Addr) : ScOk (X.blk s H scope (compEnvC scope cl C X.env) fp) scope where
  keep := fun x k hk h => lookup_relS_keep (sc := X.env.scope) hk h
  free := fun x h => lookup_rel_free (e := X.env) h
  fn := fun x h => by show (scope.names.lookup x == some .cell) = true; rw [h]; rfl
def ownP (N : List Str) (own : List Nat) : List (Str × Nat) := own.map fun i => (N.getD i Str.empty, i)
theorem ownP_ix (N : List Str) (own : List Nat) : (ownP N own).map (·.2) = own := by
  unfold ownP
  rw [List.map_map]
  exact List.map_id'' (fun _ => rfl) own
theorem blk_ok (S : ScOk X sc) {N : List Str} {scope : Scope} {own : List Nat} (h : blkB N sc scope own = true) : BlkOk N X.env.scope scope (ownP N own) := by
  unfold blkB at h
  simp only [Bool.and_eq_true, List.all_eq_true, decide_eq_true_eq] at h
  obtain ⟨⟨⟨h1, h2⟩, h3⟩, h4⟩ := h
  refine ⟨h1, h2, fun p hp => ?_, fun y hy e => ?_, fun y hy e => ?_⟩
  · obtain ⟨i, hi, rfl⟩ := List.mem_map.mp hp
    have hl := h3 i hi
    show N[i]? = some (N.getD i Str.empty)
    simp [List.getD_eq_getElem?_getD, List.getElem?_eq_getElem hl]
  · have q := (h4 y hy).1
    simp only [e, Bool.or_eq_true, decide_eq_true_eq, Bool.not_eq_true', decide_eq_false_iff_not] at q
    rcases q with (q | q) | q
    · exact absurd trivial q
    · exact .inl (S.keep _ _ (by decide) q)
    · rcases S.free _ q with z | z
      · exact .inr z
      · exact .inl z
  · have q := (h4 y hy).2
    simp only [Bool.or_eq_true, List.any_eq_true, decide_eq_true_eq, Bool.not_eq_true', Bool.or_eq_false_iff, decide_eq_false_iff_not] at q
    rcases q with (q | q) | q
    · exact (e.elim q.1 q.2).elim
    · obtain ⟨i, hi, hx⟩ := q
      refine .inl (List.mem_map.mpr ⟨(N.getD i Str.empty, i), List.mem_map.mpr ⟨i, hi, rfl⟩, ?_⟩)
      have hl := h3 i hi
      show N.getD i Str.empty = y.1
      rw [List.getD_eq_getElem?_getD, hx]
      rfl
    · exact .inr (by simpa using q)
mutual
theorem chkT_ix {N : List Str} {sc : Scope} : ∀ (ct : CT) (e : Expr), chkT N sc ct e = true → ∀ i ∈ ctIx ct, ∃ x, N[i]? = some x ∧ locB sc x = true
  | .nm i, .Name x p, h, j, hj => by
    have h2 : (decide (N[i]? = some x) && locB sc x) = true := h
    rw [Bool.and_eq_true] at h2
    have e : j = i := by simpa [ctIx] using hj
    subst e
    exact ⟨x, of_decide_eq_true h2.1, h2.2⟩
  | .tp r, .Tuple es n p, h, j, hj => chkTs_ix r es h j hj
  | .nil, e, h, _, _ => by cases e <;> cases h
  | .cons _ _, e, h, _, _ => by cases e <;> cases h
theorem chkTs_ix {N : List Str} {sc : Scope} : ∀ (ct : CT) (es : List Expr), chkTs N sc ct es = true → ∀ i ∈ ctIx ct, ∃ x, N[i]? = some x ∧ locB sc x = true
  | .nil, [], h, j, hj => by cases hj
  | .cons a r, e :: es, h, j, hj => by
    have h2 : (!star e && chkT N sc a e && chkTs N sc r es) = true := h
    rw [Bool.and_eq_true, Bool.and_eq_true] at h2
    rcases List.mem_append.mp hj with q | q
    · exact chkT_ix a e h2.1.2 j q
    · exact chkTs_ix r es h2.2 j q
  | .nil, _ :: _, h, _, _ => by cases h
  | .cons _ _, [], h, _, _ => by cases h
  | .nm _, es, h, _, _ => by cases es <;> cases h
  | .tp _, es, h, _, _ => by cases es <;> cases h
end
theorem own_ix {N : List Str} (nd : N.Nodup) {scope : Scope} {own : List Nat} {ct : CT} {e : Expr} (hb : blkB N sc scope own = true) (hc : chkT N scope ct e = true) : ∀ i ∈ ctIx ct, i ∈ own := by
  intro i hi
  obtain ⟨x, h1, h2⟩ := chkT_ix ct e hc i hi
  unfold blkB at hb
  simp only [Bool.and_eq_true, List.all_eq_true, decide_eq_true_eq] at hb
  obtain ⟨⟨⟨_, h3⟩, h4⟩, h5⟩ := hb
  unfold locB at h2
  cases hl : scope.names.lookup x with
  | none => rw [hl] at h2; cases h2
  | some k =>
    rw [hl] at h2
    have hk : k = .local ∨ k = .cell := by cases k <;> first | exact .inl rfl | exact .inr rfl | cases h2
    have hm : (x, k) ∈ scope.names := by
      obtain ⟨l1, l2, e1, _⟩ := List.lookup_eq_some_iff.mp hl
      rw [e1]
      simp
    have q := (h5 (x, k) hm).2
    simp only [Bool.or_eq_true, List.any_eq_true, decide_eq_true_eq, Bool.not_eq_true', Bool.or_eq_false_iff, decide_eq_false_iff_not] at q
    rcases q with (q | q) | q
    · exact (hk.elim q.1 q.2).elim
    · obtain ⟨j, hj, hx⟩ := q
      have e2 := nodup_ix nd h1 hx
      rw [e2]; exact hj
    · have : N.contains x = true := by simp; exact List.mem_of_getElem? h1
      rw [this] at q; cases q
theorem notSet_ok {e : Expr} (h : notSet e = true) (env : Env) (x : Value) : foldedSetIterable e env x = pure x := by
  cases e <;> first | rfl | cases h
theorem PTs.of {ifs : List Expr} {t t' : TT} (h : PTs X ifs t) (i : ∀ sg H Q, t' sg H Q → t sg H Q) : PTs X ifs t' := ⟨fun pins s sg H Q I q => h.run pins s sg H Q I (i sg H Q q)⟩
theorem rts_nil : PTs X [] (rdT g w .yes) := PTs.of pts_nil fun sg H Q ⟨kap, G, st, δ, d, st', b, k, sl, h, hb, q⟩ => by
  cases h
  cases hb
  exact q kap G H Step.refl k

def turn1 (g : List DSem) (fl : Nat → List Str) (elt : CE) (tg : CT) (cnd : CE) (δ0 : EnvR) (x : D) (s1 : S) : Option (Option D × S) :=
  (asgT tg x δ0).bind fun δ1 => (ev g fl cnd δ1 s1).bind fun c => match truthD c.1 with
    | some true => (ev g fl elt δ1 c.2).map fun r => (some r.1, r.2)
    | some false => some (none, c.2)
    | none => none
/-- the list that grows at Dl, beside the frozen part -/
structure Grow (w : Wd) (kap0 : List Addr) (G0 H0 : Hp) (Dl : Addr) (kap : List Addr) (G : Hp) (s1 : S) (H : Hp) (ys : List D) (vs : List V) : Prop where
  s : Step kap0 G0 H0 kap G H
  k : Ok w kap G s1 H
  h0 : H0 Dl = none
  g : G Dl = none
  nk : Dl ∉ kap
  at_ : H Dl = some (.lst vs)
  d : Dens w G ys vs
theorem Grow.go {kap0 : List Addr} {G0 H0 : Hp} {Dl : Addr} {kap kap' : List Addr} {G G' : Hp} {s1 s2 : S} {H H' : Hp} {ys : List D} {vs : List V} (a : Grow w kap0 G0 H0 Dl kap G s1 H ys vs) (S : Step kap G H kap' G' H') (k : Ok w kap' G' s2 H') : Grow w kap0 G0 H0 Dl kap' G' s2 H' ys vs := by
  refine ⟨a.s.trans S, k, a.h0, ?_, ?_, S.ext _ _ a.at_ a.nk nt_lst, a.d.mono S.g⟩
  · cases e : G' Dl with
    | none => rfl
    | some o =>
      exact (S.fr Dl (by rw [e]; intro z; cases z) a.g _ a.at_ nt_lst).elim
  · intro m
    exact S.frk Dl m a.nk _ a.at_ nt_lst
theorem Grow.app {kap0 : List Addr} {G0 H0 : Hp} {Dl : Addr} {kap : List Addr} {G : Hp} {s1 : S} {H : Hp} {ys : List D} {vs : List V} {y : D} {v : V} (a : Grow w kap0 G0 H0 Dl kap G s1 H ys vs) (r : Den w G y v) : Grow w kap0 G0 H0 Dl kap G s1 (upd H Dl (.lst (vs ++ [v]))) (ys ++ [y]) (vs ++ [v]) :=
  ⟨a.s.poke a.h0, a.k.poke a.g a.nk a.at_ nt_lst lst_nc nt_lst, a.h0, a.g, a.nk, upd_same, a.d.append (.cons r .nil)⟩
theorem Grow.fin {kap0 : List Addr} {G0 H0 : Hp} {Dl : Addr} {kap : List Addr} {G : Hp} {s1 : S} {H : Hp} {ys : List D} {vs : List V} {Q : VK} (a : Grow w kap0 G0 H0 Dl kap G s1 H ys vs) (q : Post w kap0 G0 H0 s1 (.lst ys) Q) : Q (.ref Dl) H :=
  q _ kap (upd G Dl (.lst vs)) H (a.s.ice a.g a.h0) (a.k.ice a.nk a.g a.at_ nt_lst) (.lst (.inl (.inl upd_same)) (a.d.mono fun b v h => by rw [upd_ne (ne_of_none h a.g)]; exact h))
def rdF (g : List DSem) (w : Wd) (ce : CE) : TE := fun sg H Q => ∃ kap G st δ xs st', Ok w kap G st H ∧ Slots w kap G δ sg ∧ ev g w.flds ce δ st = some (.lst xs, st') ∧ PostF w kap G H st' xs Q
theorem PostF.pre {kap kap1 : List Addr} {G H G1 H1 : Hp} {st' : S} {xs : List D} {Q : VK} (q : PostF w kap G H st' xs Q) (S : Step kap G H kap1 G1 H1) : PostF w kap1 G1 H1 st' xs Q :=
  fun a vs kap' G' H' S' k ga ka hH da h0 => q a vs kap' G' H' (S.trans S') k ga ka hH da fun o e n => by
    obtain ⟨o', e', n'⟩ := S.dom a o e n
    exact h0 o' e' n'
theorem Grow.finF {kap0 : List Addr} {G0 H0 : Hp} {Dl : Addr} {kap : List Addr} {G : Hp} {s1 : S} {H : Hp} {ys : List D} {vs : List V} {Q : VK} (a : Grow w kap0 G0 H0 Dl kap G s1 H ys vs) (q : PostF w kap0 G0 H0 s1 ys Q) : Q (.ref Dl) H :=
  q Dl vs kap G H a.s a.k a.g a.nk a.at_ a.d fun o e => by rw [a.h0] at e; cases e
/-- the item that a turn gives stands as the target wants it -/
theorem yd_in {G0 : Hp} {tp : Bool} {ds : List D} {i : Nat} {H H' : Hp} {x : V} {ct : CT} {kap : List Addr} {G : Hp} {st : S} {d : D} (le : Le G0 G) (k : Ok w kap G st H) (ht : tp = true → isTp ct = true) (hd : ds[i]? = some d) (y : YD w G0 tp ds i H x H') :
    Step kap G H kap G H' ∧ Ok w kap G st H' ∧ TIn w G H' ct d x := by
  rcases y with ⟨_, rfl, d', h1, h2⟩ | ⟨h0, T, vs, xs, rfl, h1, rfl, h2, h3⟩
  · rw [hd] at h1
    cases h1
    exact ⟨Step.refl, k, .inl (h2.mono le)⟩
  · rw [hd] at h2
    cases h2
    obtain ⟨a, b⟩ := k.side (o := .tup vs) h1
    exact ⟨a, b, .inr ⟨ht h0, xs, T, vs, rfl, rfl, upd_same, h3.mono le⟩⟩
theorem yd_some {G0 : Hp} {tp : Bool} {ds : List D} {i : Nat} {H H' : Hp} {x : V} (y : YD w G0 tp ds i H x H') : ∃ d, ds[i]? = some d := by
  rcases y with ⟨_, rfl, d', h1, h2⟩ | ⟨h0, T, vs, xs, rfl, h1, rfl, h2, h3⟩
  · exact ⟨_, h1⟩
  · exact ⟨_, h2⟩
theorem drop_cons {α : Type} {xs : List α} {i : Nat} {d : α} (h : xs[i]? = some d) : xs.drop i = d :: xs.drop (i + 1) := by
  obtain ⟨hl, e⟩ := List.getElem?_eq_some_iff.mp h
  rw [List.drop_eq_getElem_cons hl, e]
theorem lc_turns {J : It} {G1 : Hp} {tp : Bool} {xs : List D} {elt : CE} {tg : CT} {cnd : CE} {own : List Nat} {δ : EnvR} {sg : L2.St} {kap1 : List Addr} {H1 : Hp} {s1 st' : S} {zs : List D} {Q : VK} {Dl : Addr}
    (src : Src w J G1 tp xs) (ht : tp = true → isTp tg = true) (hix : ∀ i ∈ ctIx tg, i ∈ own) (k : Ok w kap1 G1 s1 H1) (sl : Slots w kap1 G1 δ sg) (hl : xs.length ≤ lim)
    (h : compL (turn1 g w.flds elt tg cnd (wipeE δ own)) xs s1 = some (zs, st')) (q : ∀ kap G H vs, Grow w kap1 G1 H1 Dl kap G st' H zs vs → Q (.ref Dl) H) (hD : H1 Dl = none) :
    ∃ W : Nat → Nat → Hp → Prop, (∃ m, W 0 m (upd H1 Dl (.lst []))) ∧ ∀ i m H, W i m H →
      (J.stop i H ∧ Q (.ref Dl) H) ∨ (J.go i H ∧ ∃ Nx : Hp → Prop, (∀ H', Nx H' → ∃ m', m' < m ∧ W (i + 1) m' H') ∧ ∀ x H', J.yld i H x H' → rdG w tg x (L2.wipe sg own) H' fun σ2 H2 => L2.wipe σ2 own = L2.wipe sg own ∧ rdT g w cnd σ2 H2 fun b H3 =>
        if b = true then rd g w elt σ2 H3 fun y H4 => ∃ acc, H4 Dl = some (.lst acc) ∧ acc.length < sizeLine ∧ Nx (upd H4 Dl (.lst (acc ++ [y]))) else Nx H3) := by
  refine lc_it src (fun i H => ∃ kap G s2 ys vs rest, Grow w kap1 G1 H1 Dl kap G s2 H ys vs ∧ ys.length ≤ i ∧ compL (turn1 g w.flds elt tg cnd (wipeE δ own)) (xs.drop i) s2 = some (rest, st') ∧ zs = ys ++ rest) ?_ ?_ ?_ ?_
  · obtain ⟨a, b⟩ := k.side (o := .lst []) hD
    have hg : G1 Dl = none := by
      cases e : G1 Dl with
      | none => rfl
      | some o => rw [k.le _ _ e] at hD; cases hD
    have hn : Dl ∉ kap1 := fun m => by
      obtain ⟨o, e⟩ := k.has m
      rw [hD] at e; cases e
    exact ⟨kap1, G1, s1, [], [], zs, ⟨a, b, hD, hg, hn, upd_same, .nil⟩, Nat.zero_le _, h, rfl⟩
  · rintro i H hi ⟨kap, G, s2, ys, vs, rest, gr, _⟩
    exact gr.s.g.trans gr.k.le
  · rintro i x H H' hi ⟨kap, G, s2, ys, vs, rest, gr, hy, hc, hz⟩ y
    obtain ⟨d, hd⟩ := yd_some y
    rw [drop_cons hd] at hc
    obtain ⟨⟨o, s3⟩, h1, h2⟩ := Option.bind_eq_some_iff.mp hc
    obtain ⟨⟨rs, s4⟩, h3, h4⟩ := Option.map_eq_some_iff.mp h2
    obtain ⟨δ1, h5, h6⟩ := Option.bind_eq_some_iff.mp h1
    obtain ⟨⟨c, s5⟩, h7, h8⟩ := Option.bind_eq_some_iff.mp h6
    obtain ⟨S1, k1, ti⟩ := yd_in gr.s.g gr.k ht hd y
    have gr1 := gr.go S1 k1
    have sl1 : Slots w kap G (wipeE δ own) (L2.wipe sg own) := (sl.mono gr.s.g gr.s.k).wipe own
    refine ⟨kap, G, s2, wipeE δ own, d, δ1, gr1.k, sl1, ti, h5, fun sg2 sl2 sm => ⟨?_, ?_⟩⟩
    · rw [sm.wipe hix, wipe_wipe]
    · cases hb : truthD c with
      | none => simp only [hb] at h8; cases h8
      | some b =>
        refine ⟨kap, G, s2, δ1, c, s5, b, gr1.k, sl2, h7, hb, fun kap3 G3 H3 S3 k3 => ?_⟩
        have gr3 := gr1.go S3 k3
        have e4 : (match o with | some y => y :: rs | none => rs) = rest ∧ s4 = st' := by
          cases h4
          exact ⟨by cases o <;> rfl, rfl⟩
        obtain ⟨e4, e5⟩ := e4
        subst e5
        cases b with
        | false =>
          show (if (false : Bool) = true then _ else _)
          rw [if_neg Bool.false_ne_true]
          simp only [hb] at h8
          cases h8
          have e6 : rs = rest := e4
          subst e6
          exact ⟨kap3, G3, _, ys, vs, rs, gr3, by omega, h3, hz⟩
        | true =>
          show (if (true : Bool) = true then _ else _)
          rw [if_pos rfl]
          simp only [hb] at h8
          obtain ⟨⟨z, s6⟩, h9, h10⟩ := Option.map_eq_some_iff.mp h8
          cases h10
          have e6 : z :: rs = rest := e4
          subst e6
          refine ⟨kap3, G3, _, δ1, z, _, k3, sl2.mono S3.g S3.k, h9, fun v kap4 G4 H4 S4 k4 rv => ?_⟩
          have gr4 := gr3.go S4 k4
          refine ⟨vs, gr4.at_, ?_, kap4, G4, _, _, _, rs, gr4.app rv, ?_, h3, ?_⟩
          · have := gr4.d.length
            have := sizeLine_eq
            have : lim = 1000000 := rfl
            omega
          · rw [List.length_append]
            show ys.length + 1 ≤ i + 1
            omega
          · rw [List.append_assoc]
            exact hz
  · rintro H ⟨kap, G, s2, ys, vs, rest, gr, hy, hc, hz⟩
    rw [List.drop_length] at hc
    cases hc
    rw [List.append_nil] at hz
    subst hz
    exact q _ _ _ _ gr
theorem comp_rd {elt : CE} {tg : CT} {it cnd : CE} {own : List Nat} {t : Expr} {scope : Scope} {tp : Bool} (nd : F.N.Nodup) (ht : tp = true → isTp tg = true)
    (hb : blkB F.N sc scope own = true) (hT : chkT F.N scope tg t = true) : ∀ sg H Q, rd g w (.comp elt tg it cnd own) sg H Q → tLc (rdI g w tp it) (rdG w tg) (rdT g w cnd) (rd g w elt) ((ownP F.N own).map (·.2)) sg H Q := fun sg H Q ⟨kap, G, st, δ, d, st', k, sl, h, q⟩ => by
  obtain ⟨⟨d1, s1⟩, h1, h⟩ := Option.bind_eq_some_iff.mp h
  obtain ⟨xs, h2, h⟩ := Option.bind_eq_some_iff.mp h
  rw [ownP_ix]
  refine ⟨kap, G, st, δ, d1, s1, xs, k, sl, h1, h2, fun J kap1 G1 H1 S1 k1 src Dl hD => ?_⟩
  by_cases hl : lim < xs.length
  · simp only [hl, if_true] at h; cases h
  · simp only [hl, if_false] at h
    obtain ⟨⟨zs, s2⟩, h3, h4⟩ := Option.map_eq_some_iff.mp h
    cases h4
    exact lc_turns src ht (own_ix nd hb hT) k1 (sl.mono S1.g S1.k) (Nat.le_of_not_lt hl) h3 (fun _ _ _ _ gr => gr.fin (q.pre S1)) hD
theorem r_comp {elt : CE} {tg : CT} {it cnd : CE} {own : List Nat} {e' t i : Expr} {fs : List Expr} {scope : Scope} {p : Pos} {tp : Bool} (FT : Fit w F g kk X) (S : ScOk X sc) (hi : PI X t i (rdI g w tp it)) (hs : notSet i = true) (ht : tp = true → isTp tg = true)
    (hb : blkB F.N sc scope own = true) (hT : chkT F.N scope tg t = true) (hc : ∀ X', Fit w F g kk X' → ScOk X' scope → PTs X' fs (rdT g w cnd)) (he : ∀ X', Fit w F g kk X' → ScOk X' scope → PE X' e' (rd g w elt)) :
    PE X (.ListComp e' [⟨t, i, fs, 0⟩] scope p) (rd g w (.comp elt tg it cnd own)) := by
  have hN : X.N = F.N := FT.N
  exact PE.of (pe_lc (own := ownP F.N own) (g := rdG w tg) (tt := rdT g w cnd) (te := rd g w elt) FT.calm (by rw [hN]; exact FT.nd) hi (by rw [hN]; exact blk_ok S hb)
    (fun s H C cl fp => snd_T (fit_blk FT s H scope _ fp) (sc_blk s H scope C cl fp) tg t hT) (fun s H C cl fp => hc _ (fit_blk FT s H scope _ fp) (sc_blk s H scope C cl fp)) (fun s H C cl fp => he _ (fit_blk FT s H scope _ fp) (sc_blk s H scope C cl fp))
    (notSet_ok hs X.env)) (comp_rd FT.nd ht hb hT)
theorem comp_rdF {elt : CE} {tg : CT} {it cnd : CE} {own : List Nat} {t : Expr} {scope : Scope} {tp : Bool} (nd : F.N.Nodup) (ht : tp = true → isTp tg = true)
    (hb : blkB F.N sc scope own = true) (hT : chkT F.N scope tg t = true) : ∀ sg H Q, rdF g w (.comp elt tg it cnd own) sg H Q → tLc (rdI g w tp it) (rdG w tg) (rdT g w cnd) (rd g w elt) ((ownP F.N own).map (·.2)) sg H Q := fun sg H Q ⟨kap, G, st, δ, ws, st', k, sl, h, q⟩ => by
  obtain ⟨⟨d1, s1⟩, h1, h⟩ := Option.bind_eq_some_iff.mp h
  obtain ⟨xs, h2, h⟩ := Option.bind_eq_some_iff.mp h
  rw [ownP_ix]
  refine ⟨kap, G, st, δ, d1, s1, xs, k, sl, h1, h2, fun J kap1 G1 H1 S1 k1 src Dl hD => ?_⟩
  by_cases hl : lim < xs.length
  · simp only [hl, if_true] at h; cases h
  · simp only [hl, if_false] at h
    obtain ⟨⟨zs, s2⟩, h3, h4⟩ := Option.map_eq_some_iff.mp h
    cases h4
    exact lc_turns src ht (own_ix nd hb hT) k1 (sl.mono S1.g S1.k) (Nat.le_of_not_lt hl) h3 (fun _ _ _ _ gr => gr.finF (q.pre S1)) hD
theorem r_compF {elt : CE} {tg : CT} {it cnd : CE} {own : List Nat} {e' t i : Expr} {fs : List Expr} {scope : Scope} {p : Pos} {tp : Bool} (FT : Fit w F g kk X) (S : ScOk X sc) (hi : PI X t i (rdI g w tp it)) (hs : notSet i = true) (ht : tp = true → isTp tg = true)
    (hb : blkB F.N sc scope own = true) (hT : chkT F.N scope tg t = true) (hc : ∀ X', Fit w F g kk X' → ScOk X' scope → PTs X' fs (rdT g w cnd)) (he : ∀ X', Fit w F g kk X' → ScOk X' scope → PE X' e' (rd g w elt)) :
    PE X (.ListComp e' [⟨t, i, fs, 0⟩] scope p) (rdF g w (.comp elt tg it cnd own)) := by
  have hN : X.N = F.N := FT.N
  exact PE.of (pe_lc (own := ownP F.N own) (g := rdG w tg) (tt := rdT g w cnd) (te := rd g w elt) FT.calm (by rw [hN]; exact FT.nd) hi (by rw [hN]; exact blk_ok S hb)
    (fun s H C cl fp => snd_T (fit_blk FT s H scope _ fp) (sc_blk s H scope C cl fp) tg t hT) (fun s H C cl fp => hc _ (fit_blk FT s H scope _ fp) (sc_blk s H scope C cl fp)) (fun s H C cl fp => he _ (fit_blk FT s H scope _ fp) (sc_blk s H scope C cl fp))
    (notSet_ok hs X.env)) (comp_rdF FT.nd ht hb hT)
end
end DL

set_option Elab.async false
set_option linter.all false
set_option autoImplicit false
set_option maxRecDepth 100000
set_option maxHeartbeats 400000
namespace DL
open PySem L2 PySem.Spec PyProof.Rows

section
variable {w : Wd} {F : Fx} {g : List DSem} {kk : Nat} {X : Cx} {sc : Scope}
def turn2 (g : List DSem) (fl : Nat → List Str) (elt : CE) (tg : CT) (cnd : CE) (it1 : CE) (tg1 : CT) (cnd1 : CE) (own1 : List Nat) (δ0 : EnvR) (x : D) (s1 : S) : Option (List D × S) :=
  (asgT tg x δ0).bind fun δ1 => (ev g fl cnd δ1 s1).bind fun c => match truthD c.1 with
    | some true => (ev g fl it1 δ1 c.2).bind fun p1 => (itemsD p1.1).bind fun ys => compL (turn1 g fl elt tg1 cnd1 (wipeE δ1 own1)) ys p1.2
    | some false => some ([], c.2)
    | none => none
theorem lc_it1 {J : It} {n : Nat} {G : Hp → Prop} {Y : Nat → Hp → V → Hp → Prop} (w : Walk J n G Y) {gg : TG} {tt : TT} {te : TE} {vs : List Nat} {σ : L2.St} {H1 : Hp} {D : Addr} {Qd : Hp → Prop} (Pv : Nat → Hp → Prop) (h0 : Pv 0 H1) (hG : ∀ i H, i ≤ n → Pv i H → G H)
    (hs : ∀ i x H H', i < n → Pv i H → Y i H x H' → gg x (L2.wipe σ vs) H' fun σ2 H2 => L2.wipe σ2 vs = L2.wipe σ vs ∧ tt σ2 H2 fun b H3 =>
      if b = true then te σ2 H3 fun y H4 => ∃ acc, H4 D = some (.lst acc) ∧ acc.length < sizeLine ∧ Pv (i + 1) (upd H4 D (.lst (acc ++ [y]))) else Pv (i + 1) H3) (hd : ∀ H, Pv n H → Qd H) :
    ∃ W : Nat → Nat → Hp → Prop, (∃ m, W 0 m H1) ∧ ∀ i m H, W i m H →
      (J.stop i H ∧ Qd H) ∨ (J.go i H ∧ ∃ Nx : Hp → Prop, (∀ H', Nx H' → ∃ m', m' < m ∧ W (i + 1) m' H') ∧ ∀ x H', J.yld i H x H' → gg x (L2.wipe σ vs) H' fun σ2 H2 => L2.wipe σ2 vs = L2.wipe σ vs ∧ tt σ2 H2 fun b H3 =>
        if b = true then te σ2 H3 fun y H4 => ∃ acc, H4 D = some (.lst acc) ∧ acc.length < sizeLine ∧ Nx (upd H4 D (.lst (acc ++ [y]))) else Nx H3) := by
  refine ⟨fun i m H => m = n - i ∧ i ≤ n ∧ Pv i H, ⟨n, by simp, Nat.zero_le _, h0⟩, ?_⟩
  rintro i m H ⟨rfl, hi, p⟩
  have q := hG i H hi p
  by_cases hlt : i < n
  · refine .inr ⟨w.goes i H hlt q, Pv (i + 1), fun H' p' => ⟨n - (i + 1), by omega, rfl, hlt, p'⟩, fun x H' y => hs i x H H' hlt p (w.yields i H x H' hlt q y)⟩
  · have e : i = n := by omega
    subst e
    exact .inl ⟨w.stops H q, hd H p⟩
theorem comp2_rd {elt : CE} {tg tg1 : CT} {it cnd it1 cnd1 : CE} {own own1 : List Nat} {t : Expr} {scope : Scope} {tp tp1 : Bool} (nd : F.N.Nodup) (ht : tp = true → isTp tg = true)
    (hb : blkB F.N sc scope own = true) (hT : chkT F.N scope tg t = true) (ht1 : tp1 = true → isTp tg1 = true) (hx1 : ∀ j ∈ ctIx tg1, j ∈ own1) :
    ∀ sg H Q, rd g w (.comp2 elt tg it cnd tg1 it1 cnd1 own own1) sg H Q → tLc2 (rdI g w tp it) (rdG w tg) (rdT g w cnd) (rdI g w tp1 it1) (rdG w tg1) (rdT g w cnd1) (rd g w elt) ((ownP F.N own).map (·.2)) own1 sg H Q := fun sg H Q ⟨kap, G, st, δ, d, st', k, sl, h, q⟩ => by
  obtain ⟨⟨d1, s1⟩, h1, h⟩ := Option.bind_eq_some_iff.mp h
  obtain ⟨xs, h2, h⟩ := Option.bind_eq_some_iff.mp h
  rw [ownP_ix]
  refine ⟨kap, G, st, δ, d1, s1, xs, k, sl, h1, h2, fun J kap1 G1 H1 S1 k1 src Dl hD => ?_⟩
  obtain ⟨⟨zs, s2⟩, h3, h4⟩ := Option.bind_eq_some_iff.mp h
  obtain ⟨hz, e5⟩ := if_some (show (if zs.length < lim then some (D.lst zs, s2) else none) = some (d, st') from h4)
  cases e5
  have hix := own_ix nd hb hT
  have sl0 := sl.mono S1.g S1.k
  have q0 := q.pre S1
  have h3 : compL2 (turn2 g w.flds elt tg cnd it1 tg1 cnd1 own1 (wipeE δ own)) xs s1 = some (zs, st') := h3
  have hg : G1 Dl = none := by
    cases e : G1 Dl with
    | none => rfl
    | some o => rw [k1.le _ _ e] at hD; cases hD
  have hn : Dl ∉ kap1 := fun m => by
    obtain ⟨o, e⟩ := k1.has m
    rw [hD] at e; cases e
  refine ⟨fun i m H => m = xs.length - i ∧ i ≤ xs.length ∧ ∃ kap G s2 ys vs rest, Grow w kap1 G1 H1 Dl kap G s2 H ys vs ∧ compL2 (turn2 g w.flds elt tg cnd it1 tg1 cnd1 own1 (wipeE δ own)) (xs.drop i) s2 = some (rest, st') ∧ zs = ys ++ rest, ⟨xs.length, by simp, Nat.zero_le _, ?_⟩, ?_⟩
  · obtain ⟨a, b⟩ := k1.side (o := .lst []) hD
    exact ⟨kap1, G1, s1, [], [], zs, ⟨a, b, hD, hg, hn, upd_same, .nil⟩, h3, rfl⟩
  · rintro i m H ⟨rfl, hile, kap2, G2, s3, ys, vs, rest, gr, hcp, hzs⟩
    by_cases hlt : i < xs.length
    · refine .inr ⟨src.goes i H hlt (gr.s.g.trans gr.k.le), fun H' => ∃ kap G s2 ys vs rest, Grow w kap1 G1 H1 Dl kap G s2 H' ys vs ∧ compL2 (turn2 g w.flds elt tg cnd it1 tg1 cnd1 own1 (wipeE δ own)) (xs.drop (i + 1)) s2 = some (rest, st') ∧ zs = ys ++ rest, fun H' p' => ⟨xs.length - (i + 1), by omega, rfl, hlt, p'⟩, fun x H' y => ?_⟩
      have y := src.yields i H x H' hlt (gr.s.g.trans gr.k.le) y
      obtain ⟨dx, hd⟩ := yd_some y
      rw [drop_cons hd] at hcp
      obtain ⟨⟨r1, s4⟩, h5, h6⟩ := Option.bind_eq_some_iff.mp hcp
      obtain ⟨⟨rs, s5⟩, h7, h8⟩ := Option.map_eq_some_iff.mp h6
      cases h8
      obtain ⟨δ1, h9, h10⟩ := Option.bind_eq_some_iff.mp h5
      obtain ⟨⟨c, s6⟩, h11, h12⟩ := Option.bind_eq_some_iff.mp h10
      obtain ⟨S2, k2, ti⟩ := yd_in gr.s.g gr.k ht hd y
      have gr1 := gr.go S2 k2
      have sl1 : Slots w kap2 G2 (wipeE δ own) (L2.wipe sg own) := (sl0.mono gr.s.g gr.s.k).wipe own
      refine ⟨kap2, G2, s3, wipeE δ own, dx, δ1, gr1.k, sl1, ti, h9, fun sg2 sl2 sm => ⟨by rw [sm.wipe hix, wipe_wipe], ?_⟩⟩
      cases hbt : truthD c with
      | none => simp only [hbt] at h12; cases h12
      | some b =>
        refine ⟨kap2, G2, s3, δ1, c, s6, b, gr1.k, sl2, h11, hbt, fun kap3 G3 H3 S3 k3 => ?_⟩
        have gr3 := gr1.go S3 k3
        cases b with
        | false =>
          show (if (false : Bool) = true then _ else _)
          rw [if_neg Bool.false_ne_true]
          simp only [hbt] at h12
          cases h12
          exact ⟨kap3, G3, _, ys, vs, rs, gr3, h7, hzs⟩
        | true =>
          show (if (true : Bool) = true then _ else _)
          rw [if_pos rfl]
          simp only [hbt] at h12
          obtain ⟨⟨d2, s7⟩, h13, h14⟩ := Option.bind_eq_some_iff.mp h12
          obtain ⟨items, h15, h16⟩ := Option.bind_eq_some_iff.mp h14
          have sl3 := sl2.mono S3.g S3.k
          refine ⟨kap3, G3, s6, δ1, d2, s7, items, k3, sl3, h13, h15, fun J1 kap4 G4 H4 S4 k4 src1 => ?_⟩
          have gr4 := gr3.go S4 k4
          have sl4 := sl3.mono S4.g S4.k
          refine lc_it1 src1 (fun j H => ∃ kap G s2 ys' vs' rest1, Grow w kap1 G1 H1 Dl kap G s2 H ys' vs' ∧ Le G4 G ∧ kap4 <+: kap ∧ compL (turn1 g w.flds elt tg1 cnd1 (wipeE δ1 own1)) (items.drop j) s2 = some (rest1, s4) ∧ ys ++ r1 = ys' ++ rest1) ?_ ?_ ?_ ?_
          · exact ⟨kap4, G4, s7, ys, vs, r1, gr4, Le.refl _, List.prefix_refl _, h16, rfl⟩
          · rintro j H5 hj ⟨kap, G, s2, ys', vs', rest1, gr5, hle, _⟩
            exact hle.trans gr5.k.le
          · rintro j x5 H5 H5' hj ⟨kap5, G5, s8, ys', vs', rest1, gr5, hle, hkp, hc5, hz5⟩ y5
            obtain ⟨d5, hd5⟩ := yd_some y5
            rw [drop_cons hd5] at hc5
            obtain ⟨⟨o, s9⟩, h17, h18⟩ := Option.bind_eq_some_iff.mp hc5
            obtain ⟨⟨rs5, s10⟩, h19, h20⟩ := Option.map_eq_some_iff.mp h18
            obtain ⟨δ2, h21, h22⟩ := Option.bind_eq_some_iff.mp h17
            obtain ⟨⟨c5, s11⟩, h23, h24⟩ := Option.bind_eq_some_iff.mp h22
            obtain ⟨S5, k5, ti5⟩ := yd_in hle gr5.k ht1 hd5 y5
            have gr6 := gr5.go S5 k5
            have sl6 : Slots w kap5 G5 (wipeE δ1 own1) (L2.wipe sg2 own1) := (sl4.mono hle hkp).wipe own1
            refine ⟨kap5, G5, s8, wipeE δ1 own1, d5, δ2, gr6.k, sl6, ti5, h21, fun sg3 sl7 sm7 => ⟨by rw [sm7.wipe hx1, wipe_wipe], ?_⟩⟩
            have e4 : (match o with | some y => y :: rs5 | none => rs5) = rest1 ∧ s10 = s4 := by
              cases h20
              exact ⟨by cases o <;> rfl, rfl⟩
            obtain ⟨e4, e5⟩ := e4
            subst e5
            cases hb5 : truthD c5 with
            | none => simp only [hb5] at h24; cases h24
            | some b5 =>
              refine ⟨kap5, G5, s8, δ2, c5, s11, b5, gr6.k, sl7, h23, hb5, fun kap7 G7 H7 S7 k7 => ?_⟩
              have gr7 := gr6.go S7 k7
              cases b5 with
              | false =>
                show (if (false : Bool) = true then _ else _)
                rw [if_neg Bool.false_ne_true]
                simp only [hb5] at h24
                cases h24
                have e6 : rs5 = rest1 := e4
                subst e6
                exact ⟨kap7, G7, _, ys', vs', rs5, gr7, hle.trans S7.g, hkp.trans S7.k, h19, hz5⟩
              | true =>
                show (if (true : Bool) = true then _ else _)
                rw [if_pos rfl]
                simp only [hb5] at h24
                obtain ⟨⟨z5, s12⟩, h25, h26⟩ := Option.map_eq_some_iff.mp h24
                cases h26
                have e6 : z5 :: rs5 = rest1 := e4
                subst e6
                refine ⟨kap7, G7, _, δ2, z5, _, k7, sl7.mono S7.g S7.k, h25, fun v8 kap8 G8 H8 S8 k8 rv => ?_⟩
                have gr8 := gr7.go S8 k8
                refine ⟨vs', gr8.at_, ?_, kap8, G8, _, _, _, rs5, gr8.app rv, (hle.trans S7.g).trans S8.g, (hkp.trans S7.k).trans S8.k, h19, ?_⟩
                · have hl1 := gr8.d.length
                  have hl2 := congrArg List.length hz5
                  have hl3 := congrArg List.length hzs
                  have := sizeLine_eq
                  have : lim = 1000000 := rfl
                  simp only [List.length_append, List.length_cons] at hl2 hl3
                  omega
                · rw [List.append_assoc]
                  exact hz5
          · rintro H5 ⟨kap, G, s2, ys', vs', rest1, gr5, hle, hkp, hc5, hz5⟩
            rw [List.drop_length] at hc5
            cases hc5
            rw [List.append_nil] at hz5
            subst hz5
            refine ⟨kap, G, _, _, vs', rs, gr5, h7, ?_⟩
            rw [hzs, List.append_assoc]
    · have e : i = xs.length := by omega
      subst e
      rw [List.drop_length] at hcp
      cases hcp
      rw [List.append_nil] at hzs
      subst hzs
      exact .inl ⟨src.stops H (gr.s.g.trans gr.k.le), gr.fin q0⟩
theorem r_comp2 {elt : CE} {tg tg1 : CT} {it cnd it1 cnd1 : CE} {own own1 : List Nat} {e' t i t1 i1 : Expr} {fs fs1 : List Expr} {scope : Scope} {p : Pos} {tp tp1 : Bool} (FT : Fit w F g kk X) (S : ScOk X sc) (hi : PI X t i (rdI g w tp it)) (hs : notSet i = true) (ht : tp = true → isTp tg = true)
    (hb : blkB F.N sc scope own = true) (ho : ∀ j ∈ own1, j ∈ own) (hT : chkT F.N scope tg t = true) (hc : ∀ X', Fit w F g kk X' → ScOk X' scope → PTs X' fs (rdT g w cnd))
    (hi1 : ∀ X', Fit w F g kk X' → ScOk X' scope → PI X' t1 i1 (rdI g w tp1 it1)) (hs1 : notSet i1 = true) (ht1 : tp1 = true → isTp tg1 = true) (hx1 : ∀ j ∈ ctIx tg1, j ∈ own1) (hT1 : chkT F.N scope tg1 t1 = true) (hc1 : ∀ X', Fit w F g kk X' → ScOk X' scope → PTs X' fs1 (rdT g w cnd1))
    (he : ∀ X', Fit w F g kk X' → ScOk X' scope → PE X' e' (rd g w elt)) :
    PE X (.ListComp e' [⟨t, i, fs, 0⟩, ⟨t1, i1, fs1, 0⟩] scope p) (rd g w (.comp2 elt tg it cnd tg1 it1 cnd1 own own1)) := by
  have hN : X.N = F.N := FT.N
  exact PE.of (pe_lc2 (own := ownP F.N own) (vs1 := own1) (g := rdG w tg) (tt := rdT g w cnd) (te := rd g w elt) (g1 := rdG w tg1) (tt1 := rdT g w cnd1) (wi1 := rdI g w tp1 it1) FT.calm (by rw [hN]; exact FT.nd) hi (by rw [hN]; exact blk_ok S hb) (by rw [ownP_ix]; exact ho)
    (fun s H C cl fp => snd_T (fit_blk FT s H scope _ fp) (sc_blk s H scope C cl fp) tg t hT) (fun s H C cl fp => hc _ (fit_blk FT s H scope _ fp) (sc_blk s H scope C cl fp)) (fun s H C cl fp => hi1 _ (fit_blk FT s H scope _ fp) (sc_blk s H scope C cl fp))
    (fun s H C cl fp => snd_T (fit_blk FT s H scope _ fp) (sc_blk s H scope C cl fp) tg1 t1 hT1) (fun s H C cl fp => hc1 _ (fit_blk FT s H scope _ fp) (sc_blk s H scope C cl fp)) (fun s H C cl fp => he _ (fit_blk FT s H scope _ fp) (sc_blk s H scope C cl fp))
    (notSet_ok hs X.env) (notSet_ok hs1)) (comp2_rd FT.nd ht hb hT ht1 hx1)
end
end DL

set_option Elab.async false
set_option linter.all false
set_option autoImplicit false
set_option maxRecDepth 100000
set_option maxHeartbeats 400000
namespace DL
open PySem L2 PySem.Spec PyProof.Rows

section
variable {w : Wd} {F : Fx} {g : List DSem} {kk : Nat} {X : Cx} {sc : Scope}
def rLenO (w : Wd) (sem : DSem) : List V → Hp → VK → Prop := fun vs H Q => ∃ v kap G st C xs i st', vs = [v] ∧ Ok w kap G st H ∧ Den w G (.ins C xs) v ∧ sem [.d (.ins C xs)] st = some (.d (.int i), st') ∧ 0 ≤ i ∧ i < 2 ^ 62 ∧ Post w kap G H st' (.int i) Q
theorem call_lenO {sem : DSem} (FT : Fit w F g kk X) (hD : DepOk w kk X .len sem) : CallR X (.builtin "len") (rLenO w sem) := by
  rintro pins s sg H vs us Q I r ⟨v, kap, G, st, C, xs, i, st', rfl, k, hd, hs, h0, h1, q⟩
  obtain ⟨f, hfi, hff, fd, ps, hb, FO⟩ := hD C
  obtain ⟨u, rfl, ru⟩ := vals1 r
  obtain ⟨a, dx, vs, rfl, ha, hl, da⟩ := den_ins hd
  cases ru
  obtain ⟨mA, O, _, _, _, _⟩ := ins_get I.hok (k.le _ _ ha)
  obtain ⟨od, J, _⟩ := O.look
  have hsp : spD w sem [.ref a] H (fun v' H' => ∃ kap' G', Step kap G H kap' G' H' ∧ Ok w kap' G' st' H' ∧ v' = .int i) (fun _ _ _ => False) :=
    ⟨kap, G, st, [.d (.ins C xs)], _, _, k, .cons (show Den w G (.ins C xs) (.ref a) from hd) .nil, hs, fun v kap2 G2 H2 S2 k2 rv => ⟨kap2, G2, S2, k2, den_int rv⟩⟩
  have hlp : ([Value.ref a] ++ ([] : List Value)).length = ps.length := by rw [← FO.len _ _ _ _ hsp]; rfl
  refine len_ownK I.kIn J hfi hff (wpAny_call (codeAny_mono (FO.run X.A.in1 X.stack s H ⟨[.ref a], []⟩ [.ref a] [.ref a] _ _ (Room.in1 (FT.room.mono (Nat.le_succ _))) I.env0.in1 (hb s [.ref a] I.kIn hlp) (.cons rfl .nil) hsp) fun r s' hq => ?_))
  cases r with
  | error er => exact False.elim hq
  | ok fl =>
    cases fl with
    | ret u =>
      obtain ⟨v, H', I', rv, kap', G', S', k', rfl⟩ := I.after hq
      obtain ⟨t, rfl⟩ := rv
      exact ⟨i, t, rfl, h0, by omega, .int i, H', I'.tok _, ⟨_, rfl⟩, (q.pre S').here k' (.int _)⟩
    | next => exact False.elim hq
    | brk => exact False.elim hq
    | cont => exact False.elim hq
theorem r_lenO {j : Nat} {o : CE} {x : Expr} {f : Str} {p q : Pos} (FT : Fit w F g kk X) (gf : Gl X f ∧ (f == ("__debug__" : Str)) = false ∧ f ≠ "__name__") (hf : f = "len") (mf : X.mg f = none) (hd : Dep.isLen F.deps[j]? = true) (hs : star x = false) (ha : PE X x (rd g w o)) :
    PE X (.Call (.Name f q) [x] [] p) (rd g w (.lenO j o)) := by
  subst hf
  cases hg : g[j]? with
  | none => exact ⟨fun pins s sg H Q I ⟨kap, G, st, δ, d, st', k, sl, h, q⟩ => by
      obtain ⟨⟨d1, s1⟩, h1, h⟩ := Option.bind_eq_some_iff.mp h
      cases d1 <;> simp only [hg] at h <;> cases h⟩
  | some sem =>
    cases hD : F.deps[j]? with
    | none => rw [hD] at hd; cases hd
    | some dp =>
      rw [hD] at hd
      cases dp with
      | len =>
        refine PE.of (pe_callB (call_lenO FT (FT.deps j _ _ hD hg (fun z => absurd z Bool.false_ne_true))) gf.1 mf (by kernel_rfl) (pa_cons ha pa_nil (starEach_cons hs)) gf.2.2 gf.2.1 (starEach_cons hs) rfl) fun sg H Q ⟨kap, G, st, δ, d, st', k, sl, h, q⟩ => ?_
        obtain ⟨⟨d1, s1⟩, h1, h⟩ := Option.bind_eq_some_iff.mp h
        cases d1 with
        | ins C xs =>
          simp only [hg] at h
          obtain ⟨⟨r, s2⟩, h2, h3⟩ := Option.bind_eq_some_iff.mp h
          cases r with
          | int i =>
            obtain ⟨c, e⟩ := if_some (show (if 0 ≤ i ∧ i < 2 ^ 62 then some (D.int i, s2) else none) = some (d, st') from h3)
            cases e
            exact ⟨kap, G, st, δ, _, s1, k, sl, h1, fun v kap1 G1 H1 S k1 r => ⟨v, kap1, G1, s1, C, xs, i, _, rfl, k1, r, fstOf_some h2, c.1, c.2, q.pre S⟩⟩
          | _ => cases h3
        | _ => simp only [hg] at h; cases h
      | _ => cases hd

theorem cell_lst {kap : List Addr} {G H : Hp} {st : S} {c : Nat} {xs : List D} {v : V} (k : Ok w kap G st H) (hs : st[c]? = some (.lst xs)) (r : DenR w kap G (.c c) v) : ∃ a vs, v = .ref a ∧ kap[c]? = some a ∧ H a = some (.lst vs) ∧ Dens w G xs vs := by
  obtain ⟨a, h1, rfl⟩ := r
  obtain ⟨vs, h2, h3⟩ := k.cells c _ a hs h1
  exact ⟨a, vs, rfl, h1, h2, h3⟩
theorem r_lenC {i : Nat} {x f : Str} {p q r : Pos} (FT : Fit w F g kk X) (gf : Gl X f ∧ (f == ("__debug__" : Str)) = false ∧ f ≠ "__name__") (hf : f = "len") (mf : X.mg f = none) (hN : X.N[i]? = some x) (v : Vis X.env.scope x ∧ (x == ("__debug__" : Str)) = false ∧ (x == ("__classdict__" : Str)) = false) :
    PE X (.Call (.Name f q) [.Name x r] [] p) (rd g w (.lenC i)) := by
  subst hf
  refine PE.of (pe_callB call_len_seq gf.1 mf (by kernel_rfl) (pa_cons (pe_var hN v.1 v.2.1 v.2.2) pa_nil rfl) gf.2.2 gf.2.1 rfl rfl) fun sg H Q ⟨kap, G, st, δ, d, st', k, sl, h, q⟩ => ?_
  obtain ⟨c, h1, h⟩ := Option.bind_eq_some_iff.mp h
  obtain ⟨y, h4, h5⟩ := sl.at_ i _ (atC_some h1)
  cases hc : st[c]? with
  | none => simp only [hc] at h; cases h
  | some ce =>
    simp only [hc] at h
    cases ce with
    | lst xs =>
      cases h
      obtain ⟨a, vs, rfl, ha, hH, da⟩ := cell_lst k hc h5
      rw [da.length] at q
      exact ⟨_, h4, a, vs, rfl, .inl (.of hH), q.here k (.int _)⟩
    | _ => cases h
def rTupC (w : Wd) : List V → Hp → VK → Prop := fun vs H Q => ∃ kap G st a us xs, Ok w kap G st H ∧ vs = [.ref a] ∧ H a = some (.lst us) ∧ Dens w G xs us ∧ Post w kap G H st (.tup xs) Q
theorem tupC_ok : CallR X (.type "tuple") (rTupC w) := by
  rintro pins s sg H vs us Q I r ⟨kap, G, st, a, ws, xs, k, rfl, hH, da, p⟩
  obtain ⟨u, rfl, rx⟩ := vals1 r
  cases rx
  obtain ⟨its, r', pl, hz⟩ := I.list (.of hH)
  have hlen := r'.length
  refine call_tuple_list pl.isList (fun h' kp => ?_) (by simp only [List.size_toArray] <;> omega)
  have I1 : Inv X pins sg H { s with heap := h' } := I.kept (t' := s.toks) kp
  exact endT (t := s.toks) I1 k p da r' hz
theorem r_tupC {i : Nat} {x f : Str} {p q r : Pos} (FT : Fit w F g kk X) (gf : Gl X f ∧ (f == ("__debug__" : Str)) = false ∧ f ≠ "__name__") (hf : f = "tuple") (mf : X.mg f = none) (hN : X.N[i]? = some x) (v : Vis X.env.scope x ∧ (x == ("__debug__" : Str)) = false ∧ (x == ("__classdict__" : Str)) = false) :
    PE X (.Call (.Name f q) [.Name x r] [] p) (rd g w (.tupC i)) := by
  subst hf
  refine PE.of (pe_callTy (tupC_ok (w := w)) gf.1 mf (by kernel_rfl) (pa_cons (pe_var hN v.1 v.2.1 v.2.2) pa_nil rfl) gf.2.2 gf.2.1 rfl rfl) fun sg H Q ⟨kap, G, st, δ, d, st', k, sl, h, q⟩ => ?_
  obtain ⟨c, h1, h⟩ := Option.bind_eq_some_iff.mp h
  obtain ⟨y, h4, h5⟩ := sl.at_ i _ (atC_some h1)
  cases hc : st[c]? with
  | none => simp only [hc] at h; cases h
  | some ce =>
    simp only [hc] at h
    cases ce with
    | lst xs =>
      cases h
      obtain ⟨a, vs, rfl, ha, hH, da⟩ := cell_lst k hc h5
      exact ⟨_, h4, kap, G, st, a, vs, xs, k, rfl, hH, da, q⟩
    | _ => cases h
theorem r_idxC {i : Nat} {b : CE} {x : Str} {y : Expr} {p r : Pos} (FT : Fit w F g kk X) (hN : X.N[i]? = some x) (v : Vis X.env.scope x ∧ (x == ("__debug__" : Str)) = false ∧ (x == ("__classdict__" : Str)) = false) (hb : PE X y (rd g w b)) (hs : noSlice y = true) :
    PE X (.Subscript (.Name x r) y p) (rd g w (.idxC i b)) :=
  PE.of (pe_ix ix_list (pe_var hN v.1 v.2.1 v.2.2) hb (noSlice_ix hs)) fun sg H Q ⟨kap, G, st, δ, d, st', k, sl, h, q⟩ => by
    obtain ⟨c, h1, h⟩ := Option.bind_eq_some_iff.mp h
    obtain ⟨⟨d1, s1⟩, h2, h⟩ := Option.bind_eq_some_iff.mp h
    obtain ⟨u, h4, h5⟩ := sl.at_ i _ (atC_some h1)
    refine ⟨u, h4, kap, G, st, δ, d1, s1, k, sl, h2, fun w1 kap1 G1 H1 S k1 rw1 => ?_⟩
    cases hc : s1[c]? with
    | none => simp only [hc] at h; cases h
    | some ce =>
      simp only [hc] at h
      cases ce with
      | lst xs =>
        obtain ⟨z, h6, h7⟩ := Option.map_eq_some_iff.mp h
        cases h7
        cases d1 with
        | int n =>
          have h6 : atI xs n = some d := h6
          obtain ⟨a, vs, rfl, ha, hH, da⟩ := cell_lst k1 hc (h5.mono S.g S.k)
          obtain ⟨t, h8, h9⟩ := atI_den da h6
          cases rw1
          exact ⟨a, vs, n, t, rfl, rfl, .of hH, h8, (q.pre S).here k1 h9⟩
        | _ => cases h6
      | _ => cases h
def rInC (w : Wd) (neg : Bool) : R2 := fun x y H Q => ∃ kap G st d xs a vs, Ok w kap G st H ∧ Den w G d x ∧ y = .ref a ∧ H a = some (.lst vs) ∧ Dens w G xs vs ∧ shp 20 d = true ∧ shps 20 xs = true ∧ Post w kap G H st (.bl (if neg then !inD d xs else inD d xs)) Q
theorem op_inC (hk : X.K = w.K) (hu : X.A.units + 23 < cLine) : OpR X (compareOp .In) (rInC w false) := by
  rintro pins s sg H x y u v Q I rx ry ⟨kap, G, st, d, xs, a, vs, k, hd, rfl, hH, da, c1, c2, p⟩
  obtain ⟨its, rv, hl, _⟩ := I.list (.of hH)
  cases ry
  refine SeqAt.in_listAt (eU w G d) hl.isList (fun t ht => mem_eU I hk k.le (by show X.A.units + 1 + 21 < cLine; omega) hd rx c1 da rv c2 t (by simpa using ht)) ?_
  refine ⟨.bl (inD d xs), H, I, ?_, p.here k (.bl _)⟩
  show Value.bool _ = Value.bool _
  rw [List.any_toArray, any_eU I hk k.le da rv c2]
theorem op_notInC (hk : X.K = w.K) (hu : X.A.units + 23 < cLine) : OpR X (compareOp .NotIn) (rInC w true) := by
  rintro pins s sg H x y u v Q I rx ry ⟨kap, G, st, d, xs, a, vs, k, hd, rfl, hH, da, c1, c2, p⟩
  obtain ⟨its, rv, hl, _⟩ := I.list (.of hH)
  cases ry
  refine SeqAt.notIn_listAt (eU w G d) hl.isList (fun t ht => mem_eU I hk k.le (by show X.A.units + 1 + 21 < cLine; omega) hd rx c1 da rv c2 t (by simpa using ht)) ?_
  refine ⟨.bl (!inD d xs), H, I, ?_, p.here k (.bl _)⟩
  show Value.bool _ = Value.bool _
  rw [List.any_toArray, any_eU I hk k.le da rv c2]
theorem inC_of {neg : Bool} {a : CE} {i : Nat} : ∀ sg H Q, rd g w (.inC neg a i) sg H Q → tOp (rInC w neg) (rd g w a) (tVar i) sg H Q := fun sg H Q ⟨kap, G, st, δ, d, st', k, sl, h, q⟩ => by
  obtain ⟨⟨d1, s1⟩, h1, h⟩ := Option.bind_eq_some_iff.mp h
  obtain ⟨c, h2, h⟩ := Option.bind_eq_some_iff.mp h
  obtain ⟨u, h4, h5⟩ := sl.at_ i _ (atC_some h2)
  refine ⟨kap, G, st, δ, d1, s1, k, sl, h1, fun v kap1 G1 H1 S k1 r => ⟨u, h4, ?_⟩⟩
  cases hc : s1[c]? with
  | none => simp only [hc] at h; cases h
  | some ce =>
    simp only [hc] at h
    cases ce with
    | lst xs =>
      obtain ⟨c0, e⟩ := if_some (show (if (shp 20 d1 && shps 20 xs) = true then some (D.bl (if neg then !inD d1 xs else inD d1 xs), s1) else none) = some (d, st') from h)
      cases e
      rw [Bool.and_eq_true] at c0
      obtain ⟨a, vs, rfl, ha, hH, da⟩ := cell_lst k1 hc (h5.mono S.g S.k)
      exact ⟨kap1, G1, _, d1, xs, a, vs, k1, r, rfl, hH, da, c0.1, c0.2, q.pre S⟩
    | _ => cases h
theorem r_inC {neg : Bool} {a : CE} {i : Nat} {x : Str} {y : Expr} {p r : Pos} (FT : Fit w F g kk X) (hN : X.N[i]? = some x) (v : Vis X.env.scope x ∧ (x == ("__debug__" : Str)) = false ∧ (x == ("__classdict__" : Str)) = false) (ha : PE X y (rd g w a)) :
    PE X (.Compare y [if neg then .NotIn else .In] [.Name x r] p) (rd g w (.inC neg a i)) := by
  cases neg with
  | true => exact PE.of (pe_cmpR (op_notInC FT.hk (by have := FT.hu; omega)) ha (pe_var hN v.1 v.2.1 v.2.2) rfl) inC_of
  | false => exact PE.of (pe_cmpR (op_inC FT.hk (by have := FT.hu; omega)) ha (pe_var hN v.1 v.2.1 v.2.2) rfl) inC_of

theorem rt_inC {neg : Bool} {a : CE} {i : Nat} {x : Str} {y : Expr} {p r : Pos} (FT : Fit w F g kk X) (hN : X.N[i]? = some x) (v : Vis X.env.scope x ∧ (x == ("__debug__" : Str)) = false ∧ (x == ("__classdict__" : Str)) = false) (ha : PE X y (rd g w a)) :
    PT X (.Compare y [if neg then .NotIn else .In] [.Name x r] p) (rdT g w (.inC neg a i)) := by
  have fin : ∀ sg H Q, rdT g w (.inC neg a i) sg H Q → tOp (rInC w neg) (rd g w a) (tVar i) sg H fun v H' => ∃ b, v = .bl b ∧ Q b H' := fun sg H Q ⟨kap, G, st, δ, d, st', c, k, sl, h, hc, q⟩ => by
    refine inC_of sg H _ ⟨kap, G, st, δ, d, st', k, sl, h, fun u kap1 G1 H1 S1 k1 ru => ?_⟩
    have hb : ∃ t, d = .bl t := by
      obtain ⟨⟨d1, s1⟩, h1, h⟩ := Option.bind_eq_some_iff.mp h
      obtain ⟨cc, h2, h⟩ := Option.bind_eq_some_iff.mp h
      cases hs : s1[cc]? with
      | none => simp only [hs] at h; cases h
      | some ce =>
        simp only [hs] at h
        cases ce with
        | lst xs =>
          obtain ⟨c0, e⟩ := if_some (show (if (shp 20 d1 && shps 20 xs) = true then some (D.bl (if neg then !inD d1 xs else inD d1 xs), s1) else none) = some (d, st') from h)
          cases e
          exact ⟨_, rfl⟩
        | _ => cases h
    obtain ⟨t, rfl⟩ := hb
    cases ru
    have e := tru_bl hc
    subst e
    exact ⟨t, rfl, q kap1 G1 H1 S1 k1⟩
  cases neg with
  | true => exact PT.of (pt_cmpR (op_notInC FT.hk (by have := FT.hu; omega)) ha (pe_var hN v.1 v.2.1 v.2.2) rfl) fin
  | false => exact PT.of (pt_cmpR (op_inC FT.hk (by have := FT.hu; omega)) ha (pe_var hN v.1 v.2.1 v.2.2) rfl) fin
theorem ints_den {G : Hp} : ∀ {xs : List D} {vs : List V} {ns : List Int}, Dens w G xs vs → intsOf xs = some ns → vs = ns.map V.int
  | _, _, _, .nil, h => by cases h; rfl
  | _, _, _, .cons (d := d) r t, h => by
    cases d with
    | int i =>
      obtain ⟨ms, h1, rfl⟩ := Option.map_eq_some_iff.mp (show (intsOf _).map (i :: ·) = some _ from h)
      cases r
      rw [ints_den t h1]
      rfl
    | _ => cases h
def tLenSet (K : PySem.W.Frag) (ta : TE) : TE := fun sg H Q => ta sg H fun x H1 => ∃ (l : Addr) (ns : List Int), x = .ref l ∧ SqL K H1 l (ns.map V.int) ∧ ns.length ≤ 4000 ∧ Q (.int (dedupN ns : Nat)) H1
theorem pe_lenSet {a : Expr} {ta : TE} {p p2 q pos : Pos} (g1 : Gl X "len") (m1 : X.mg "len" = none) (g2 : Gl X "set") (m2 : X.mg "set" = none) (ha : PE X a ta) (hc : X.calm = true)
    (na : starEach [a] X.env = (false, eval a X.env) :: starEach [] X.env) : PE X (.Call (.Name "len" p) [.Call (.Name "set" p2) [a] [] q] [] pos) (tLenSet X.K ta) := by
  constructor
  intro pins s sg H Q I h
  refine Call_ (ld_blt I g1 m1 boot_len ?_)
  refine callWith_builtin1 (args_cons ?_ rfl) rfl rfl
  refine Call_ (ld_blt I g2 m2 boot_set ?_)
  refine callWith_type1 (args_cons (thn (ha.run pins s sg H _ I h) fun v s1 ⟨x, H1, I1, r1, l, ns, ex, hq, hl, hQ⟩ => args_nil ?_) na) na rfl
  subst ex
  cases r1
  obtain ⟨its, r, pl, _⟩ := I1.list hq
  have hlen : its.toArray.size = ns.length := by
    have := r.length
    simp at this ⊢
    omega
  refine call_set_list (I1.ok.hd hc) pl.isList (show IntsAre its.toArray.toList ns by simpa using RZ.intsAre_vals r) (by rw [hlen]; unfold scanBound; omega) fun h' tk hS hk => args_nil ?_
  rw [hlen] at hS
  obtain ⟨o, es, ep, t, ho, hex, hd, _, _, _, hf, hn⟩ := hS
  have I2 : Inv X pins sg H1 { s1 with heap := h', toks := tk } := I1.kept fun b o e => hk b o (Heap.lt_size e) e
  have hle : (firstMet (fun i => ns.getD i 0) ns.length).length ≤ ns.length := firstMet_length_le _ _
  exact call_len_set ho hex hd hf (by rw [hn]; omega) ⟨.int (dedupN ns : Nat), H1, I2.tok _, ⟨_, by rw [hn]; rfl⟩, hQ⟩
theorem r_lenSet {a : CE} {x : Expr} {f h : Str} {p p2 q pos : Pos} (FT : Fit w F g kk X) (gf : Gl X f ∧ (f == ("__debug__" : Str)) = false ∧ f ≠ "__name__") (hf : f = "len") (mf : X.mg f = none) (gh : Gl X h ∧ (h == ("__debug__" : Str)) = false ∧ h ≠ "__name__") (hh : h = "set") (mh : X.mg h = none)
    (ha : PE X x (rd g w a)) (hs : star x = false) : PE X (.Call (.Name f p) [.Call (.Name h p2) [x] [] q] [] pos) (rd g w (.lenSet a)) := by
  subst hf hh
  refine PE.of (pe_lenSet gf.1 mf gh.1 mh ha FT.calm (starEach_cons hs)) fun sg H Q ⟨kap, G, st, δ, d, st', k, sl, h, q⟩ => ?_
  obtain ⟨⟨d1, s1⟩, h1, h⟩ := Option.bind_eq_some_iff.mp h
  cases d1 with
  | lst xs =>
    obtain ⟨ns, h2, h⟩ := Option.bind_eq_some_iff.mp h
    obtain ⟨hl, e⟩ := if_some (show (if ns.length ≤ 4000 then some (D.int (dedupN ns : Nat), s1) else none) = some (d, st') from h)
    cases e
    refine ⟨kap, G, st, δ, _, _, k, sl, h1, fun v kap1 G1 H1 S1 k1 rv => ?_⟩
    cases rv with
    | lst s r =>
      rename_i a vs
      have e := ints_den r h2
      subst e
      exact ⟨a, ns, rfl, by rw [FT.hk]; exact k1.le.sl s, hl, (q.pre S1).here k1 (.int _)⟩
  | _ => cases h
theorem getElem?_set_some {α : Type} {l : List α} {i j : Nat} {a b : α} (h : (l.set i a)[j]? = some b) : (j = i ∧ b = a) ∨ (j ≠ i ∧ l[j]? = some b) := by
  by_cases e : j = i
  · subst e
    rw [List.getElem?_set] at h
    simp only [if_true] at h
    split at h
    · exact .inl ⟨rfl, (Option.some.inj h).symm⟩
    · cases h
  · rw [List.getElem?_set_ne (Ne.symm e)] at h
    exact .inr ⟨e, h⟩
theorem nodup_at {l : List Addr} (nd : l.Nodup) {i j : Nat} {a : Addr} (h1 : l[i]? = some a) (h2 : l[j]? = some a) : i = j := by
  obtain ⟨l1, e1⟩ := List.getElem?_eq_some_iff.mp h1
  obtain ⟨l2, e2⟩ := List.getElem?_eq_some_iff.mp h2
  exact (List.getElem_inj nd).mp (e1.trans e2.symm)
/-- the cell's new content stands at its address -/
theorem Ok.put {kap : List Addr} {G H : Hp} {st : S} {c : Nat} {a : Addr} {o u : HO} {ce : Cell} (k : Ok w kap G st H) (ha : kap[c]? = some a) (hu : H a = some u) (nu : notTbl u) (hcd : ∀ c q, u ≠ LamX.CodeO c q) (no : notTbl o) (hc : CellOk w G (upd H a o) a ce) :
    Step kap G H kap G (upd H a o) ∧ Ok w kap G (st.set c ce) (upd H a o) := by
  have m : a ∈ kap := List.mem_of_getElem? ha
  have hg := k.fr a m
  refine ⟨⟨Le.refl _, List.prefix_refl _, fun _ h1 h2 => absurd h2 h1, fun _ h1 h2 => absurd h1 h2, fun b v h hb _ => ?_, fun b v h n => ?_⟩, ⟨fun b v h => ?_, k.nt, by rw [List.length_set]; exact k.len, k.nd, k.fr, fun k1 c1 a1 h1 h2 => ?_, ?_, fun b hb ps => ?_⟩⟩
  · have ne : b ≠ a := fun e => hb (by rw [e]; exact m)
    rw [upd_ne ne]; exact h
  · by_cases e : b = a
    · subst e; exact ⟨o, upd_same, no⟩
    · exact ⟨v, by rw [upd_ne e]; exact h, n⟩
  · rw [upd_ne (ne_of_none h hg)]; exact k.le b v h
  · rcases getElem?_set_some h1 with ⟨rfl, rfl⟩ | ⟨ne, h3⟩
    · rw [ha] at h2
      cases h2
      exact hc
    · have na : a1 ≠ a := fun e => ne (nodup_at k.nd (e ▸ h2) ha)
      have z := k.cells k1 c1 a1 h3 h2
      cases c1 with
      | lst xs => obtain ⟨vs, e, d⟩ := z; exact ⟨vs, by rw [upd_ne na]; exact e, d⟩
      | dct xs => obtain ⟨vs, e, d1, d⟩ := z; exact ⟨vs, by rw [upd_ne na]; exact e, d1, d⟩
      | dead => exact z.elim
  · exact Ok.poke.tabs_poke k.tabs hu nu hcd
  · by_cases e : b = a
    · subst e; rw [upd_same]; intro z; exact no ps (Option.some.inj z)
    · rw [upd_ne e]; exact k.ntc b hb ps
/-- a fresh list becomes a cell -/
theorem Ok.cell {kap0 kap : List Addr} {G0 H0 G H : Hp} {st : S} {a : Addr} {vs : List V} {xs : List D} (S : Step kap0 G0 H0 kap G H) (k : Ok w kap G st H) (hg : G a = none) (hk : a ∉ kap) (hH : H a = some (.lst vs)) (da : Dens w G xs vs) (h0 : ∀ o, H0 a = some o → ¬ notTbl o) :
    Step kap0 G0 H0 (kap ++ [a]) G H ∧ Ok w (kap ++ [a]) G (st ++ [.lst xs]) H ∧ DenR w (kap ++ [a]) G (.c st.length) (.ref a) := by
  refine ⟨⟨S.g, S.k.trans (List.prefix_append _ _), S.fr, fun b h1 h2 => ?_, S.ext, S.dom⟩, ⟨k.le, k.nt, by simp [k.len], ?_, fun b hb => ?_, fun k1 c1 a1 h1 h2 => ?_, k.tabs, fun b hb ps => ?_⟩, a, ?_, rfl⟩
  · rcases List.mem_append.mp h1 with h1 | h1
    · exact S.frk b h1 h2
    · rw [List.mem_singleton.mp h1]; exact h0
  · rw [List.nodup_append]
    refine ⟨k.nd, by simp, fun x hx y hy e => hk ?_⟩
    rw [← List.mem_singleton.mp hy, ← e]; exact hx
  · rcases List.mem_append.mp hb with hb | hb
    · exact k.fr b hb
    · rw [List.mem_singleton.mp hb]; exact hg
  · have hl := k.len
    rw [List.getElem?_append] at h1
    rw [List.getElem?_append] at h2
    by_cases e : k1 < st.length
    · rw [if_pos e] at h1
      rw [if_pos (by omega)] at h2
      exact k.cells k1 c1 a1 h1 h2
    · rw [if_neg e] at h1
      rw [if_neg (by omega)] at h2
      have e0 : k1 - st.length = 0 := by
        cases q : k1 - st.length with
        | zero => rfl
        | succ n => rw [q] at h1; simp at h1
      rw [e0] at h1
      have e1 : c1 = .lst xs := by simpa using h1.symm
      have e2 : k1 - kap.length = 0 := by omega
      rw [e2] at h2
      have e3 : a1 = a := by simpa using h2.symm
      subst e1 e3
      exact ⟨vs, hH, da⟩
  · rcases List.mem_append.mp hb with hb | hb
    · exact k.ntc b hb ps
    · rw [List.mem_singleton.mp hb, hH]; intro z; cases z
  · rw [← k.len]; simp
theorem if_someB {α : Type} {c : Prop} [Decidable c] {a : Option α} {z : α} (h : (if c then a else none) = some z) : c ∧ a = some z := by
  by_cases q : c
  · rw [if_pos q] at h; exact ⟨q, h⟩
  · rw [if_neg q] at h; cases h
theorem ixN_seq' {n : Nat} {i : Int} {j : Nat} (h : ixN n i = some j) : seqIndex? i n = some j := (ixN_seq h).1
theorem r_popC {i : Nat} {b : CE} {x : Str} {y : Expr} {a c r : Pos} (FT : Fit w F g kk X) (hN : X.N[i]? = some x) (v : Vis X.env.scope x ∧ (x == ("__debug__" : Str)) = false ∧ (x == ("__classdict__" : Str)) = false) (hb : PE X y (rd g w b)) (hs : star y = false) (hline : (a.endLine == c.line) = true) :
    PE X (.Call (.Attribute (.Name x r) "pop" a) [y] [] c) (rd g w (.popC i b)) := by
  have hn2 : noStars [y] = true := by show (!star y && true) = true; rw [hs]; rfl
  refine PE.of (pe_bm (T := "list") PySem.F.plainAttrs_list PySem.F.slot_list_pop PySem.F.type_list_pop (fun pins s sg H x xs v us Q I a b h => mt_popAt pins s sg H x xs v us Q I a b h) (pe_var hN v.1 v.2.1 v.2.2) (pa_cons hb pa_nil (starEach_cons hs)) rfl (few_trees hn2 (by simp)) hline (starEach_cons hs) rfl) fun sg H Q ⟨kap, G, st, δ, d, st', k, sl, h, q⟩ => ?_
  obtain ⟨cc, h1, h⟩ := Option.bind_eq_some_iff.mp h
  obtain ⟨u, h4, h5⟩ := sl.at_ i _ (atC_some h1)
  cases hc0 : st[cc]? with
  | none => simp only [hc0] at h; cases h
  | some ce0 =>
    cases ce0 with
    | lst xs0 =>
      simp only [hc0] at h
      obtain ⟨a0, vs0, rfl, ha0, hH0, da0⟩ := cell_lst k hc0 h5
      obtain ⟨⟨d1, s1⟩, h2, h⟩ := Option.bind_eq_some_iff.mp h
      refine ⟨_, h4, .inl ⟨rfl, vs0, .of hH0⟩, kap, G, st, δ, d1, s1, k, sl, h2, fun w1 kap1 G1 H1 S k1 rw1 => ?_⟩
      cases hc : s1[cc]? with
      | none => simp only [hc] at h; cases h
      | some ce =>
        simp only [hc] at h
        cases ce with
        | lst xs =>
          cases d1 with
          | int n =>
            cases rw1
            obtain ⟨cb, h6⟩ := if_someB (show (if -(2 ^ 63) ≤ n ∧ n < 2 ^ 63 then (ixN xs.length n).bind fun m => (xs[m]?).map fun z => (z, s1.set cc (.lst (xs.eraseIdx m))) else none) = some (d, st') from h)
            obtain ⟨m, h7, h8⟩ := Option.bind_eq_some_iff.mp h6
            obtain ⟨z, h9, h10⟩ := Option.map_eq_some_iff.mp h8
            cases h10
            obtain ⟨a1, vs, e1, ha, hH, da⟩ := cell_lst k1 hc (h5.mono S.g S.k)
            cases e1
            obtain ⟨t, h11, h12⟩ := da.get h9
            refine ⟨a0, vs, n, m, t, rfl, rfl, hH, cb.1, cb.2, ?_, h11, ?_⟩
            · rw [← da.length]; exact ixN_seq' h7
            · obtain ⟨S2, k2⟩ := k1.put (o := .lst (vs.eraseIdx m)) (ce := .lst (xs.eraseIdx m)) ha hH nt_lst lst_nc nt_lst ⟨_, upd_same, da.eraseIdx m⟩
              exact (q.pre (S.trans S2)).here k2 h12
          | _ => cases h
        | _ => cases h
    | _ => simp only [hc0] at h; cases h
theorem PostF.new {kap0 kap : List Addr} {G0 H0 G H : Hp} {st : S} {xs : List D} {vs : List V} {Q : VK} (p : PostF w kap0 G0 H0 st xs Q) (S : Step kap0 G0 H0 kap G H) (k : Ok w kap G st H) (da : Dens w G xs vs) (a : Addr) (ha : H a = none) : Q (.ref a) (upd H a (.lst vs)) := by
  obtain ⟨S1, k1⟩ := k.side (o := .lst vs) ha
  have h0 : ∀ o, H0 a = some o → ¬ notTbl o := fun o e n => by
    obtain ⟨o', e', _⟩ := S.dom a o e n
    rw [ha] at e'; cases e'
  refine p a vs kap G _ (S.trans S1) k1 ?_ ?_ upd_same da h0
  · cases e : G a with
    | none => rfl
    | some o => rw [k.le _ _ e] at ha; cases ha
  · intro m
    obtain ⟨o, e⟩ := k.has m
    rw [ha] at e; cases e
theorem rf_lst {es : CA} {xs : List Expr} {p : Pos} (h : PA X xs (rdA g w es)) : PE X (.List xs p) (rdF g w (.lst es)) :=
  PE.of (pe_lst h) fun sg H Q ⟨kap, G, st, δ, ys, st', k, sl, h, q⟩ => by
    obtain ⟨⟨rs, s1⟩, h1, h⟩ := Option.bind_eq_some_iff.mp h
    obtain ⟨xs, h2, h3⟩ := Option.bind_eq_some_iff.mp h
    obtain ⟨c, e⟩ := if_some h3
    cases e
    exact ⟨kap, G, st, δ, rs, _, k, sl, h1, postA_of h2 fun vs kap1 G1 H1 S k1 r => ⟨by rw [← r.length]; exact lim_size c, fun a ha => q.new S k1 r a ha⟩⟩

def rAddF (w : Wd) : R2 := fun x y H Q => ∃ kap G st xs ys, Ok w kap G st H ∧ Den w G (.lst xs) x ∧ Den w G (.lst ys) y ∧ xs.length + ys.length ≤ lim ∧ PostF w kap G H st (xs ++ ys) Q
theorem addF_ok (hk : X.K = w.K) : OpR X (binaryOp .Add) (rAddF w) := by
  rintro pins s sg H x y u v Q I rx ry ⟨kap, G, st, xs, ys, k, hd, he, hl, p⟩
  obtain ⟨a, vs, rfl, ha, da⟩ := den_lst hd
  obtain ⟨b, ws, rfl, hb, db⟩ := den_lst he
  cases rx; cases ry
  rw [← hk] at ha hb
  obtain ⟨its, r1, p1, _⟩ := I.list (k.le.sl ha)
  obtain ⟨its2, r2, p2, _⟩ := I.list (k.le.sl hb)
  have l1 := r1.length
  have l2 := r2.length
  have e1 := da.length
  have e2 := db.length
  have hsz : vs.length + ws.length ≤ sizeLine := by rw [← e1, ← e2]; exact lim_size hl
  exact add_listP p1.isList p2.isList ⟨.ref s.heap.objs.size, _, I.lnew (r1.append r2) (by rw [List.length_append]; exact hsz), rfl, p.new Step.refl k (da.append db) _ I.fresh⟩ (by omega)
theorem rf_add {a c : CE} {x y : Expr} {p : Pos} (FT : Fit w F g kk X) (ha : PE X x (rd g w a)) (hc : PE X y (rd g w c)) : PE X (.BinOp x .Add y p) (rdF g w (.bin .Add a c)) :=
  PE.of (pe_op (addF_ok FT.hk) ha hc) fun sg H Q ⟨kap, G, st, δ, zs, st', k, sl, h, q⟩ => by
    obtain ⟨d, s1, e, h1, h2, h3⟩ := ev2 h
    cases d with
    | lst xs =>
      cases e with
      | lst ys =>
        obtain ⟨hl, ez⟩ := if_some (show (if xs.length + ys.length ≤ lim then some (D.lst (xs ++ ys)) else none) = some (D.lst zs) from h3)
        cases ez
        exact r2_of k sl h1 h2 fun x y kap1 G1 H1 S k1 rx ry => ⟨kap1, G1, st', xs, ys, k1, rx, ry, hl, q.pre S⟩
      | _ => cases h3
    | int i => cases e <;> cases h3
    | str i =>
      cases e with
      | str j =>
        obtain ⟨_, ez⟩ := if_some (show (if i.length + j.length ≤ lim then some (D.str (i ++ j)) else none) = some (D.lst zs) from h3)
        cases ez
      | _ => cases h3
    | tup xs =>
      cases e with
      | tup ys =>
        obtain ⟨_, ez⟩ := if_some (show (if xs.length + ys.length ≤ lim then some (D.tup (xs ++ ys)) else none) = some (D.lst zs) from h3)
        cases ez
      | _ => cases h3
    | _ => cases h3
def rBIF (w : Wd) : List V → Hp → VK → Prop := fun vs H Q => ∃ kap G st ds xs, Ok w kap G st H ∧ Dens w G ds vs ∧ biD .list ds = some (.lst xs) ∧ PostF w kap G H st xs Q
theorem list_okF (hk : X.K = w.K) : CallR X (.type "list") (rBIF w) := by
  rintro pins s sg H vs us Q I r ⟨kap, G, st, ds, z, k, hd, hz, p⟩
  obtain ⟨d, rfl⟩ : ∃ d, ds = [d] := one_of hz (fun d e => by cases d <;> rfl) (fun d e f r => by cases d <;> rfl) rfl
  obtain ⟨v, rfl, h⟩ := dens1 hd
  cases d with
  | lst xs =>
    obtain ⟨a, vs, rfl, hq, da⟩ := den_sq hk k.le (.inl h)
    have ez : xs = z := by cases hz; rfl
    subst ez
    exact call_list_of pins s sg H _ us Q I r ⟨a, vs, rfl, hq, fun l hl => p.new Step.refl k da l hl⟩
  | tup xs =>
    obtain ⟨a, vs, rfl, hq, da⟩ := den_sq hk k.le (.inr h)
    have ez : xs = z := by cases hz; rfl
    subst ez
    exact call_list_of pins s sg H _ us Q I r ⟨a, vs, rfl, hq, fun l hl => p.new Step.refl k da l hl⟩
  | _ => cases hz
theorem rf_list {es : CA} {x : Str} {e : Expr} {xs : List Expr} {p q : Pos} (FT : Fit w F g kk X) (gl : Gl X x ∧ (x == ("__debug__" : Str)) = false ∧ x ≠ "__name__") (hx : x = BI.list.nm) (hm : X.mg x = none) (hs : noStars (e :: xs) = true) (ha : PA X (e :: xs) (rdA g w es)) :
    PE X (.Call (.Name x q) (e :: xs) [] p) (rdF g w (.blt .list es)) := by
  have h2 : (!star e && noStars xs) = true := hs
  rw [Bool.and_eq_true] at h2
  have h3 : star e = false := by simpa using h2.1
  subst hx
  refine PE.of (pe_callTy (list_okF FT.hk) gl.1 hm (bi_boot .list) ha gl.2.2 gl.2.1 (starEach_cons h3) (plain_trees h2.2)) fun sg H Q ⟨kap, G, st, δ, d, st', k, sl, h, q⟩ => ?_
  obtain ⟨⟨rs, s1⟩, h1, h⟩ := Option.bind_eq_some_iff.mp h
  obtain ⟨ys, h4, h⟩ := Option.bind_eq_some_iff.mp h
  obtain ⟨z, h5, h6⟩ := Option.map_eq_some_iff.mp h
  cases h6
  exact ⟨kap, G, st, δ, rs, _, k, sl, h1, postA_of h4 fun vs kap1 G1 H1 S k1 r => ⟨kap1, G1, _, ys, _, k1, r, h5, q.pre S⟩⟩
/-- an argument that is a fresh list -/
theorem ra_fre {a : CE} {r : CA} {x : Expr} {xs : List Expr} (he : PE X x (rdF g w a)) (hs : star x = false) (hr : PA X xs (rdA g w r)) : PA X (x :: xs) (rdA g w (.fre a r)) := by
  refine PA.of (pa_cons he hr (starEach_cons hs)) fun sg H Q ⟨kap, G, st, δ, rs0, st', k, sl, h, q⟩ => ?_
  obtain ⟨⟨d, s2⟩, h4, h⟩ := Option.bind_eq_some_iff.mp h
  cases d with
  | lst zs =>
    obtain ⟨⟨rs2, s3⟩, h5, h6⟩ := Option.map_eq_some_iff.mp h
    cases h6
    refine ⟨kap, G, st, δ, zs, s2, k, sl, h4, fun a vs2 kap2 G2 H2 S2 k2 ga ka hH da h0 => ?_⟩
    obtain ⟨S3, k3, rc⟩ := Ok.cell S2 k2 ga ka hH da h0
    exact ⟨_, G2, _, δ, rs2, _, k3, sl.mono S3.g S3.k, h5, fun vs3 kap4 G4 H4 S4 k4 r4 => q _ kap4 G4 H4 (S3.trans S4) k4 (.cons (rc.mono S4.g S4.k) r4)⟩
  | _ => cases h
/-- an argument that is a fresh list of a def -/
theorem ra_ccl {j : Nat} {as r : CA} {x : Str} {e : Expr} {ys xs : List Expr} {p q : Pos} (FT : Fit w F g kk X) (gl : Gl X x ∧ (x == ("__debug__" : Str)) = false ∧ x ≠ "__name__") (hd : Dep.isFnF x F.deps[j]? = true) (hs : noStars (e :: ys) = true) (ha : PA X (e :: ys) (rdA g w as)) (hr : PA X xs (rdA g w r)) :
    PA X (.Call (.Name x q) (e :: ys) [] p :: xs) (rdA g w (.ccl j as r)) := by
  have h2 : (!star e && noStars ys) = true := hs
  rw [Bool.and_eq_true] at h2
  have h3 : star e = false := by simpa using h2.1
  cases hg : g[j]? with
  | none => exact ⟨fun pos pins s sg H Q I ⟨kap, G, st, δ, d, st', k, sl, h, q⟩ => by
      obtain ⟨⟨rs, s1⟩, h1, h⟩ := Option.bind_eq_some_iff.mp h
      simp only [hg] at h
      cases h⟩
  | some sem =>
    cases hD : F.deps[j]? with
    | none => rw [hD] at hd; cases hd
    | some dp =>
      rw [hD] at hd
      cases dp with
      | fnF y =>
        have ey : y = x := eq_of_beq hd
        subst ey
        obtain ⟨f, hm, hk, fd, ps, hb, FO⟩ := FT.deps j _ _ hD hg (fun z => absurd z Bool.false_ne_true)
        refine PA.of (pa_cons (pe_call (E := fun _ _ _ => False) FO (FT.room.mono (Nat.le_add_right _ _)) gl.1 hm hk hb .nil (fun _ _ _ _ _ _ _ z => False.elim z) ha gl.2.1 (starEach_cons h3) (plain_trees h2.2)) hr rfl) fun sg H Q ⟨kap, G, st, δ, rs0, st', k, sl, h, q⟩ => ?_
        obtain ⟨⟨rs, s1⟩, h1, h⟩ := Option.bind_eq_some_iff.mp h
        simp only [hg] at h
        obtain ⟨⟨d, s2⟩, h4, h⟩ := Option.bind_eq_some_iff.mp h
        cases d with
        | lst zs =>
          obtain ⟨⟨rs2, s3⟩, h5, h6⟩ := Option.map_eq_some_iff.mp h
          cases h6
          have h4 := fstOf_some h4
          exact ⟨kap, G, st, δ, rs, s1, k, sl, h1, fun vs kap1 G1 H1 S k1 r => by
            show spF w sem (vs ++ []) H1 _ _
            rw [List.append_nil]
            refine ⟨kap1, G1, s1, rs, zs, s2, k1, r, h4, fun a vs2 kap2 G2 H2 S2 k2 ga ka hH da h0 => ?_⟩
            obtain ⟨S3, k3, rc⟩ := Ok.cell S2 k2 ga ka hH da h0
            exact ⟨kap2 ++ [a], G2, _, δ, rs2, _, k3, sl.mono (S.g.trans S3.g) (S.k.trans S3.k), h5, fun ws kap4 G4 H4 S4 k4 r4 => q _ kap4 G4 H4 ((S.trans S3).trans S4) k4 (.cons (rc.mono S4.g S4.k) r4)⟩⟩
        | _ => cases h
      | _ => cases hd

theorem ok_extN {kap : List Addr} {G H H1 : Hp} {st : S} (k : Ok w kap G st H) (eN : LamX.ExtN H H1) (T1 : LamX.Tabs w.T H1) : Step kap G H kap G H1 ∧ Ok w kap G st H1 := by
  have kp : ∀ a ∈ kap, ∃ o, H a = some o ∧ notTbl o := fun a ha => by
    obtain ⟨o, e⟩ := k.has ha
    exact ⟨o, e, fun ps z => k.ntc a ha ps (by rw [e, z])⟩
  refine ⟨⟨Le.refl _, List.prefix_refl _, fun _ h1 h2 => absurd h2 h1, fun _ h1 h2 => absurd h1 h2, fun b o h _ n => eN b o h n, fun b o h n => ⟨o, eN b o h n, n⟩⟩, ⟨fun b o h => eN b o (k.le b o h) (k.nt b o h), k.nt, k.len, k.nd, k.fr, fun k1 c1 a1 h1 h2 => ?_, T1, fun a ha ps z => ?_⟩⟩
  · have z := k.cells k1 c1 a1 h1 h2
    obtain ⟨o, e0, n0⟩ := kp a1 (List.mem_of_getElem? h2)
    have e1 := eN a1 o e0 n0
    cases c1 with
    | lst xs => obtain ⟨vs, e, d⟩ := z; exact ⟨vs, by rw [e1, ← e0]; exact e, d⟩
    | dct xs => obtain ⟨vs, e, d1, d⟩ := z; exact ⟨vs, by rw [e1, ← e0]; exact e, d1, d⟩
    | dead => exact z.elim
  · obtain ⟨o, e0, n0⟩ := kp a ha
    rw [eN a o e0 n0] at z
    exact n0 ps (Option.some.inj z)
theorem lamSB_eq {sc scope : Scope} (S : ScOk X sc) (h : lamSB' sc scope = true) : LamX.LamS X.env.scope scope := by
  have h := LamX.lamS_by (sc := sc) (scope := scope) h
  refine ⟨h.kind, h.co, h.gen, h.own, fun y hy e => ?_⟩
  rcases h.free y hy e with z | z
  · exact .inl (S.keep _ _ (by decide) z)
  · rcases S.free _ z with q | q
    · exact .inr q
    · exact .inl q
theorem fit_lam (FT : Fit w F g kk X) (A : Around) (outer : List Env) (s : Shared) (H : Hp) (E : XK) (scope : Scope) (f c' : Addr) (hr : Room (kk + 2) (A.deeper (LamX.lamEnv X scope s.heap.objs.size f c'))) : Fit w { F with lam := false, gd := false } g kk (LamX.lamCx X A outer s H E scope f c') := by
  refine ⟨FT.hk, rfl, hr, fun z => absurd z Bool.false_ne_true, FT.N, FT.nd, FT.wok, FT.frees, FT.globs, fun j d f h1 h2 h3 => ?_⟩
  have h4 : ¬ d.lamy = true := fun z => absurd (h3 z) Bool.false_ne_true
  have z := FT.deps j d f h1 h2 (fun q => absurd q h4)
  cases d with
  | fn x => obtain ⟨f, a, b, c⟩ := z; exact ⟨f, a, b, ⟨c.ok⟩⟩
  | mk x => obtain ⟨C, f, a, b, c⟩ := z; exact ⟨C, f, a, b, ⟨c.ok⟩⟩
  | prop x => exact fun C => let ⟨p, f, a, c⟩ := z C; ⟨p, f, a, ⟨c.ok⟩⟩
  | len => exact fun C => let ⟨f, a, b, c⟩ := z C; ⟨f, a, b, ⟨c.ok⟩⟩
  | tld x => exact absurd rfl h4
  | lamk => exact absurd rfl h4
  | fnG x => obtain ⟨f, a, b, c⟩ := z; exact ⟨f, a, b, ⟨c.ok⟩⟩
  | cls x => exact z
  | fnD x i => exact z
  | strd => exact fun C => let ⟨f, a, b, c⟩ := z C; ⟨f, a, b, ⟨c.ok⟩⟩
  | fnF x => obtain ⟨f, a, b, c⟩ := z; exact ⟨f, a, b, ⟨c.ok⟩⟩
  | fnP x => obtain ⟨f, a, b, c⟩ := z; exact ⟨f, a, b, ⟨c.ok⟩⟩
theorem sc_lam {A : Around} {outer : List Env} {s : Shared} {H : Hp} {E : XK} {scope : Scope} {f c' : Addr} (L : LamX.LamS X.env.scope scope) : ScOk (LamX.lamCx X A outer s H E scope f c') scope where
  keep := fun x k _ h => h
  free := fun x h => .inl h
  fn := fun x h => by
    have hm : (x, NameKind.cell) ∈ scope.names := by
      obtain ⟨l1, l2, e1, _⟩ := List.lookup_eq_some_iff.mp h
      rw [e1]; simp
    exact absurd rfl (L.own _ hm).2
theorem r_lam {j : Nat} {b : CE} {f : Str} {body : Expr} {scope : Scope} {q l p : Pos} (FT : Fit w F g kk X) (S : ScOk X sc) (gf : Gl X f ∧ (f == ("__debug__" : Str)) = false ∧ f ≠ "__name__") (hd : Dep.isTld f F.deps[j]? = true) (hl : F.lam = true) (hls : lamSB' sc scope = true)
    (hb : ∀ X', Fit w { F with lam := false, gd := false } g kk X' → ScOk X' scope → PE X' body (rd g w b)) : PE X (.Call (.Name f q) [.Lambda ⟨[], [], none, [], [], none, []⟩ body scope l] [] p) (rd g w (.lam j b)) := by
  cases hg : g[j]? with
  | none => exact ⟨fun pins s sg H Q I ⟨kap, G, st, δ, d, st', k, sl, h, q⟩ => by
      have h : (match g[j]? with | some _ => ev g w.flds b δ st | none => none) = some (d, st') := h
      rw [hg] at h
      cases h⟩
  | some sem =>
    cases hD : F.deps[j]? with
    | none => rw [hD] at hd; cases hd
    | some dp =>
      rw [hD] at hd
      cases dp with
      | tld y =>
        have ey : y = f := eq_of_beq hd
        subst ey
        obtain ⟨a, g0, c, P, pg, bg, sg0, dV, kV, doc, pm, cdv, ct, oc, an, od, osl, Ng, z1, z2, z3, z4, z5, z6, z7, z8, z9, z10, z11, z12, z13, z14, z15⟩ := FT.deps j _ _ hD hg (fun _ => hl)
        have L := lamSB_eq S hls
        have rm : Room (kk + 2 + 2) X.A := by
          have := FT.rm
          rw [hl, if_pos rfl] at this
          exact this.mono (by omega)
        refine PE.of (LamX.pe_lamcall (T := w.T) (TT := TT0) (t := fun _ => rd g w b) (k := kk + 2) gf.1 z1 z2 z3 z4 z5 z6 z7 z8 z13 z9 z10 z11 z12 rm L rfl (fun _ _ _ _ _ => rfl)
          (fun A outer s H E f c' hr => hb _ (fit_lam FT A outer s H E scope f c' hr) (sc_lam L)) gf.2.1 z14 z15) fun sg H Q ⟨kap, G, st, δ, d, st', k, sl, h, q⟩ => ?_
        have h : (match g[j]? with | some _ => ev g w.flds b δ st | none => none) = some (d, st') := h
        rw [hg] at h
        refine ⟨k.tabs, fun H1 eN T1 => ?_⟩
        obtain ⟨S1, k1⟩ := ok_extN k eN T1
        exact ⟨kap, G, st, δ, d, st', k1, sl, h, q.pre S1⟩
      | _ => cases hd
end
end DL

set_option Elab.async false
set_option linter.all false
set_option autoImplicit false
set_option maxRecDepth 100000
set_option maxHeartbeats 1000000
namespace DL
open PySem L2 PySem.Spec PyProof.Rows
section
variable {w : Wd} {F : Fx} {g : List DSem} {kk : Nat} {X : Cx} {sc : Scope}
theorem tyX_cls {G H : Hp} {d : D} {v : V} {kap : List Addr} {st : S} (FT : Fit w F g kk X) (hc : ∀ C, w.cls C = w.cls 0) (kc : KitC X.K (w.cls 0)) (k : Ok w kap G st H) (r : Den w G d v) : ∃ t, TyX X.K H v t ∧ PySem.W.kitOne X.K t (.ref (w.cls 0)) = some (isIns d) := by
  obtain ⟨k1, k2⟩ := kc
  cases r with
  | non => exact ⟨_, .base .non, k2 "NoneType" (by simp)⟩
  | bl b => exact ⟨_, .base (.bl b), k2 "bool" (by simp)⟩
  | int b => exact ⟨_, .base (.int b), k2 "int" (by simp)⟩
  | str b => exact ⟨_, .base (.str b), k2 "str" (by simp)⟩
  | @lst xs a vs s t =>
    have f := k2 "list" (by simp)
    rcases s with (s | ⟨o, s⟩) | ⟨o, its, m, s, c, _⟩
    · exact ⟨_, .base (.lst (k.le _ _ s)), f⟩
    · exact ⟨_, .base (.frz (k.le _ _ s)), f⟩
    · exact ⟨_, .kList (by rw [FT.hk]; exact s) c, f⟩
  | @tup xs a vs o s t u => exact ⟨_, .fTuple (k.le _ _ s), k2 "tuple" (by simp)⟩
  | @ins C xs a dx vs s t u =>
    have hk := FT.hk
    refine ⟨_, .base (.ins (k.le _ _ s) ?_ ?_ ?_ ?_ ?_), ?_⟩
    · rw [hk]; exact FT.wok.cl C
    · rw [hk]; exact FT.wok.ha C
    · rw [hk]; exact FT.wok.hn
    · rw [hk]; exact FT.wok.htk
    · rw [hk]; exact FT.wok.hm C
    · rw [hc C]; exact k1
  | @emp a s => exact ⟨_, .base (.dK (k.le _ _ s)), k2 "dict" (by simp)⟩
theorem r_isC {j : Nat} {a : CE} {x : Expr} {f y : Str} {p q r : Pos} (FT : Fit w F g kk X) (gf : Gl X f ∧ (f == ("__debug__" : Str)) = false ∧ f ≠ "__name__") (hf : f = "isinstance") (mf : X.mg f = none) (gy : Gl X y ∧ (y == ("__debug__" : Str)) = false ∧ y ≠ "__name__") (hd : Dep.isCls y F.deps[j]? = true)
    (hs : star x = false) (ha : PE X x (rd g w a)) : PE X (.Call (.Name f q) [x, .Name y r] [] p) (rd g w (.isC j a)) := by
  subst hf
  cases hg : g[j]? with
  | none => exact ⟨fun pins s sg H Q I ⟨kap, G, st, δ, d, st', k, sl, h, q⟩ => by
      obtain ⟨⟨rs, s1⟩, h1, h⟩ := Option.bind_eq_some_iff.mp h
      simp only [hg] at h
      cases h⟩
  | some sem =>
    cases hD : F.deps[j]? with
    | none => rw [hD] at hd; cases hd
    | some dp =>
      rw [hD] at hd
      cases dp with
      | cls y' =>
        have ey : y' = y := eq_of_beq hd
        subst ey
        obtain ⟨hm, hc, kc⟩ := FT.deps j _ _ hD hg (fun z => absurd z Bool.false_ne_true)
        have e1 : starEach [Expr.Name y' r] X.env = (false, eval (.Name y' r) X.env) :: starEach [] X.env := rfl
        refine PE.of (pe_callB (call_isi (X := X)) gf.1 mf (by kernel_rfl) (pa_cons ha (pa_cons (pe_glob (v := .ref (w.cls 0)) gy.1 hm rfl gy.2.1) pa_nil e1) (starEach_cons hs)) gf.2.2 gf.2.1 (starEach_cons hs) rfl) fun sg H Q ⟨kap, G, st, δ, d, st', k, sl, h, q⟩ => ?_
        obtain ⟨⟨e, s1⟩, h1, h2⟩ := Option.bind_eq_some_iff.mp h
        simp only [hg] at h2
        cases h2
        refine ⟨kap, G, st, δ, e, _, k, sl, h1, fun v kap1 G1 H1 S k1 r => ?_⟩
        obtain ⟨t0, ht, hkit⟩ := tyX_cls FT hc kc k1 r
        exact ⟨v, .ref (w.cls 0), t0, _, _, rfl, .own (w.cls 0), ht, hkit, (q.pre S).here k1 (.bl _)⟩
      | _ => cases hd
def rStrO (w : Wd) (sem : DSem) : List V → Hp → VK → Prop := fun vs H Q => ∃ v kap G st C xs x st', vs = [v] ∧ Ok w kap G st H ∧ Den w G (.ins C xs) v ∧ sem [.d (.ins C xs)] st = some (.d (.str x), st') ∧ Post w kap G H st' (.str x) Q
theorem call_strO {sem : DSem} (FT : Fit w F g kk X) (hD : DepOk w kk X .strd sem) : CallR X (.type "str") (rStrO w sem) := by
  rintro pins s sg H vs us Q I r ⟨v, kap, G, st, C, xs, x, st', rfl, k, hd, hs, q⟩
  obtain ⟨f, hfi, hff, fd, ps, hb, FO⟩ := hD C
  obtain ⟨u, rfl, ru⟩ := vals1 r
  obtain ⟨a, dx, vs, rfl, ha, hl, da⟩ := den_ins hd
  cases ru
  obtain ⟨mA, O, _, _, _, _⟩ := ins_get I.hok (k.le _ _ ha)
  obtain ⟨od, J, _⟩ := O.look
  have hsp : spD w sem [.ref a] H (fun v' H' => ∃ kap' G', Step kap G H kap' G' H' ∧ Ok w kap' G' st' H' ∧ v' = .str x) (fun _ _ _ => False) :=
    ⟨kap, G, st, [.d (.ins C xs)], _, _, k, .cons (show Den w G (.ins C xs) (.ref a) from hd) .nil, hs, fun v kap2 G2 H2 S2 k2 rv => ⟨kap2, G2, S2, k2, den_str rv⟩⟩
  have hlp : ([Value.ref a] ++ ([] : List Value)).length = ps.length := by rw [← FO.len _ _ _ _ hsp]; rfl
  have hu : X.A.in1.in1.units < cLine := by have := FT.hu; show X.A.units + 1 + 1 < cLine; omega
  refine PySem.W.kso_call hu I.kIn J hfi hff (wpAny_call (codeAny_mono (FO.run X.A.in1.in1 X.stack s H ⟨[.ref a], []⟩ [.ref a] [.ref a] _ _ (Room.in1 (Room.in1 FT.room)) I.env0.in1.in1 (hb s [.ref a] I.kIn hlp) (.cons rfl .nil) hsp) fun r s' hq => ?_))
  cases r with
  | error er => exact False.elim hq
  | ok fl =>
    cases fl with
    | ret u =>
      obtain ⟨v, H', I', rv, kap', G', S', k', rfl⟩ := I.after hq
      obtain ⟨t, rfl⟩ := rv
      exact ⟨.str x, H', I', ⟨_, rfl⟩, (q.pre S').here k' (.str _)⟩
    | next => exact False.elim hq
    | brk => exact False.elim hq
    | cont => exact False.elim hq
theorem r_strO {j : Nat} {o : CE} {x : Expr} {f : Str} {p q : Pos} (FT : Fit w F g kk X) (gf : Gl X f ∧ (f == ("__debug__" : Str)) = false ∧ f ≠ "__name__") (hf : f = "str") (mf : X.mg f = none) (hd : Dep.isStr F.deps[j]? = true) (hs : star x = false) (ha : PE X x (rd g w o)) :
    PE X (.Call (.Name f q) [x] [] p) (rd g w (.strO j o)) := by
  subst hf
  cases hg : g[j]? with
  | none => exact ⟨fun pins s sg H Q I ⟨kap, G, st, δ, d, st', k, sl, h, q⟩ => by
      obtain ⟨⟨d1, s1⟩, h1, h⟩ := Option.bind_eq_some_iff.mp h
      cases d1 <;> simp only [hg] at h <;> cases h⟩
  | some sem =>
    cases hD : F.deps[j]? with
    | none => rw [hD] at hd; cases hd
    | some dp =>
      rw [hD] at hd
      cases dp with
      | strd =>
        refine PE.of (pe_callTy (call_strO FT (FT.deps j _ _ hD hg (fun z => absurd z Bool.false_ne_true))) gf.1 mf (by kernel_rfl) (pa_cons ha pa_nil (starEach_cons hs)) gf.2.2 gf.2.1 (starEach_cons hs) rfl) fun sg H Q ⟨kap, G, st, δ, d, st', k, sl, h, q⟩ => ?_
        obtain ⟨⟨d1, s1⟩, h1, h⟩ := Option.bind_eq_some_iff.mp h
        cases d1 with
        | ins C xs =>
          simp only [hg] at h
          obtain ⟨⟨r, s2⟩, h2, h3⟩ := Option.bind_eq_some_iff.mp h
          cases r with
          | str y =>
            cases (show some (D.str y, s2) = some (d, st') from h3)
            exact ⟨kap, G, st, δ, _, s1, k, sl, h1, fun v kap1 G1 H1 S k1 r => ⟨v, kap1, G1, s1, C, xs, y, _, rfl, k1, r, fstOf_some h2, q.pre S⟩⟩
          | _ => cases h3
        | _ => simp only [hg] at h; cases h
      | _ => cases hd
theorem r_lstS {a b : CE} {x y : Expr} {p q : Pos} (FT : Fit w F g kk X) (hs : star x = false) (ha : PE X x (rd g w a)) (hb : PE X y (rd g w b)) : PE X (.List [x, .Starred y p] q) (rd g w (.lstS a b)) := by
  refine PE.of (pe_lst (pa_cons ha (StX.pa_star (p := p) hb pa_nil rfl) (starEach_cons hs))) fun sg H Q ⟨kap, G, st, δ, d, st', k, sl, h, q⟩ => ?_
  obtain ⟨⟨d1, s1⟩, h1, h⟩ := Option.bind_eq_some_iff.mp h
  obtain ⟨⟨d2, s2⟩, h2, h⟩ := Option.bind_eq_some_iff.mp h
  obtain ⟨xs, h3, h4⟩ := Option.bind_eq_some_iff.mp h
  obtain ⟨c, e⟩ := if_some h4
  cases e
  refine ⟨kap, G, st, δ, d1, s1, k, sl, h1, fun v kap1 G1 H1 S k1 r => ⟨kap1, G1, s1, δ, d2, _, k1, sl.mono S.g S.k, h2, fun v2 kap2 G2 H2 S2 k2 r2 => ?_⟩⟩
  have hd : d2 = .lst xs ∨ d2 = .tup xs := by
    cases d2 <;> first | cases h3 | skip
    · exact .inl rfl
    · exact .inr rfl
  obtain ⟨pa, vs, rfl, hsq, da⟩ := den_sq (X := X) FT.hk k2.le (by
    rcases hd with e | e
    · rw [e] at r2; exact .inl r2
    · rw [e] at r2; exact .inr r2)
  refine ⟨pa, vs, rfl, hsq.symm, ?_⟩
  refine ⟨?_, fun t ht => ?_⟩
  · have := da.length
    have hl : ((v :: (vs ++ [])) : List V).length ≤ lim := by simp; omega
    exact lim_size hl
  · rw [List.append_nil]
    exact ((q.pre S).pre S2).lst k2 (.cons (r.mono S2.g) da) t ht
def rRpr (w : Wd) : List V → Hp → VK → Prop := fun vs H Q => ∃ v kap G st d x, vs = [v] ∧ Ok w kap G st H ∧ Den w G d v ∧ rprD d = some x ∧ Post w kap G H st (.str x) Q
theorem call_rpr (FT : Fit w F g kk X) (hq : Quiet X.A) : CallR X (.builtin "repr") (rRpr w) := by
  rintro pins s sg H vs us Q I r ⟨v, kap, G, st, d, x, rfl, k, hd, hx, q⟩
  obtain ⟨u, rfl, ru⟩ := vals1 r
  obtain ⟨p, hp, h⟩ := Option.bind_eq_some_iff.mp hx
  obtain ⟨⟨c1, c2, c3, c4⟩, rfl⟩ := if_some h
  obtain ⟨as, rr⟩ := den_reads I FT.hk k.le hd ru hp
  have c5 : p.shown.length ≤ sizeLine := lim_size c4
  have hu := FT.hu
  have fin : ∀ (h' : Heap) (t tk : Tok), (∀ b o, s.heap.get? b = some o → h'.get? b = some o) → EP X pins sg Q (.str p.shown t) { s with heap := h', toks := tk } := fun h' t tk hk => ⟨.str p.shown, H, I.kept hk, ⟨t, rfl⟩, q.here k (.str _)⟩
  cases u with
  | ref a => exact repr_of_reads' rr c1 (PyData.noDict_hsm c2) hq (by omega) (fun _ _ e => e) (fun h' u tk hk => fin h' u tk hk) c5
  | none =>
    cases rr
    exact PySem.P.repr_of_none (fin s.heap s.toks (s.toks + 1) fun _ _ e => e)
  | bool b =>
    cases rr
    exact PySem.P.repr_of_bool (fin s.heap s.toks (s.toks + 1) fun _ _ e => e)
  | int i t =>
    cases rr
    exact PySem.P.repr_of_int (of_decide_eq_true c1) (fin s.heap s.toks (s.toks + 1) fun _ _ e => e)
  | str y t =>
    cases rr
    exact PySem.P.repr_of_str (fin s.heap s.toks (s.toks + 1) fun _ _ e => e) c5
  | _ => cases rr
theorem r_rpr {a : CE} {x : Expr} {f : Str} {p q : Pos} (FT : Fit w F g kk X) (hgd : F.gd = true) (gf : Gl X f ∧ (f == ("__debug__" : Str)) = false ∧ f ≠ "__name__") (hf : f = "repr") (mf : X.mg f = none) (hs : star x = false) (ha : PE X x (rd g w a)) :
    PE X (.Call (.Name f q) [x] [] p) (rd g w (.rpr a)) := by
  subst hf
  refine PE.of (pe_callB (call_rpr FT (FT.qt hgd)) gf.1 mf (by kernel_rfl) (pa_cons ha pa_nil (starEach_cons hs)) gf.2.2 gf.2.1 (starEach_cons hs) rfl) fun sg H Q ⟨kap, G, st, δ, d, st', k, sl, h, q⟩ => ?_
  obtain ⟨⟨d1, s1⟩, h1, h⟩ := Option.bind_eq_some_iff.mp h
  obtain ⟨y, h2, h3⟩ := Option.map_eq_some_iff.mp h
  cases h3
  exact ⟨kap, G, st, δ, d1, _, k, sl, h1, fun v kap1 G1 H1 S k1 r => ⟨v, kap1, G1, _, d1, y, rfl, k1, r, h2, q.pre S⟩⟩
end
end DL

set_option Elab.async false
set_option linter.all false
set_option autoImplicit false
set_option maxRecDepth 100000
set_option maxHeartbeats 1000000
namespace DL
open PySem L2 PySem.Spec PyProof.Rows PySem.W PySem.Calls

/-- a key's value reads as p, now and later -/
def KeyAt (w : Wd) (G : Hp) (kv : Value) (p : PyData) : Prop := ∃ (v : V) (d : D), RelV v kv ∧ Den w G d v ∧ toPy d = some p
theorem KeyAt.mono {w : Wd} {G G' : Hp} {kv : Value} {p : PyData} (le : Le G G') (h : KeyAt w G kv p) : KeyAt w G' kv p := by
  obtain ⟨v, d, h1, h2, h3⟩ := h
  exact ⟨v, d, h1, h2.mono le, h3⟩
theorem each_getR {α β : Type} {R : α → β → Prop} : ∀ {as : List α} {bs : List β} {j : Nat} {a : α}, EachIs R as bs → as[j]? = some a → ∃ b, bs[j]? = some b ∧ R a b
  | _, _, _, _, .nil, e => by simp at e
  | _, _, 0, _, .cons h _, e => by simp at e; subst e; exact ⟨_, rfl, h⟩
  | _, _, j + 1, _, .cons _ t, e => by
    obtain ⟨b, e1, e2⟩ := each_getR (j := j) t (by simpa using e)
    exact ⟨b, by simpa using e1, e2⟩
section
variable {X : Cx} {pins : List (Addr × Obj)} {sg : L2.St} {H G : Hp} {s : Shared} {w : Wd} {kap : List Addr} {st : S} {l f : Addr} {fo : Obj} {xs : List V} {ds : List D}
/-- what stands after j keys -/
def KeysSt (X : Cx) (pins : List (Addr × Obj)) (sg : L2.St) (w : Wd) (kap : List Addr) (G H : Hp) (st : S) (a kS f : Addr) (fo : Obj) (e1 : Nat) (kz : List PyData) (j : Nat) (s1 : Shared) : Prop :=
  ∃ (G1 H1 : Hp) (ks : Array Value) (e : Nat), Inv X pins sg H1 s1 ∧ Step kap G H kap G1 H1 ∧ Ok w kap G1 st H1 ∧ s1.heap.get? kS = some (seqObj "list" ks e) ∧ s1.heap.get? a = some (seqObj "list" #[] e1) ∧
    H1 kS = none ∧ H1 a = none ∧ H1 f = none ∧ s1.heap.get? f = some fo ∧ EachIs (KeyAt w G1) ks.toList (kz.take j)
/-- what a key's call must do -/
def KeyTurn (X : Cx) (pins : List (Addr × Obj)) (sg : L2.St) (w : Wd) (kap : List Addr) (G H : Hp) (st : S) (f : Addr) (fo : Obj) (ds : List D) (kk : D → PyData) : Prop :=
  ∀ (x : D) (u : Value) (v : V) (G1 H1 : Hp) (s1 : Shared), x ∈ ds → RelV v u → Den w G1 x v → Inv X pins sg H1 s1 → Step kap G H kap G1 H1 → Ok w kap G1 st H1 → s1.heap.get? f = some fo → H1 f = none →
    wpAny (model X.prog X.w) X.A.in1.in1 (call (.ref f) [u]) (fun kv s2 => ∃ G2 H2, Inv X pins sg H2 s2 ∧ Un (frs X.stack) [] H1 H2 s1.heap s2.heap ∧ Step kap G1 H1 kap G2 H2 ∧ Ok w kap G2 st H2 ∧ KeyAt w G2 kv (kk x)) (fun _ _ => False) s1
theorem sorted_keys {kk : D → PyData} {Q : VK} (I : Inv X pins sg H s) (hK : X.K = w.K) (hs : SqL X.K H l xs) (hd : Dens w G ds xs) (k : Ok w kap G st H) (hf : s.heap.get? f = some fo) (hfn : H f = none) (hfs : f ∉ frs X.stack)
    (hal : AllAlike (ds.map kk)) (hsk : Sortable (ds.map kk)) (hu : ∀ p ∈ ds.map kk, X.A.in1.in1.units + p.depth < cLine) (turn : KeyTurn X pins sg w kap G H st f fo ds kk) (hq : Post w kap G H st (.lst (isort (dataLe false kk) ds)) Q) :
    wpAny (model X.prog X.w) X.A (call (.builtin "sorted") [.ref l] [(Str.ofString "key", .ref f)]) (EP X pins sg Q) X.xe s := by
  obtain ⟨us, rv, hl, hz⟩ := I.list hs
  have hlen : us.length = ds.length := by rw [hd.length]; exact rv.length.symm
  have hzu : us.length ≤ sizeLine := by rw [← rv.length]; exact hz
  refine sorted_of_sort hl.isList hzu (ksk_s1 _ _) (fun _ => ksk_l1 _ _) fun E' => ?_
  rw [ksk_t1]
  -- the copy
  have cA := copyHeap_at s.heap us
  have cO : ∀ b o, s.heap.get? b = some o → (copyHeap s.heap us).get? b = some o := fun b o => copyHeap_old
  generalize ha : s.heap.objs.size + 1 = a at *
  have aBig : s.heap.objs.size ≤ a := by omega
  generalize copyHeap s.heap us = h1 at *
  obtain ⟨n1, cA⟩ : ∃ n1, h1.get? a = some (seqObj "list" us.toArray n1) := ⟨_, cA⟩
  have aLt : a < h1.objs.size := Heap.lt_size cA
  obtain ⟨e1, ho1⟩ : ∃ e1, (h1.update a (Obj.mapSeq fun _ => (#[] : Array Value))).get? a = some (seqObj "list" #[] e1) := ⟨_, get?_update_seq cA fun _ => #[]⟩
  have sb := Heap.SameBut.update h1 a (Obj.mapSeq fun _ => (#[] : Array Value))
  unfold ksk_tree
  refine wpAny_bind (listItems_at cA rfl ?_)
  refine wpAny_bind (listUpdate_at cA rfl ?_ (by rw [List.size_toArray]; exact hzu) (Nat.zero_le _))
  refine wpAny_bind (seqEpoch_at ho1 rfl ?_)
  refine wpAny_bind (wpAny_newTuple ?_ (by show us.length ≤ _; exact hzu))
  refine wpAny_bind (wpAny_newList ?_ (Nat.zero_le _))
  refine wpAny_holding ?_
  -- what was there stays
  have sz1 : (h1.update a (Obj.mapSeq fun _ => (#[] : Array Value))).objs.size = h1.objs.size := Heap.size_update ..
  generalize hkS : ((h1.update a (Obj.mapSeq fun _ => (#[] : Array Value))).push (seqObj "tuple" us.toArray 0)).objs.size = kS
  have kSz : kS = h1.objs.size + 1 := by rw [← hkS, size_push', sz1]
  generalize hh5 : ((h1.update a (Obj.mapSeq fun _ => (#[] : Array Value))).push (seqObj "tuple" us.toArray 0)).push (seqObj "list" #[] 0) = h5
  have o5 : ∀ b o, s.heap.get? b = some o → h5.get? b = some o := fun b o e => by
    have hb : b ≠ a := Nat.ne_of_lt (Nat.lt_of_lt_of_le (Heap.lt_size e) aBig)
    rw [← hh5]
    exact Heap.get?_push_of_some _ (Heap.get?_push_of_some _ ((sb.2 b hb).trans (cO b o e)))
  have a5 : h5.get? a = some (seqObj "list" #[] e1) := by
    rw [← hh5]
    exact Heap.get?_push_of_some _ (Heap.get?_push_of_some _ ho1)
  have k5 : h5.get? kS = some (seqObj "list" #[] 0) := by
    rw [← hh5, ← hkS]
    exact Heap.get?_push_size _ rfl
  have neKA : kS ≠ a := by omega
  have fpA : ∀ H', H' a = none → FpOk X pins H' a := fun H' n => I.fpOk aBig n
  have fpK : ∀ H', H' kS = none → FpOk X pins H' kS := fun H' n => I.fpOk (by omega) n
  have nfr : ∀ b, s.heap.objs.size ≤ b → b ∉ frs X.stack := fun b hb z => by
    rcases List.mem_cons.mp (I.stkSub _ z) with e | e
    · have q : X.env.locals < s.heap.objs.size := I.lt
      rw [e] at hb
      exact absurd q (Nat.not_lt.mpr hb)
    · exact I.nofs hb e
  have start : KeysSt X pins sg w kap G H st a kS f fo e1 (ds.map kk) 0 { s with heap := h5 } :=
    ⟨G, H, #[], 0, I.kept o5, Step.refl, k, k5, a5, I.hok.fresh (by omega), I.hok.fresh aBig, hfn, o5 _ _ hf, by rw [List.take_zero]; exact .nil⟩
  have hdR := each_den hd rv
  have toks5 : ∀ s6 : Shared, s6 = { s with heap := h5 } → KeysSt X pins sg w kap G H st a kS f fo e1 (ds.map kk) 0 s6 := fun s6 e => e ▸ start
  unfold ksk_rest
  refine wpAny_bind (wpAny_rule ?_)
  first
    | rw [List.forIn_toArray]
    | rw [← Array.forIn_toList]
  refine wpAny_bind (ksk_fold (fun j s6 => KeysSt X pins sg w kap G H st a kS f fo e1 (ds.map kk) j s6) us 0 _ start ?each ?fin)
  case each =>
    intro j u s6 hju hst
    rw [Nat.zero_add] at hst ⊢
    obtain ⟨G1, H1, ks, e, I1, S1, k1, kObj, aObj, nK, nA, nF, fObj, reads⟩ := hst
    obtain ⟨x, hx, v, rvx, dx⟩ := each_getR hdR hju
    have hxm := List.mem_of_getElem? hx
    have jlt : j < us.length := (List.getElem?_eq_some_iff.mp hju).1
    have ksz : ks.size ≤ us.length := by
      have := reads.length
      rw [Array.length_toList, List.length_take, List.length_map] at this
      omega
    refine wpAny_bind (wpAny_attempt (wpAny_mono (turn x u v G1 H1 s6 hxm rvx (dx.mono S1.g) I1 S1 k1 fObj nF) (fun kv s7 hkv => ?_) fun _ _ z => z.elim))
    obtain ⟨G2, H2, I2, U2, S2, k2, kread⟩ := hkv
    have kObj2 : s7.heap.get? kS = some (seqObj "list" ks e) := U2.keep _ _ kObj nK (nfr _ (by omega)) (by simp)
    have aObj2 : s7.heap.get? a = some (seqObj "list" #[] e1) := U2.keep _ _ aObj nA (nfr _ aBig) (by simp)
    have fObj2 : s7.heap.get? f = some fo := U2.keep _ _ fObj nF hfs (by simp)
    have nK2 : H2 kS = none := U2.free _ _ kObj nK (by simp)
    have nA2 : H2 a = none := U2.free _ _ aObj nA (by simp)
    have nF2 : H2 f = none := U2.free _ _ fObj nF (by simp)
    have sb2 := Heap.SameBut.update s7.heap kS (Obj.mapSeq (·.push kv))
    obtain ⟨e2, up2⟩ : ∃ e2, (s7.heap.update kS (Obj.mapSeq (·.push kv))).get? kS = some (seqObj "list" (ks.push kv) e2) := ⟨_, get?_update_seq kObj2 (·.push kv)⟩
    have fne : f ≠ kS := fun z => by
      have q1 := Heap.lt_size hf
      have q3 : s.heap.objs.size ≤ kS := by omega
      rw [z] at q1
      exact Nat.lt_irrefl _ (Nat.lt_of_lt_of_le q1 q3)
    have I3 : Inv X pins sg H2 { s7 with heap := s7.heap.update kS (Obj.mapSeq (·.push kv)), toks := s7.toks } := I2.turnedL (ch := [kS]) (fun b o hb q => (sb2.2 b (by simpa using hb)).trans q) fun b hb => by
      rw [List.mem_singleton.mp hb]
      exact fpK _ nK2
    dsimp only
    refine wpAny_bind (listUpdate_at kObj2 rfl ?_ (Nat.le_trans ksz hzu) (Nat.le_trans (Nat.le_of_eq (Array.size_push ..)) (Nat.succ_le_succ (Nat.le_trans ksz hzu))))
    refine wpAny_pure ⟨rfl, G2, H2, ks.push kv, e2, I3, S1.trans S2, k2, up2, (sb2.2 a neKA.symm).trans aObj2, nK2, nA2, nF2, (sb2.2 f fne).trans fObj2, ?_⟩
    have t1 : (ds.map kk).take (j + 1) = (ds.map kk).take j ++ [kk x] := by
      rw [List.take_add_one, List.getElem?_map, hx]; rfl
    rw [t1, Array.toList_push]
    exact each_snoc kread (reads.mono fun _ _ q => q.mono S2.g)
  case fin =>
    intro s6 hst
    obtain ⟨G1, H1, ks, e, I1, S1, k1, kObj, aObj, nK, nA, nF, fObj, reads⟩ := hst
    have t1 : (ds.map kk).take (0 + us.length) = ds.map kk := List.take_of_length_le (by simp; omega)
    rw [t1] at reads
    have ksz : ks.size = us.length := by
      have := reads.length
      rw [Array.length_toList, List.length_map] at this
      omega
    have rd1 : EachIs (fun v p => ∃ as, Reads s6.heap v p as) ks.toList (ds.map kk) := reads.mono fun kv p ⟨v, d, q1, q2, q3⟩ => den_reads I1 hK k1.le q2 q1 q3
    refine wpAny_bind (listItems_at kObj rfl ?_)
    -- the heap without the keys' list
    obtain ⟨h0, z0, z1⟩ : ∃ h0 : Heap, h0.get? kS = none ∧ ∀ b, b ≠ kS → h0.get? b = s6.heap.get? b := by
      refine ⟨s6.heap.update kS fun o => { o with data := .freed }, ?_, fun b hb => Heap.get?_update_ne _ _ _ _ hb⟩
      cases hh : s6.heap with
      | mk objs lf =>
        show Heap.get? ⟨objs.modify kS _, lf⟩ kS = none
        unfold Heap.get?
        simp only [Array.getElem?_modify]
        cases objs[kS]? <;> rfl
    have kb : KeepsBut a h0 s6.heap := fun b o _ q => by
      by_cases hb : b = kS
      · rw [hb, z0] at q; cases q
      · rw [← z1 b hb]; exact q
    refine keyH_end (κ := dataKind s6.heap (ds.map kk)) (b := false) (h₁ := h0) kb z0 kObj aObj neKA (SortsAt.data rd1 hal hsk hu) ksz hzu fun h7 tk c kb7 a7 => ⟨rfl, ?_⟩
    have outE := keyedOut_each (rev := false) (out := sortVals (dataKind s6.heap (ds.map kk)) false ks.toList us) kk ⟨s6.heap, ks.toList, hal, rfl, rd1⟩ hdR
    rw [sorted_is] at outE
    generalize sortVals (dataKind s6.heap (ds.map kk)) false ks.toList us = out at *
    obtain ⟨vo, dv, vv⟩ := den_each outE
    have I7 : Inv X pins sg H1 { s6 with heap := h7, toks := tk } := I1.turnedL (ch := [a, kS]) (fun b o hb q => by
      simp only [List.mem_cons, List.not_mem_nil, or_false, not_or] at hb
      exact kb7 b o hb.1 ((z1 b hb.2).trans q)) fun b hb => by
      rcases List.mem_cons.mp hb with e | hb
      · rw [e]; exact fpA _ nA
      · rw [List.mem_singleton.mp hb]; exact fpK _ nK
    have olen : vo.length ≤ sizeLine := by
      rw [← dv.length, isort_len, ← hlen]; exact hzu
    have I8 : Inv X pins sg (upd H1 a (.lst vo)) { s6 with heap := h7, toks := tk } := I7.take (h' := h7) (t' := tk) (fun _ _ _ q => q) (fpA _ nA) ⟨olen, out, c, vv, a7⟩
    obtain ⟨S8, k8⟩ := Step.new k1 nA (nt_lst (xs := vo))
    exact ⟨.ref a, upd H1 a (.lst vo), I8, rfl, hq _ kap _ _ (S1.trans S8) k8 (.lst (.inl (.inl upd_same)) (dv.mono (S1.trans S8).g))⟩
end
end DL

set_option Elab.async false
set_option linter.all false
set_option autoImplicit false
set_option maxRecDepth 100000
set_option maxHeartbeats 1000000
namespace DL
open PySem L2 PySem.Spec PyProof.Rows PySem.W PySem.Calls
abbrev par1 (x : Str) (p : Pos) : Arguments := ⟨[], [⟨x, none, p⟩], none, [], [], none, []⟩
theorem bind1 {x q : Str} {p : Pos} {body : Expr} {scope : Scope} {cl : List (Str × Addr)} {pm cdv ct : Value} (u : Value) : bindArgs (PySem.W.kla_fn "<lambda>" q (par1 x p) body scope cl pm cdv ct) ⟨[u], []⟩ = pure [(x, u)] := by
  unfold bindArgs
  simp [par1, seqItems?]
  rfl
/-- one parameter, no other name of its own -/
structure Lam1 (x : Str) (sc scope : Scope) : Prop where
  kind : scope.kind = .function
  co : scope.isCoroutine = false
  gen : scope.isGenerator = false
  par : scope.names.lookup x = some .local
  own : ∀ y ∈ scope.names, y.2 ≠ .cell ∧ (y.2 = .local → y.1 = x)
  free : ∀ y ∈ scope.names, y.2 = .free → sc.names.lookup y.1 = some .cell ∨ sc.names.lookup y.1 = some .free
/-- the body's context -/
def lamCx1 (X : Cx) (A : Around) (outer : List Env) (s : Shared) (H : Hp) (E : XK) (scope : Scope) (f c' : Addr) (N1 : List Str) : Cx := { LamX.lamCx X A outer s H E scope f c' with N := N1 }
section
variable {X : Cx} {pins : List (Addr × Obj)} {sg sg1 : L2.St} {H : Hp} {s : Shared}
theorem lam1_start {x : Str} {v : V} {u : Value} {N1 : List Str} {A : Around} {E : XK} {scope : Scope} {f c' : Addr} {h1 : Heap} {tk : Nat} (J : Inv X pins sg H s) (L : Lam1 x X.env.scope scope) (hA : A.frames = some X.stack) (hh : A.handled = none) (rv : RelV v u)
    (ns : h1.Ns s.heap.objs.size fun y => [(x, u)].reverse.lookup y) (up : ∀ b o, s.heap.get? b = some o → h1.get? b = some o) (hl : sg1.length = N1.length)
    (hN : ∀ (i : Nat) (y : Str) (z : V), N1[i]? = some y → sg1[i]? = some (some z) → (y = x ∧ z = v) ∨ (scope.names.lookup y = some .free ∧ ∃ j : Nat, X.N[j]? = some y ∧ sg[j]? = some (some z))) :
    Inv (lamCx1 X A X.stack s H E scope f c' N1) [] sg1 H { s with heap := h1, toks := tk } := by
  have e0 := J.env0
  have caught : ∀ y ∈ scope.names, y.2 = .free → ∃ c, X.env.cells.lookup y.1 = some c := fun y hy e => by
    rcases L.free y hy e with q | q
    · exact J.ok.has _ (.inl q)
    · exact J.ok.has _ (.inr q)
  have same : ∀ {y c}, (cloFrom X.env.cells scope.names []).lookup y = some c → X.env.cells.lookup y = some c := fun {y c} e => by
    rcases cloFrom_mem (PySem.mem_of_lookup e) with hm | ⟨q1, q2⟩
    · cases hm
    · obtain ⟨d, hd⟩ := caught _ q1 rfl
      have hd : X.env.cells.lookup y = some d := hd
      have z : c = d := by
        rw [q2, hd] <;> rfl
      rw [z]; exact hd
  have found : ∀ {y}, scope.names.lookup y = some .free → ∃ c, (cloFrom X.env.cells scope.names []).lookup y = some c := fun {y} q => mem_lookup (cloFrom_has (cells := X.env.cells) (acc := []) (PySem.mem_of_lookup q))
  have stays : ∀ {c : Addr} {z : Option Value}, s.heap.IsCell c z → h1.IsCell c z := fun {c z} ⟨o, ho, hd⟩ => ⟨o, up _ _ ho, hd⟩
  have none_ex : ∀ b : Addr, b ∉ (lamCx1 X A X.stack s H E scope f c' N1).ex := fun b z => absurd (show b ∈ ([] : List Addr) from z) (by simp)
  refine ⟨⟨e0.mod, L.kind, rfl, rfl, Nat.le_refl _, fun y z c q1 q2 => J.ok.inj y z c (same q1) (same q2), fun y hy => ?_, fun y c z _ => ?_, fun _ => hh, Around.frames_deeper hA, .inr ⟨rfl, rfl⟩, fun b z => absurd z (none_ex b), e0.bs, e0.bsz, fun b _ _ => none_ex b,
      fun b z => absurd z (none_ex b), e0.funs, e0.frf⟩, rfl, e0.bare, Un.kept up, ⟨_, ns, fun i y z q1 q2 q3 => ?_⟩, fun y c q => ?_, e0.hok.fresh (Nat.le_refl _), fun y c q => ?_, fun q hq => absurd (show q ∈ ([] : List (Addr × Obj)) ++ [] from hq) (by simp), e0.hok.kept up, hl⟩
  · have hy : scope.names.lookup y = some .cell ∨ scope.names.lookup y = some .free := hy
    rcases hy with hy | hy
    · exact absurd rfl (L.own _ (PySem.mem_of_lookup hy)).1
    · exact found hy
  · have z : false = true := z
    cases z
  · rcases hN i y z q1 q2 with ⟨rfl, rfl⟩ | ⟨hfree, j, n1, n2⟩
    · exact ⟨u, rv, .inl ⟨L.par, by simp⟩⟩
    · obtain ⟨m, _, hloc⟩ := J.loc
      have vis : Vis X.env.scope y := (L.free _ (PySem.mem_of_lookup hfree) rfl).elim (fun k => .inr (.inl k)) (fun k => .inr (.inr k))
      obtain ⟨u', r', q⟩ := hloc j y z n1 n2 vis
      obtain ⟨c, hc⟩ := found hfree
      refine ⟨u', r', .inr ⟨.inr hfree, c, hc, ?_⟩⟩
      have hc0 := same hc
      rcases q with ⟨k', _⟩ | ⟨_, d, e', z'⟩
      · have k' : X.env.scope.names.lookup y = some .local := k'
        rcases L.free _ (PySem.mem_of_lookup hfree) rfl with k2 | k2 <;> rw [show X.env.scope.names.lookup y = _ from k2] at k' <;> cases k'
      · rw [hc0] at e'
        cases e'
        exact stays z'
  · obtain ⟨z, q'⟩ := J.cell y c (same q)
    exact ⟨z, stays q'⟩
  · exact J.freeC y c (same q)
/-- f(u), f that lambda's function: its body's end -/
theorem lam1_call {x : Str} {v : V} {u : Value} {N1 : List Str} {p : Pos} {body : Expr} {scope : Scope} {f c' : Addr} {pm ctv : Value} {k : Nat} {tb : TE} {Q : VK} (J : Inv X pins sg H s) (L : Lam1 x X.env.scope scope) (hr : Room (k + 3) X.A) (rv : RelV v u)
    (hf : s.heap.get? f = some (PySem.W.kla_obj "<lambda>" (X.env.qual ++ "<lambda>") (par1 x p) body scope (cloFrom X.env.cells scope.names []) pm c' ctv)) (hc : H c' = some (LamX.CodeO c' (X.env.qual ++ "<lambda>"))) (hl : sg1.length = N1.length)
    (hN : ∀ (i : Nat) (y : Str) (z : V), N1[i]? = some y → sg1[i]? = some (some z) → (y = x ∧ z = v) ∨ (scope.names.lookup y = some .free ∧ ∃ j : Nat, X.N[j]? = some y ∧ sg[j]? = some (some z)))
    (hb : ∀ (A : Around) (outer : List Env) (s : Shared) (H : Hp) (E : XK), Room k (A.deeper (LamX.lamEnv X scope s.heap.objs.size f c')) → PE (lamCx1 X A outer s H E scope f c' N1) body tb) (ht : tb sg1 H Q) :
    wpAny (model X.prog X.w) X.A.in1.in1 (call (.ref f) [u]) (fun kv s2 => ∃ z H2, Inv X pins sg H2 s2 ∧ Un (frs X.stack) [] H H2 s.heap s2.heap ∧ RelV z kv ∧ Q z H2) (fun _ _ => False) s := by
  obtain ⟨⟨oc, vs, t, hoc, hdc, hvc⟩, _, _⟩ := J.hok c' _ hc
  have r2 : Room (k + 1) X.A.in1.in1 := hr.in1.in1
  have rc : codeAny (model X.prog X.w) X.A.in1.in1 (.call (.ref f) ⟨[u], []⟩) (CR (L2.CX X.prog X.w) X.stack X.prog X.w H s Q (fun _ _ _ => False)) s := by
    refine PySem.W.kla_callFunE r2.depth hf rfl L.co L.gen rfl ⟨c', oc, vs, t, rfl, hoc, hdc, hvc⟩ ?_
    rw [bind1]
    refine wpAny_pure (wpAny_newFunctionEnv (fun y hy => (L.own y hy).1) (fun y hy => ?_) (fun h1 hns hsb => ⟨J.nolimit.fresh _ hsb, ?_⟩) L.kind)
    · rw [List.mem_singleton.mp hy]; exact L.par
    · show codeAny _ _ (.expr body (LamX.lamEnv X scope s.heap.objs.size f c')) _ _
      have up : ∀ b o, s.heap.get? b = some o → h1.get? b = some o := fun b o e => hsb.extBut b o (Nat.ne_of_lt (Heap.lt_size e)) (Heap.get?_push_of_some _ e)
      have I1 := lam1_start (N1 := N1) (sg1 := sg1) (A := X.A.in1.in1) (E := fun _ _ _ => False) (f := f) (c' := c') (tk := s.toks + ([(x, u)] : List (Str × Value)).length) J L J.env0.frames r2.hd rv hns up hl hN
      refine PySem.W.kla_codeExpr (wpAny_mono ((hb _ _ s H _ (r2.deeper _)).run [] _ _ H Q I1 ht) (fun z s' hq => ?_) fun e s' hq => hq)
      obtain ⟨w', H', J', r', q⟩ := hq
      exact ⟨w', H', J'.os, J'.bare, J'.base, J'.hok, r', q⟩
  refine wpAny_call (codeAny_mono rc fun r s' hq => ?_)
  cases r with
  | error e =>
    obtain ⟨_, _, _, _, _, _, _, _, _, _, _, _, z⟩ := hq
    exact z
  | ok fl =>
    cases fl with
    | ret z =>
      obtain ⟨w', H', h1, h2, h3, h4, h5, h6⟩ := hq
      obtain ⟨_, _, I2, _, q2⟩ := J.after (Q := fun z' H2 => z' = w' ∧ H2 = H') ⟨w', H', h1, h2, h3, h4, h5, rfl, rfl⟩
      obtain ⟨rfl, rfl⟩ := q2
      exact ⟨_, _, I2, h3, h5, h6⟩
    | next => exact False.elim hq
    | brk => exact False.elim hq
    | cont => exact False.elim hq
end
end DL

set_option Elab.async false
set_option linter.all false
set_option autoImplicit false
set_option maxRecDepth 100000
set_option maxHeartbeats 1000000
namespace DL
open PySem L2 PySem.Spec PyProof.Rows PySem.W PySem.Calls
theorem keysOf_map {f : D → Option (D × S)} : ∀ {xs : List D} {kz : List PyData}, keysOf f xs = some kz → kz = xs.map (fun x => (keyOf f x).getD .none) ∧ ∀ x ∈ xs, ∃ p, keyOf f x = some p
  | [], kz, h => by cases h; exact ⟨rfl, by simp⟩
  | x :: xs, kz, h => by
    unfold keysOf at h
    obtain ⟨p, hp, h⟩ := Option.bind_eq_some_iff.mp h
    obtain ⟨ks, hk, rfl⟩ := Option.map_eq_some_iff.mp h
    obtain ⟨e, hx⟩ := keysOf_map hk
    refine ⟨by rw [List.map_cons, hp, ← e]; rfl, fun y hy => ?_⟩
    rcases List.mem_cons.mp hy with rfl | hy
    · exact ⟨p, hp⟩
    · exact hx y hy
theorem lam1_by {sc scope : Scope} {x : Str} (h : lam1B sc scope x = true) : Lam1 x sc scope := by
  unfold lam1B at h
  simp only [Bool.and_eq_true, Bool.or_eq_true, Bool.not_eq_true', decide_eq_true_eq, decide_eq_false_iff_not, List.all_eq_true] at h
  obtain ⟨⟨⟨⟨h1, h2⟩, h3⟩, h4⟩, h5⟩ := h
  refine ⟨h1, h2, h3, h4, fun y hy => ⟨(h5 y hy).1.1, fun e => ?_⟩, fun y hy e => ?_⟩
  · rcases (h5 y hy).1.2 with z | z
    · exact absurd e z
    · exact z
  · rcases (h5 y hy).2 with (z | z) | z
    · exact absurd e z
    · exact .inl z
    · exact .inr z
section
variable {w : Wd} {F : Fx} {g : List DSem} {kk : Nat} {X : Cx} {sc : Scope}
theorem lam1_eq {scope : Scope} {x : Str} (S : ScOk X sc) (h : lam1B sc scope x = true) : Lam1 x X.env.scope scope := by
  have h := lam1_by h
  refine ⟨h.kind, h.co, h.gen, h.par, h.own, fun y hy e => ?_⟩
  rcases h.free y hy e with z | z
  · exact .inl (S.keep _ _ (by decide) z)
  · rcases S.free _ z with q | q
    · exact .inr q
    · exact .inl q
theorem fit_lam1 {N1 : List Str} (FT : Fit w F g kk X) (A : Around) (outer : List Env) (s : Shared) (H : Hp) (E : XK) (scope : Scope) (f c' : Addr) (nd : N1.Nodup) (hr : Room (kk + 2) (A.deeper (LamX.lamEnv X scope s.heap.objs.size f c'))) : Fit w { F with N := N1, lam := false, gd := false } g kk (lamCx1 X A outer s H E scope f c' N1) := by
  refine ⟨FT.hk, rfl, hr, fun z => absurd z Bool.false_ne_true, rfl, nd, FT.wok, FT.frees, FT.globs, fun j d f h1 h2 h3 => ?_⟩
  have h4 : ¬ d.lamy = true := fun z => absurd (h3 z) Bool.false_ne_true
  have z := FT.deps j d f h1 h2 (fun q => absurd q h4)
  cases d with
  | fn x => obtain ⟨f, a, b, c⟩ := z; exact ⟨f, a, b, ⟨c.ok⟩⟩
  | mk x => obtain ⟨C, f, a, b, c⟩ := z; exact ⟨C, f, a, b, ⟨c.ok⟩⟩
  | prop x => exact fun C => let ⟨p, f, a, c⟩ := z C; ⟨p, f, a, ⟨c.ok⟩⟩
  | len => exact fun C => let ⟨f, a, b, c⟩ := z C; ⟨f, a, b, ⟨c.ok⟩⟩
  | tld x => exact absurd rfl h4
  | lamk => exact absurd rfl h4
  | fnG x => obtain ⟨f, a, b, c⟩ := z; exact ⟨f, a, b, ⟨c.ok⟩⟩
  | cls x => exact z
  | fnD x i => exact z
  | strd => exact fun C => let ⟨f, a, b, c⟩ := z C; ⟨f, a, b, ⟨c.ok⟩⟩
  | fnF x => obtain ⟨f, a, b, c⟩ := z; exact ⟨f, a, b, ⟨c.ok⟩⟩
  | fnP x => obtain ⟨f, a, b, c⟩ := z; exact ⟨f, a, b, ⟨c.ok⟩⟩
theorem sc_lam1 {A : Around} {outer : List Env} {s : Shared} {H : Hp} {E : XK} {scope : Scope} {f c' : Addr} {N1 : List Str} {x : Str} (L : Lam1 x X.env.scope scope) : ScOk (lamCx1 X A outer s H E scope f c' N1) scope where
  keep := fun x k _ h => h
  free := fun x h => .inl h
  fn := fun y h => by
    have hm : (y, NameKind.cell) ∈ scope.names := by
      obtain ⟨l1, l2, e1, _⟩ := List.lookup_eq_some_iff.mp h
      rw [e1]; simp
    exact absurd rfl (L.own _ hm).1
theorem Ok.lstdct {kap : List Addr} {G H : Hp} {st : S} (k : Ok w kap G st H) {a : Addr} (m : a ∈ kap) : (∃ vs, H a = some (.lst vs)) ∨ ∃ vs, H a = some (.dT vs) := by
  obtain ⟨i, hi⟩ := List.getElem?_of_mem m
  obtain ⟨hl, _⟩ := List.getElem?_eq_some_iff.mp hi
  have hl2 : i < st.length := by rw [← k.len]; exact hl
  obtain ⟨c, hc⟩ : ∃ c, st[i]? = some c := ⟨st[i], by simp [hl2]⟩
  have z := k.cells i c a hc hi
  cases c with
  | lst xs => obtain ⟨vs, e, _⟩ := z; exact .inl ⟨_, e⟩
  | dct xs => obtain ⟨vs, e, _⟩ := z; exact .inr ⟨_, e⟩
  | dead => exact z.elim
/-- what runs with no cells leaves them as they are -/
theorem none_step {kap kap2 : List Addr} {G1 H1 G2 H2 : Hp} {st : S} (k1 : Ok w kap G1 st H1) (S2 : Step [] G1 H1 kap2 G2 H2) (k2 : Ok w kap2 G2 [] H2) : Step kap G1 H1 kap G2 H2 ∧ Ok w kap G2 st H2 := by
  have nt : ∀ a ∈ kap, ∀ o, H1 a = some o → notTbl o := fun a ha o e ps z => k1.ntc a ha ps (by rw [e, z])
  have same : ∀ a ∈ kap, ∀ o, H1 a = some o → H2 a = some o := fun a ha o e => S2.ext a o e (by simp) (nt a ha o e)
  have has : ∀ a ∈ kap, ∃ o, H1 a = some o := fun a ha => by
    rcases k1.lstdct ha with ⟨vs, e⟩ | ⟨vs, e⟩ <;> exact ⟨_, e⟩
  refine ⟨⟨S2.g, List.prefix_refl _, S2.fr, fun _ h1 h2 => absurd h1 h2, fun b o e _ n => S2.ext b o e (by simp) n, S2.dom⟩, ⟨k2.le, k2.nt, k1.len, k1.nd, fun a ha => ?_, fun i c a h1 h2 => ?_, k2.tabs, fun a ha ps z => ?_⟩⟩
  · cases hg : G2 a with
    | none => rfl
    | some u =>
      obtain ⟨o, e⟩ := has a ha
      exact absurd (nt a ha o e) (S2.fr a (by rw [hg]; simp) (k1.fr a ha) o e)
  · have ha := List.mem_of_getElem? h2
    have z := k1.cells i c a h1 h2
    cases c with
    | lst xs => obtain ⟨vs, e, d⟩ := z; exact ⟨vs, same a ha _ e, d.mono S2.g⟩
    | dct xs => obtain ⟨vs, e, d1, d⟩ := z; exact ⟨vs, same a ha _ e, d1, d.mono S2.g⟩
    | dead => exact z.elim
  · obtain ⟨o, e⟩ := has a ha
    rw [same a ha o e] at z
    exact nt a ha o e ps (Option.some.inj z)
theorem r_sortK {j : Nat} {a pb : CE} {fv : List Nat} {y body : Expr} {x : Str} {p q l kp pos : Pos} {scope : Scope} (FT : Fit w F g kk X) (S : ScOk X sc) (gl : Gl X "sorted") (hm : X.mg "sorted" = none) (hst : star y = false) (hl : F.lam = true) (hd : Dep.isLamk F.deps[j]? = true)
    (hL : lam1B sc scope x = true) (he : PE X y (rd g w a)) (hnd : (lamN F.N x fv).Nodup) (hfv : fvB F.N scope fv = true) (hb : ∀ X', Fit w { F with N := lamN F.N x fv, lam := false, gd := false } g kk X' → ScOk X' scope → PE X' body (rd g w pb)) :
    PE X (.Call (.Name "sorted" q) [y] [⟨some "key", .Lambda (par1 x p) body scope l, kp⟩] pos) (rd g w (.sortK j a pb fv)) := by
  have L := lam1_eq S hL
  refine ⟨fun pins s sg H Q I ⟨kap, G, st, δ, d, st', k, sl, h, hq⟩ => ?_⟩
  obtain ⟨⟨d1, s1⟩, h1, h⟩ := Option.bind_eq_some_iff.mp h
  cases d1 with
  | lst xs =>
    cases hg : g[j]? with
    | none => simp only [hg] at h; cases h
    | some sem =>
      simp only [hg] at h
      obtain ⟨z, hz, e⟩ := Option.map_eq_some_iff.mp h
      cases e
      unfold sortD at hz
      obtain ⟨kz, hkz, hz⟩ := Option.bind_eq_some_iff.mp hz
      split at hz
      case isFalse => cases hz
      rename_i hok
      cases hz
      obtain ⟨ekz, hkx⟩ := keysOf_map hkz
      obtain ⟨hal, hsk, hdep⟩ := okKeys_ok hok
      cases hD : F.deps[j]? with
      | none => rw [hD] at hd; cases hd
      | some dp =>
        rw [hD] at hd
        cases dp with
        | lamk =>
          obtain ⟨c, P, TB, hcode, hT, huT⟩ := FT.deps j _ _ hD hg (fun _ => hl)
          have rm : Room (kk + 2 + 3) X.A := by
            have := FT.rm
            rw [hl, if_pos rfl] at this
            exact this
          have ha : PA X [y] _ := pa_cons he pa_nil (starEach_cons hst)
          refine wpAny_Call_Name_kw (ld_blt I gl hm (u := .builtin "sorted") (by kernel_rfl) ?_ (by decide) (by decide))
          refine PyProof.Rows.callWith_kw (thn (ha.run pos pins s sg H (fun vs H1 => ∃ v kap1 G1, vs = [v] ∧ Step kap G H kap1 G1 H1 ∧ Ok w kap1 G1 st' H1 ∧ Den w G1 (.lst xs) v) I ⟨kap, G, st, δ, _, st', k, sl, h1, fun v kap1 G1 H1 S1 k1 dv => ⟨v, kap1, G1, rfl, S1, k1, dv⟩⟩) fun us s2 ⟨vs, H1, I1, r1, v, kap1, G1, evs, S1, k1, dv⟩ => ?_) (by rw [starEach_cons hst]; rfl) (plain_trees (by simp [noStars, hst])) (by rfl) (by rfl)
          subst evs
          cases dv with
          | @lst _ la lv sq dd =>
            obtain rfl := Vals.ref1 r1
            show wpAny _ _ (evalAll ((do let v ← eval (.Lambda (par1 x p) body scope l) X.env; standAt pos; pure v) :: [])) _ _ _
            refine wpAny_evalAll_cons (wpAny_bind (LamX.lam_make2 I1 TB hcode hT huT k1.tabs (by rfl) (fun y hy e => ?_) fun f c' pm ctv H2 s3 I3 eN T3 hf hfn hfs hco => wpAny_bind (wpAny_standAt (wpAny_pure (wpAny_evalAll_nil ?_)))))
            · rcases L.free y hy e with q | q
              · exact I1.ok.has _ (.inl q)
              · exact I1.ok.has _ (.inr q)
            · obtain ⟨S2, k2⟩ := ok_extN k1 eN T3
              have nc : c' ∉ kap1 := fun m => by
                rcases k2.lstdct m with ⟨z, e⟩ | ⟨z, e⟩ <;> rw [hco] at e <;> cases e
              subst ekz
              refine sorted_keys (kk := fun x => (keyOf (fun x => ev g w.flds pb (some (.d x) :: fv.map (fvE δ)) []) x).getD .none) I3 FT.hk (by rw [FT.hk]; exact k2.le.sl sq) dd k2 hf hfn hfs hal hsk (fun p hp => ?_) ?_ fun v' kap' G' H' S' k' dv' => hq v' kap' G' H' ((S1.trans S2).trans S') k' dv'
              · have h50 := hdep p hp
                have hu := FT.hu
                show X.A.units + 1 + 1 + p.depth < cLine
                omega
              · intro x0 u v0 G' H' s' hx0 rv0 dx0 I' S' k' fobj nF
                obtain ⟨p0, hp0⟩ := hkx x0 hx0
                have hp0' := hp0
                unfold keyOf at hp0'
                obtain ⟨⟨kd, s0⟩, e1, e2⟩ := Option.bind_eq_some_iff.mp hp0'
                have hs0 : s0 = [] := by
                  cases s0 with
                  | nil => rfl
                  | cons _ _ => simp at e2
                subst hs0
                have e2 : toPy kd = some p0 := by simpa using e2
                have hc' : H' c' = some (LamX.CodeO c' (X.env.qual ++ "<lambda>")) := S'.ext c' _ hco nc LamX.codeO_ne
                have sl' := sl.mono (S1.g.trans (S2.g.trans S'.g)) (S1.k.trans (S2.k.trans S'.k))
                have k0 : Ok w [] G' [] H' := by
                  have := k'.cut (kap0 := []) (List.nil_prefix)
                  simpa using this
                have fvs := List.all_eq_true.mp hfv
                refine wpAny_mono (lam1_call (x := x) (N1 := lamN F.N x fv) (sg1 := some v0 :: fv.map fun i => (sg[i]?).getD none) (k := kk + 2) (tb := rd g w pb) (Q := fun z H2 => ∃ kap2 G2, Step [] G' H' kap2 G2 H2 ∧ Ok w kap2 G2 [] H2 ∧ Den w G2 kd z) I' L rm rv0 fobj hc' (by simp [lamN]) (fun i y z h1 h2 => ?_)
                  (fun A outer s H E r => hb _ (fit_lam1 FT A outer s H E scope f c' hnd r) (sc_lam1 L)) ⟨[], G', [], _, kd, [], k0, ⟨by simp, fun i d0 hd0 => ?_⟩, e1, fun z kap2 G2 H2 S3 k3 dz => ⟨kap2, G2, S3, k3, dz⟩⟩) (fun kv s4 hkv => ?_) fun _ _ z => z
                · cases i with
                  | zero =>
                    simp [lamN] at h1 h2
                    exact .inl ⟨h1.symm, h2.symm⟩
                  | succ i =>
                    simp [lamN] at h1 h2
                    obtain ⟨m, hm1, hm2⟩ := h1
                    obtain ⟨m', hm1', hm2'⟩ := h2
                    rw [hm1] at hm1'
                    cases hm1'
                    have hfm := fvs m (List.mem_of_getElem? hm1)
                    rw [Bool.and_eq_true] at hfm
                    have lt := of_decide_eq_true hfm.1
                    have fr := of_decide_eq_true hfm.2
                    have em : F.N[m]? = some F.N[m] := List.getElem?_eq_getElem lt
                    rw [em] at hm2
                    simp at hm2
                    refine .inr ⟨?_, m, ?_, ?_⟩
                    · rw [← hm2]
                      simpa [em] using fr
                    · rw [FT.N, em, hm2]
                    · cases q : sg[m]? with
                      | none => rw [q] at hm2'; simp at hm2'
                      | some o => rw [q] at hm2'; simp at hm2'; rw [hm2']
                · cases i with
                  | zero =>
                    simp at hd0
                    subst hd0
                    exact ⟨v0, rfl, dx0⟩
                  | succ i =>
                    simp at hd0
                    obtain ⟨m, hm1, hm2⟩ := hd0
                    unfold fvE at hm2
                    split at hm2
                    case h_2 => cases hm2
                    rename_i y0 hy0
                    cases hm2
                    obtain ⟨z, z1, z2⟩ := sl'.at_ m _ hy0
                    exact ⟨z, by simp [hm1, z1], z2⟩
                · obtain ⟨z, H3, I4, U4, rz, kap2, G2, S3, k3, dz⟩ := hkv
                  obtain ⟨S4, k4⟩ := none_step k' S3 k3
                  exact ⟨G2, H3, I4, U4, S4, k4, z, kd, rz, dz, by show toPy kd = some ((keyOf _ x0).getD .none); rw [hp0]; exact e2⟩
        | _ => cases hd
  | _ => cases h
end
end DL

set_option Elab.async false
set_option linter.all false
set_option autoImplicit false
set_option maxRecDepth 100000
set_option maxHeartbeats 1000000
namespace DL
open PySem L2 PySem.Spec PyProof.Rows

def isTupE : Expr → Bool
  | .Tuple .. => true
  | _ => false
def boE : Expr → Bool
  | .BoolOp .. => true
  | _ => false
section
variable {w : Wd} {g : List DSem} {kk : Nat}
def Snd (w : Wd) (g : List DSem) (kk : Nat) (ce : CE) : Prop := ∀ (F : Fx) (X : Cx) (sc : Scope), Fit w F g kk X → ScOk X sc →
  (∀ e, chk F false sc ce e = true → PE X e (rd g w ce)) ∧ (∀ e tg, chk F true sc ce e = true → (itTp ce = true → isTupE tg = true) → PI X tg e (rdI g w (itTp ce) ce)) ∧
  (∀ e, chk F false sc ce e = true → tstOk ce e = true → PT X e (rdT g w ce) ∧ (boE e = true → PW X e (rdT g w ce)))
def SndA (w : Wd) (g : List DSem) (kk : Nat) (ca : CA) : Prop := ∀ (F : Fx) (X : Cx) (sc : Scope), Fit w F g kk X → ScOk X sc → ∀ es, chkA F sc ca es = true → PA X es (rdA g w ca) ∧ noStars es = true
theorem plain_bo {e : Expr} (h : plainT e = true) (b : boE e = true) : False := by cases e <;> first | (cases b; done) | cases h
theorem mkPlain {ce : CE} {F : Fx} {X : Cx} {sc : Scope} (FT : Fit w F g kk X) (hit : itTp ce = false) (hc : ∀ e, chk F true sc ce e = chk F false sc ce e) (ht : ∀ e, tstOk ce e = plainT e) (he : ∀ e, chk F false sc ce e = true → PE X e (rd g w ce)) :
    (∀ e, chk F false sc ce e = true → PE X e (rd g w ce)) ∧ (∀ e tg, chk F true sc ce e = true → (itTp ce = true → isTupE tg = true) → PI X tg e (rdI g w (itTp ce) ce)) ∧
    (∀ e, chk F false sc ce e = true → tstOk ce e = true → PT X e (rdT g w ce) ∧ (boE e = true → PW X e (rdT g w ce))) := by
  refine ⟨he, fun e tg h _ => ?_, fun e h t => ?_⟩
  · rw [hit]
    exact ri_plain FT (he e (by rw [← hc]; exact h))
  · rw [ht] at t
    exact ⟨rt_plain FT (he e h) t, fun b => (plain_bo t b).elim⟩
theorem mkIt {ce : CE} {F : Fx} {X : Cx} {sc : Scope} (hc : ∀ e, chk F false sc ce e = false) (he : ∀ e tg, chk F true sc ce e = true → (itTp ce = true → isTupE tg = true) → PI X tg e (rdI g w (itTp ce) ce)) :
    (∀ e, chk F false sc ce e = true → PE X e (rd g w ce)) ∧ (∀ e tg, chk F true sc ce e = true → (itTp ce = true → isTupE tg = true) → PI X tg e (rdI g w (itTp ce) ce)) ∧
    (∀ e, chk F false sc ce e = true → tstOk ce e = true → PT X e (rdT g w ce) ∧ (boE e = true → PW X e (rdT g w ce))) :=
  ⟨fun e h => absurd ((hc e).symm.trans h) Bool.false_ne_true, he, fun e h => absurd ((hc e).symm.trans h) Bool.false_ne_true⟩
theorem tupE {tg : Expr} (h : isTupE tg = true) : ∃ elts n p, tg = .Tuple elts n p := by
  cases tg <;> first | exact ⟨_, _, _, rfl⟩ | cases h
theorem glob_of {F : Fx} {X : Cx} (FT : Fit w F g kk X) {x : Str} {d d' : D} (h : F.globs.lookup x = some d') (hs : sameFlat d d' = true) : GlobOk X x d := by
  have z := FT.globs x d' h
  rcases z with ⟨i, t, rfl, hm⟩ | ⟨s, t, rfl, hm⟩
  · cases d <;> first | cases hs | skip
    rename_i j
    have e : j = i := eq_of_beq (show (j == i) = true from hs)
    subst e
    exact .inl ⟨_, t, rfl, hm⟩
  · cases d <;> first | cases hs | skip
    rename_i j
    have e : j = s := eq_of_beq (show (j == s) = true from hs)
    subst e
    exact .inr ⟨_, t, rfl, hm⟩
theorem ns_cons {e : Expr} {es : List Expr} (h : star e = false) (t : noStars es = true) : noStars (e :: es) = true := by
  show (!star e && noStars es) = true
  rw [h, t]; rfl
theorem ne_cons {es : List Expr} (h : (!es.isEmpty) = true) : ∃ e r, es = e :: r := by
  cases es with
  | nil => cases h
  | cons e r => exact ⟨e, r, rfl⟩
theorem nstar {e : Expr} (h : (!star e) = true) : star e = false := by simpa using h
theorem nofre {F : Fx} {sc : Scope} {a : CE} {r : CA} {es : List Expr} (hf : isFresh a = false) (h : chkA F sc (.fre a r) es = true) : False := by
  simp only [chkA] at h
  split at h
  · simp only [Bool.and_eq_true] at h
    rw [hf] at h
    exact Bool.false_ne_true h.1.1.2
  · cases h
mutual
theorem snd : ∀ ce : CE, Snd w g kk ce
  | .var i => fun F X sc FT S => mkPlain FT rfl (fun _ => rfl) (fun _ => rfl) fun e h => by
    simp only [chk] at h
    split at h
    · rename_i x hv
      obtain ⟨p, rfl⟩ := vName_ok hv
      rw [Bool.and_eq_true] at h
      exact r_var (by rw [FT.N]; exact of_decide_eq_true h.1) (visB_ok S h.2)
    · cases h
  | .glob x d => fun F X sc FT S => mkPlain FT rfl (fun _ => rfl) (fun _ => rfl) fun e h => by
    simp only [chk] at h
    split at h
    · rename_i y hv
      obtain ⟨p, rfl⟩ := vName_ok hv
      rw [Bool.and_eq_true, Bool.and_eq_true] at h
      obtain ⟨⟨h1, h2⟩, h3⟩ := h
      have e1 : x = y := eq_of_beq h1
      subst e1
      split at h3
      · rename_i d' hd
        exact r_glob (glB_ok S h2) (glob_of FT hd h3)
      · cases h3
    · cases h
  | .cint i => fun F X sc FT S => mkPlain FT rfl (fun _ => rfl) (fun _ => rfl) fun e h => by
    simp only [chk] at h
    split at h
    · have e1 := eq_of_beq h
      subst e1
      exact r_const pe_int (fun _ _ => rfl) fun _ => .int _
    · cases h
  | .cstr i => fun F X sc FT S => mkPlain FT rfl (fun _ => rfl) (fun _ => rfl) fun e h => by
    simp only [chk] at h
    split at h
    · have e1 := eq_of_beq h
      subst e1
      exact r_const pe_str (fun _ _ => rfl) fun _ => .str _
    · cases h
  | .cbl i => fun F X sc FT S => mkPlain FT rfl (fun _ => rfl) (fun _ => rfl) fun e h => by
    simp only [chk] at h
    split at h
    · have e1 := eq_of_beq h
      subst e1
      exact r_const pe_bl (fun _ _ => rfl) fun _ => .bl _
    · cases h
  | .cnon => fun F X sc FT S => mkPlain FT rfl (fun _ => rfl) (fun _ => rfl) fun e h => by
    simp only [chk] at h
    split at h
    · exact r_const pe_non (fun _ _ => rfl) fun _ => .non
    · cases h
  | .bin op a b => fun F X sc FT S => mkPlain FT rfl (fun _ => rfl) (fun _ => rfl) fun e h => by
    simp only [chk] at h
    split at h
    · rename_i o x y hv
      obtain ⟨p, rfl⟩ := vBin_ok hv
      rw [Bool.and_eq_true, Bool.and_eq_true] at h
      have e1 := eq_of_beq h.1.1
      subst e1
      exact r_bin FT ((snd a F X sc FT S).1 _ h.1.2) ((snd b F X sc FT S).1 _ h.2)
    · cases h
  | .neg a => fun F X sc FT S => mkPlain FT rfl (fun _ => rfl) (fun _ => rfl) fun e h => by
    simp only [chk] at h
    split at h
    · rename_i x hv
      obtain ⟨p, rfl⟩ := vNeg_ok hv
      exact r_neg ((snd a F X sc FT S).1 _ h)
    · cases h
  | .cmp op a b => fun F X sc FT S => by
    have he : ∀ e, chk F false sc (.cmp op a b) e = true → ∃ x y p, e = .Compare x [op] [y] p ∧ PE X x (rd g w a) ∧ PE X y (rd g w b) ∧ behindInMarks op y = false := fun e h => by
      simp only [chk] at h
      split at h
      · rename_i o x y hv
        obtain ⟨p, rfl⟩ := vCmp_ok hv
        rw [Bool.and_eq_true, Bool.and_eq_true, Bool.and_eq_true] at h
        have e1 := eq_of_beq h.1.1.1
        subst e1
        exact ⟨x, y, p, rfl, (snd a F X sc FT S).1 _ h.1.1.2, (snd b F X sc FT S).1 _ h.1.2, by simpa using h.2⟩
      · cases h
    refine ⟨fun e h => ?_, fun e tg h _ => ?_, fun e h _ => ?_⟩
    · obtain ⟨x, y, p, rfl, h1, h2, h3⟩ := he e h
      exact r_cmp FT h1 h2 h3
    · obtain ⟨x, y, p, rfl, h1, h2, h3⟩ := he e h
      exact ri_plain FT (r_cmp FT h1 h2 h3)
    · obtain ⟨x, y, p, rfl, h1, h2, h3⟩ := he e h
      exact ⟨rt_cmp FT h1 h2 h3, fun z => nomatch z⟩
  | .chain o1 o2 a b c => fun F X sc FT S => by
    have he : ∀ e, chk F false sc (.chain o1 o2 a b c) e = true → ∃ x y z p, e = .Compare x [o1, o2] [y, z] p ∧ PE X x (rd g w a) ∧ PE X y (rd g w b) ∧ PE X z (rd g w c) ∧ lastMarks [o1, o2] [y, z] = false := fun e h => by
      simp only [chk] at h
      split at h
      · rename_i o q x y z hv
        obtain ⟨p, rfl⟩ := vChain_ok hv
        simp only [Bool.and_eq_true] at h
        obtain ⟨⟨⟨⟨⟨h1, h2⟩, h3⟩, h4⟩, h5⟩, h6⟩ := h
        have e1 := eq_of_beq h1
        have e2 := eq_of_beq h2
        subst e1 e2
        exact ⟨x, y, z, p, rfl, (snd a F X sc FT S).1 _ h3, (snd b F X sc FT S).1 _ h4, (snd c F X sc FT S).1 _ h5, by simpa using h6⟩
      · cases h
    refine ⟨fun e h => ?_, fun e tg h _ => ?_, fun e h _ => ?_⟩
    · obtain ⟨x, y, z, p, rfl, h1, h2, h3, h4⟩ := he e h
      exact r_chain FT h1 h2 h3 h4
    · obtain ⟨x, y, z, p, rfl, h1, h2, h3, h4⟩ := he e h
      exact ri_plain FT (r_chain FT h1 h2 h3 h4)
    · obtain ⟨x, y, z, p, rfl, h1, h2, h3, h4⟩ := he e h
      exact ⟨rt_chain FT h1 h2 h3 h4, fun z => nomatch z⟩
  | .one a => fun F X sc FT S => by
    have he : ∀ e, chk F false sc (.one a) e = true → ∃ o x p, e = .BoolOp o [x] p ∧ vOne e = some x ∧ chk F false sc a x = true := fun e h => by
      simp only [chk] at h
      split at h
      · rename_i x hv
        obtain ⟨o, p, rfl⟩ := vOne_ok hv
        exact ⟨o, x, p, rfl, hv, h⟩
      · cases h
    refine ⟨fun e h => ?_, fun e tg h _ => ?_, fun e h t => ?_⟩
    · obtain ⟨o, x, p, rfl, _, h1⟩ := he e h
      exact r_one ((snd a F X sc FT S).1 _ h1)
    · obtain ⟨o, x, p, rfl, _, h1⟩ := he e h
      exact ri_plain FT (r_one ((snd a F X sc FT S).1 _ h1))
    · obtain ⟨o, x, p, rfl, hv, h1⟩ := he e h
      have t2 : tstOk a x = true := t
      have z := rw_one (op := o) (p := p) ((snd a F X sc FT S).2.2 _ h1 t2).1
      exact ⟨z.pt, fun _ => z⟩
  | .andc a r => fun F X sc FT S => by
    have he : ∀ e, chk F false sc (.andc a r) e = true → ∃ x y l p, e = .BoolOp .And (x :: y :: l) p ∧ chk F false sc a x = true ∧ chk F false sc r (.BoolOp .And (y :: l) p) = true := fun e h => by
      simp only [chk] at h
      split at h
      · rename_i x y l p hv
        have e1 := vAnd_ok hv
        subst e1
        rw [Bool.and_eq_true] at h
        exact ⟨x, y, l, p, rfl, h.1, h.2⟩
      · cases h
    refine ⟨fun e h => ?_, fun e tg h _ => ?_, fun e h t => ?_⟩
    · obtain ⟨x, y, l, p, rfl, h1, h2⟩ := he e h
      exact r_and ((snd a F X sc FT S).1 _ h1) ((snd r F X sc FT S).1 _ h2)
    · obtain ⟨x, y, l, p, rfl, h1, h2⟩ := he e h
      exact ri_plain FT (r_and ((snd a F X sc FT S).1 _ h1) ((snd r F X sc FT S).1 _ h2))
    · obtain ⟨x, y, l, p, rfl, h1, h2⟩ := he e h
      have t2 : (tstOk a x && tstOk r (.BoolOp .And (y :: l) p)) = true := t
      rw [Bool.and_eq_true] at t2
      have z := rw_and ((snd a F X sc FT S).2.2 _ h1 t2.1).1 (((snd r F X sc FT S).2.2 _ h2 t2.2).2 rfl)
      exact ⟨z.pt, fun _ => z⟩
  | .orc a r => fun F X sc FT S => by
    have he : ∀ e, chk F false sc (.orc a r) e = true → ∃ x y l p, e = .BoolOp .Or (x :: y :: l) p ∧ chk F false sc a x = true ∧ chk F false sc r (.BoolOp .Or (y :: l) p) = true := fun e h => by
      simp only [chk] at h
      split at h
      · rename_i x y l p hv
        have e1 := vOr_ok hv
        subst e1
        rw [Bool.and_eq_true] at h
        exact ⟨x, y, l, p, rfl, h.1, h.2⟩
      · cases h
    refine ⟨fun e h => ?_, fun e tg h _ => ?_, fun e h t => ?_⟩
    · obtain ⟨x, y, l, p, rfl, h1, h2⟩ := he e h
      exact r_or ((snd a F X sc FT S).1 _ h1) ((snd r F X sc FT S).1 _ h2)
    · obtain ⟨x, y, l, p, rfl, h1, h2⟩ := he e h
      exact ri_plain FT (r_or ((snd a F X sc FT S).1 _ h1) ((snd r F X sc FT S).1 _ h2))
    · obtain ⟨x, y, l, p, rfl, h1, h2⟩ := he e h
      have t2 : (tstOk a x && tstOk r (.BoolOp .Or (y :: l) p)) = true := t
      rw [Bool.and_eq_true] at t2
      have z := rw_or ((snd a F X sc FT S).2.2 _ h1 t2.1).1 (((snd r F X sc FT S).2.2 _ h2 t2.2).2 rfl)
      exact ⟨z.pt, fun _ => z⟩
  | .not a => fun F X sc FT S => by
    have he : ∀ e, chk F false sc (.not a) e = true → ∃ x p, e = .UnaryOp .Not x p ∧ chk F false sc a x = true := fun e h => by
      simp only [chk] at h
      split at h
      · rename_i x hv
        obtain ⟨p, rfl⟩ := vNot_ok hv
        exact ⟨x, p, rfl, h⟩
      · cases h
    refine ⟨fun e h => ?_, fun e tg h _ => ?_, fun e h t => ?_⟩
    · obtain ⟨x, p, rfl, h1⟩ := he e h
      exact r_not ((snd a F X sc FT S).1 _ h1)
    · obtain ⟨x, p, rfl, h1⟩ := he e h
      exact ri_plain FT (r_not ((snd a F X sc FT S).1 _ h1))
    · obtain ⟨x, p, rfl, h1⟩ := he e h
      have t2 : tstOk a x = true := t
      exact ⟨rt_not ((snd a F X sc FT S).2.2 _ h1 t2).1, fun z => nomatch z⟩
  | .ite t a b => fun F X sc FT S => mkPlain FT rfl (fun _ => rfl) (fun _ => rfl) fun e h => by
    simp only [chk] at h
    split at h
    · rename_i t' a' b' hv
      obtain ⟨p, rfl⟩ := vIf_ok hv
      simp only [Bool.and_eq_true] at h
      exact r_ite ((snd t F X sc FT S).2.2 _ h.1.1.1 h.1.1.2).1 ((snd a F X sc FT S).1 _ h.1.2) ((snd b F X sc FT S).1 _ h.2)
    · cases h
  | .tup es => fun F X sc FT S => mkPlain FT rfl (fun _ => rfl) (fun _ => rfl) fun e h => by
    simp only [chk] at h
    split at h
    · rename_i xs hv
      obtain ⟨n, p, rfl⟩ := vTup_ok hv
      exact r_tup (sndA es F X sc FT S _ h).1
    · cases h
  | .lst es => fun F X sc FT S => mkPlain FT rfl (fun _ => rfl) (fun _ => rfl) fun e h => by
    simp only [chk] at h
    split at h
    · rename_i xs hv
      obtain ⟨p, rfl⟩ := vLst_ok hv
      exact r_lst (sndA es F X sc FT S _ h).1
    · cases h
  | .emp => fun F X sc FT S => mkPlain FT rfl (fun _ => rfl) (fun _ => rfl) fun e h => by
    simp only [chk] at h
    split at h
    · exact r_emp
    · cases h
  | .call j es => fun F X sc FT S => mkPlain FT rfl (fun _ => rfl) (fun _ => rfl) fun e h => by
    simp only [chk] at h
    split at h
    · rename_i f xs hv
      obtain ⟨q, p, rfl⟩ := vCall_ok hv
      simp only [Bool.and_eq_true] at h
      obtain ⟨⟨⟨h1, h2⟩, h3⟩, h4⟩ := h
      obtain ⟨z1, z2⟩ := sndA es F X sc FT S _ h3
      obtain ⟨x, r, rfl⟩ := ne_cons h4
      exact r_call FT (glB_ok S h2) h1 z2 z1
    · cases h
  | .mk j es => fun F X sc FT S => mkPlain FT rfl (fun _ => rfl) (fun _ => rfl) fun e h => by
    simp only [chk] at h
    split at h
    · rename_i f xs hv
      obtain ⟨q, p, rfl⟩ := vCall_ok hv
      simp only [Bool.and_eq_true] at h
      obtain ⟨⟨⟨h1, h2⟩, h3⟩, h4⟩ := h
      obtain ⟨z1, z2⟩ := sndA es F X sc FT S _ h3
      obtain ⟨x, r, rfl⟩ := ne_cons h4
      exact r_mk FT (glB_ok S h2) h1 z2 z1
    · cases h
  | .blt b es => fun F X sc FT S => mkPlain FT rfl (fun _ => rfl) (fun _ => rfl) fun e h => by
    simp only [chk] at h
    split at h
    · rename_i f xs hv
      obtain ⟨q, p, rfl⟩ := vCall_ok hv
      simp only [Bool.and_eq_true] at h
      obtain ⟨⟨⟨⟨h1, h2⟩, h3⟩, h4⟩, h5⟩ := h
      obtain ⟨z1, z2⟩ := sndA es F X sc FT S _ h4
      obtain ⟨x, r, rfl⟩ := ne_cons h5
      exact r_blt FT (glB_ok S h3) (eq_of_beq h1) (FT.frees _ h2) z2 z1
    · cases h
  | .isi t a => fun F X sc FT S => mkPlain FT rfl (fun _ => rfl) (fun _ => rfl) fun e h => by
    simp only [chk] at h
    split at h
    · rename_i f x z hv
      obtain ⟨q, p, rfl⟩ := vCall_ok hv
      split at h
      · rename_i y hy
        obtain ⟨r, rfl⟩ := vName_ok hy
        simp only [Bool.and_eq_true] at h
        obtain ⟨⟨⟨⟨⟨⟨⟨h1, h2⟩, h3⟩, h4⟩, h5⟩, h6⟩, h7⟩, h8⟩ := h
        exact r_isi FT (glB_ok S h3) (eq_of_beq h1) (FT.frees _ h2) (glB_ok S h6) (eq_of_beq h4) (FT.frees _ h5) (nstar h8) ((snd a F X sc FT S).1 _ h7)
      · cases h
    · cases h
  | .mth m o es => fun F X sc FT S => mkPlain FT rfl (fun _ => rfl) (fun _ => rfl) fun e h => by
    simp only [chk] at h
    split at h
    · rename_i y n xs a c hv
      have e1 := vMeth_ok hv
      subst e1
      simp only [Bool.and_eq_true] at h
      obtain ⟨⟨⟨⟨⟨h1, h2⟩, h3⟩, h4⟩, h5⟩, h6⟩ := h
      obtain ⟨z1, z2⟩ := sndA es F X sc FT S _ h3
      rw [Bool.or_eq_true] at h4
      rcases h4 with h4 | h4
      · have hl := of_decide_eq_true h4
        match xs, hl, z1, z2 with
        | [x], hl, z1, z2 => exact r_mth FT (eq_of_beq h1) ((snd o F X sc FT S).1 _ h2) h6 z2 (by simp) h5 z1
      · have ho := (snd o F X sc FT S).1 _ h2
        match m, es, xs, h4, h1, ho with
        | .upper, .nil, [], _, h1, ho => exact r_upper FT (eq_of_beq h1) ho h6 h5
    · cases h
  | .att o f => fun F X sc FT S => mkPlain FT rfl (fun _ => rfl) (fun _ => rfl) fun e h => by
    simp only [chk] at h
    split at h
    · rename_i y f' hv
      obtain ⟨p, rfl⟩ := vAttr_ok hv
      simp only [Bool.and_eq_true] at h
      have e1 := eq_of_beq h.1.1
      subst e1
      exact r_att FT ((snd o F X sc FT S).1 _ h.1.2) h.2
    · cases h
  | .prp j o f => fun F X sc FT S => mkPlain FT rfl (fun _ => rfl) (fun _ => rfl) fun e h => by
    simp only [chk] at h
    split at h
    · rename_i y f' hv
      obtain ⟨p, rfl⟩ := vAttr_ok hv
      simp only [Bool.and_eq_true] at h
      have e1 := eq_of_beq h.1.1.1
      subst e1
      exact r_prp FT h.1.1.2 ((snd o F X sc FT S).1 _ h.1.2) h.2
    · cases h
  | .lenO j o => fun F X sc FT S => mkPlain FT rfl (fun _ => rfl) (fun _ => rfl) fun e h => by
    simp only [chk] at h
    split at h
    · rename_i f x hv
      obtain ⟨q, p, rfl⟩ := vCall_ok hv
      simp only [Bool.and_eq_true] at h
      obtain ⟨⟨⟨⟨⟨h1, h2⟩, h3⟩, h4⟩, h5⟩, h6⟩ := h
      exact r_lenO FT (glB_ok S h3) (eq_of_beq h1) (FT.frees _ h2) h4 (nstar h6) ((snd o F X sc FT S).1 _ h5)
    · cases h
  | .idx a b => fun F X sc FT S => mkPlain FT rfl (fun _ => rfl) (fun _ => rfl) fun e h => by
    simp only [chk] at h
    split at h
    · rename_i x y hv
      obtain ⟨p, rfl⟩ := vSub_ok hv
      simp only [Bool.and_eq_true] at h
      exact r_idx FT ((snd a F X sc FT S).1 _ h.1.1) ((snd b F X sc FT S).1 _ h.1.2) h.2
    · cases h
  | .slL a lo => fun F X sc FT S => mkPlain FT rfl (fun _ => rfl) (fun _ => rfl) fun e h => by
    simp only [chk] at h
    split at h
    · rename_i x y hv
      obtain ⟨q, p, rfl⟩ := vSlc_ok hv
      simp only [Bool.and_eq_true] at h
      exact r_slL FT ((snd a F X sc FT S).1 _ h.1) ((snd lo F X sc FT S).1 _ h.2)
    · cases h
  | .slH a hi => fun F X sc FT S => mkPlain FT rfl (fun _ => rfl) (fun _ => rfl) fun e h => by
    simp only [chk] at h
    split at h
    · rename_i x y hv
      obtain ⟨q, p, rfl⟩ := vSlc_ok hv
      simp only [Bool.and_eq_true] at h
      exact r_slH FT ((snd a F X sc FT S).1 _ h.1) ((snd hi F X sc FT S).1 _ h.2)
    · cases h
  | .slB a lo hi => fun F X sc FT S => mkPlain FT rfl (fun _ => rfl) (fun _ => rfl) fun e h => by
    simp only [chk] at h
    split at h
    · rename_i x y z hv
      obtain ⟨q, p, rfl⟩ := vSlc_ok hv
      simp only [Bool.and_eq_true] at h
      exact r_slB FT ((snd a F X sc FT S).1 _ h.1.1) ((snd lo F X sc FT S).1 _ h.1.2) ((snd hi F X sc FT S).1 _ h.2)
    · cases h
  | .rev a => fun F X sc FT S => mkPlain FT rfl (fun _ => rfl) (fun _ => rfl) fun e h => by
    simp only [chk] at h
    split at h
    · rename_i x hv
      obtain ⟨n, p1, p2, p3, p, rfl⟩ := vRev_ok hv
      exact r_rev FT ((snd a F X sc FT S).1 _ h)
    · cases h
  | .zip2 a b => fun F X sc FT S => mkIt (fun e => by simp only [chk, Bool.false_and]) fun e tg h ht => by
    obtain ⟨elts, n, tp, rfl⟩ := tupE (ht rfl)
    simp only [chk, Bool.true_and] at h
    split at h
    · rename_i f x y hv
      obtain ⟨q, p, rfl⟩ := vCall_ok hv
      simp only [Bool.and_eq_true] at h
      obtain ⟨⟨⟨⟨⟨⟨h1, h2⟩, h3⟩, h4⟩, h5⟩, h6⟩, h7⟩ := h
      exact ri_zip2 FT (glB_ok S h3) (eq_of_beq h1) (FT.frees _ h2) (nstar h6) (nstar h7) ((snd a F X sc FT S).1 _ h4) ((snd b F X sc FT S).1 _ h5)
    · cases h
  | .zip3 a b c => fun F X sc FT S => mkIt (fun e => by simp only [chk, Bool.false_and]) fun e tg h ht => by
    obtain ⟨elts, n, tp, rfl⟩ := tupE (ht rfl)
    simp only [chk, Bool.true_and] at h
    split at h
    · rename_i f x y z hv
      obtain ⟨q, p, rfl⟩ := vCall_ok hv
      simp only [Bool.and_eq_true] at h
      obtain ⟨⟨⟨⟨⟨⟨⟨⟨h1, h2⟩, h3⟩, h4⟩, h5⟩, h6⟩, h7⟩, h8⟩, h9⟩ := h
      exact ri_zip3 FT (glB_ok S h3) (eq_of_beq h1) (FT.frees _ h2) (nstar h7) (nstar h8) (nstar h9) ((snd a F X sc FT S).1 _ h4) ((snd b F X sc FT S).1 _ h5) ((snd c F X sc FT S).1 _ h6)
    · cases h
  | .enm a => fun F X sc FT S => mkIt (fun e => by simp only [chk, Bool.false_and]) fun e tg h ht => by
    obtain ⟨elts, n, tp, rfl⟩ := tupE (ht rfl)
    simp only [chk, Bool.true_and] at h
    split at h
    · rename_i f x hv
      obtain ⟨q, p, rfl⟩ := vCall_ok hv
      simp only [Bool.and_eq_true] at h
      obtain ⟨⟨⟨⟨h1, h2⟩, h3⟩, h4⟩, h5⟩ := h
      exact ri_enum FT (glB_ok S h3) (eq_of_beq h1) (FT.frees _ h2) (nstar h5) ((snd a F X sc FT S).1 _ h4)
    · cases h
  | .rng1 a => fun F X sc FT S => mkIt (fun e => by simp only [chk, Bool.false_and]) fun e tg h ht => by
    simp only [chk, Bool.true_and] at h
    split at h
    · rename_i f x hv
      obtain ⟨q, p, rfl⟩ := vCall_ok hv
      simp only [Bool.and_eq_true] at h
      obtain ⟨⟨⟨⟨h1, h2⟩, h3⟩, h4⟩, h5⟩ := h
      exact ri_rng1 (glB_ok S h3) (eq_of_beq h1) (FT.frees _ h2) (nstar h5) ((snd a F X sc FT S).1 _ h4)
    · cases h
  | .rng2 a b => fun F X sc FT S => mkIt (fun e => by simp only [chk, Bool.false_and]) fun e tg h ht => by
    simp only [chk, Bool.true_and] at h
    split at h
    · rename_i f x y hv
      obtain ⟨q, p, rfl⟩ := vCall_ok hv
      simp only [Bool.and_eq_true] at h
      obtain ⟨⟨⟨⟨⟨⟨h1, h2⟩, h3⟩, h4⟩, h5⟩, h6⟩, h7⟩ := h
      exact ri_rng2 (glB_ok S h3) (eq_of_beq h1) (FT.frees _ h2) (nstar h6) (nstar h7) ((snd a F X sc FT S).1 _ h4) ((snd b F X sc FT S).1 _ h5)
    · cases h
  | .comp elt tg it cnd own => fun F X sc FT S => mkPlain FT rfl (fun _ => rfl) (fun _ => rfl) fun e h => by
    simp only [chk] at h
    split at h
    · rename_i e' t i fs scope hv
      obtain ⟨p, rfl⟩ := vComp_ok hv
      simp only [Bool.and_eq_true] at h
      obtain ⟨⟨⟨⟨⟨⟨h1, h2⟩, h3⟩, h4⟩, h5⟩, h6⟩, h7⟩ := h
      have h3 : itTp it = true → isTp tg = true := fun z => by simpa [z] using h3
      have ht : isTp tg = true → isTupE t = true := fun z => by
        cases tg <;> first | cases z | skip
        cases t <;> first | rfl | cases h5
      refine r_comp FT S ((snd it F X sc FT S).2.1 i t h1 (fun z => ht (h3 z))) h2 h3 h4 h5 (fun X' F' S' => ?_) (fun X' F' S' => (snd elt F X' scope F' S').1 _ h7)
      split at h6
      · have ec : cnd = .yes := by cases cnd <;> first | rfl | cases h6
        rw [ec]
        exact rts_nil
      · simp only [Bool.and_eq_true] at h6
        exact pts_one ((snd cnd F X' scope F' S').2.2 _ h6.1 h6.2).1
      · cases h6
    · cases h
  | .comp2 elt tg it cnd tg1 it1 cnd1 own own1 => fun F X sc FT S => mkPlain FT rfl (fun _ => rfl) (fun _ => rfl) fun e h => by
    simp only [chk] at h
    split at h
    · rename_i e' t i fs scope t1 i1 fs1 hv
      obtain ⟨p, rfl⟩ := vComp2_ok hv
      simp only [Bool.and_eq_true] at h
      obtain ⟨⟨⟨⟨⟨⟨⟨⟨⟨⟨⟨⟨⟨h1, h2⟩, h3⟩, h4⟩, h5⟩, h6⟩, h7⟩, h8⟩, h9⟩, h10⟩, h11⟩, h12⟩, h13⟩, h14⟩ := h
      have h3 : itTp it = true → isTp tg = true := fun z => by simpa [z] using h3
      have h10 : itTp it1 = true → isTp tg1 = true := fun z => by simpa [z] using h10
      have ht : isTp tg = true → isTupE t = true := fun z => by
        cases tg <;> first | cases z | skip
        cases t <;> first | rfl | cases h6
      have ht1 : isTp tg1 = true → isTupE t1 = true := fun z => by
        cases tg1 <;> first | cases z | skip
        cases t1 <;> first | rfl | cases h12
      refine r_comp2 FT S ((snd it F X sc FT S).2.1 i t h1 (fun z => ht (h3 z))) h2 h3 h4 (fun j hj => ?_) h6 (fun X' F' S' => ?_) (fun X' F' S' => (snd it1 F X' scope F' S').2.1 i1 t1 h8 (fun z => ht1 (h10 z))) h9 h10 (fun j hj => ?_) h12 (fun X' F' S' => ?_) (fun X' F' S' => (snd elt F X' scope F' S').1 _ h14)
      · have := List.all_eq_true.mp h5 j hj
        simpa using this
      · split at h7
        · have ec : cnd = .yes := by cases cnd <;> first | rfl | cases h7
          rw [ec]
          exact rts_nil
        · simp only [Bool.and_eq_true] at h7
          exact pts_one ((snd cnd F X' scope F' S').2.2 _ h7.1 h7.2).1
        · cases h7
      · have := List.all_eq_true.mp h11 j hj
        simpa using this
      · split at h13
        · have ec : cnd1 = .yes := by cases cnd1 <;> first | rfl | cases h13
          rw [ec]
          exact rts_nil
        · simp only [Bool.and_eq_true] at h13
          exact pts_one ((snd cnd1 F X' scope F' S').2.2 _ h13.1 h13.2).1
        · cases h13
    · cases h
  | .yes => fun F X sc FT S => mkPlain FT rfl (fun _ => rfl) (fun _ => rfl) fun e h => by
    simp only [chk] at h
    cases h
  | .lam j b => fun F X sc FT S => mkPlain FT rfl (fun _ => rfl) (fun _ => rfl) fun e h => by
    simp only [chk] at h
    split at h
    · rename_i f body scope hv
      obtain ⟨q, l, p, rfl⟩ := vLam_ok hv
      simp only [Bool.and_eq_true] at h
      obtain ⟨⟨⟨⟨h1, h2⟩, h3⟩, h4⟩, h5⟩ := h
      exact r_lam FT S (glB_ok S h3) h2 h1 h4 fun X' F' S' => (snd b _ X' scope F' S').1 _ h5
    · cases h
  | .sortK j a pb fv => fun F X sc FT S => mkPlain FT rfl (fun _ => rfl) (fun _ => rfl) fun e h => by
    simp only [chk] at h
    split at h
    · rename_i f y kw x p body scope hv
      obtain ⟨q, l, kp, pos, rfl⟩ := vSortK_ok hv
      simp only [Bool.and_eq_true] at h
      obtain ⟨⟨⟨⟨⟨⟨⟨⟨⟨⟨⟨h1, h2⟩, h3⟩, h4⟩, h5⟩, h6⟩, h7⟩, h8⟩, h9⟩, h10⟩, h11⟩, h12⟩ := h
      have e1 := eq_of_beq h1
      have e2 := eq_of_beq h2
      subst e1 e2
      exact r_sortK FT S (glB_ok S h4).1 (FT.frees _ h3) (nstar h5) h6 h7 h8 ((snd a F X sc FT S).1 _ h9) (of_decide_eq_true h10) h11 fun X' F' S' => (snd pb _ X' scope F' S').1 _ h12
    · cases h
  | .nev => fun F X sc FT S => ⟨fun e _ => r_nev, fun e tg _ _ => ri_plain FT r_nev, fun e _ _ => ⟨rt_nev, fun _ => ⟨fun _ _ _ _ _ _ _ ⟨_, _, _, _, _, _, _, _, _, h, _⟩ => nomatch h⟩⟩⟩
  | .lenC i => fun F X sc FT S => mkPlain FT rfl (fun _ => rfl) (fun _ => rfl) fun e h => by
    simp only [chk] at h
    split at h
    · rename_i f z hv
      obtain ⟨q, p, rfl⟩ := vCall_ok hv
      split at h
      · rename_i x hx
        obtain ⟨r, rfl⟩ := vName_ok hx
        simp only [Bool.and_eq_true] at h
        obtain ⟨⟨⟨⟨h1, h2⟩, h3⟩, h4⟩, h5⟩ := h
        exact r_lenC FT (glB_ok S h3) (eq_of_beq h1) (FT.frees _ h2) (by rw [FT.N]; exact of_decide_eq_true h4) (visB_ok S h5)
      · cases h
    · cases h
  | .tupC i => fun F X sc FT S => mkPlain FT rfl (fun _ => rfl) (fun _ => rfl) fun e h => by
    simp only [chk] at h
    split at h
    · rename_i f z hv
      obtain ⟨q, p, rfl⟩ := vCall_ok hv
      split at h
      · rename_i x hx
        obtain ⟨r, rfl⟩ := vName_ok hx
        simp only [Bool.and_eq_true] at h
        obtain ⟨⟨⟨⟨h1, h2⟩, h3⟩, h4⟩, h5⟩ := h
        exact r_tupC FT (glB_ok S h3) (eq_of_beq h1) (FT.frees _ h2) (by rw [FT.N]; exact of_decide_eq_true h4) (visB_ok S h5)
      · cases h
    · cases h
  | .idxC i b => fun F X sc FT S => mkPlain FT rfl (fun _ => rfl) (fun _ => rfl) fun e h => by
    simp only [chk] at h
    split at h
    · rename_i z y hv
      obtain ⟨p, rfl⟩ := vSub_ok hv
      split at h
      · rename_i x hx
        obtain ⟨r, rfl⟩ := vName_ok hx
        simp only [Bool.and_eq_true] at h
        obtain ⟨⟨⟨h1, h2⟩, h3⟩, h4⟩ := h
        exact r_idxC FT (by rw [FT.N]; exact of_decide_eq_true h1) (visB_ok S h2) ((snd b F X sc FT S).1 _ h3) h4
      · cases h
    · cases h
  | .inC neg a i => fun F X sc FT S => by
    have he : ∀ e, chk F false sc (.inC neg a i) e = true → ∃ x y p r, e = .Compare y [if neg then .NotIn else .In] [.Name x r] p ∧ X.N[i]? = some x ∧ visB sc x = true ∧ PE X y (rd g w a) := fun e h => by
      simp only [chk] at h
      split at h
      · rename_i o y z hv
        obtain ⟨p, rfl⟩ := vCmp_ok hv
        split at h
        · rename_i x hx
          obtain ⟨r, rfl⟩ := vName_ok hx
          simp only [Bool.and_eq_true] at h
          obtain ⟨⟨⟨h1, h2⟩, h3⟩, h4⟩ := h
          have e1 := eq_of_beq h1
          rw [e1]
          exact ⟨x, y, p, r, rfl, by rw [FT.N]; exact of_decide_eq_true h2, h3, (snd a F X sc FT S).1 _ h4⟩
        · cases h
      · cases h
    have he1 : ∀ e, chk F false sc (.inC neg a i) e = true → PE X e (rd g w (.inC neg a i)) := fun e h => by
      obtain ⟨x, y, p, r, rfl, h1, h2, h3⟩ := he e h
      exact r_inC FT h1 (visB_ok S h2) h3
    refine ⟨he1, fun e tg h _ => ri_plain FT (he1 e h), fun e h _ => ?_⟩
    obtain ⟨x, y, p, r, rfl, h1, h2, h3⟩ := he e h
    exact ⟨rt_inC FT h1 (visB_ok S h2) h3, fun z => nomatch z⟩
  | .lenSet a => fun F X sc FT S => mkPlain FT rfl (fun _ => rfl) (fun _ => rfl) fun e h => by
    simp only [chk] at h
    split at h
    · rename_i f z hv
      obtain ⟨q, p, rfl⟩ := vCall_ok hv
      split at h
      · rename_i h' x hx
        obtain ⟨q2, p2, rfl⟩ := vCall_ok hx
        simp only [Bool.and_eq_true] at h
        obtain ⟨⟨⟨⟨⟨⟨⟨h1, h2⟩, h3⟩, h4⟩, h5⟩, h6⟩, h7⟩, h8⟩ := h
        exact r_lenSet FT (glB_ok S h3) (eq_of_beq h1) (FT.frees _ h2) (glB_ok S h6) (eq_of_beq h4) (FT.frees _ h5) ((snd a F X sc FT S).1 _ h7) (nstar h8)
      · cases h
    · cases h
  | .popC i b => fun F X sc FT S => mkPlain FT rfl (fun _ => rfl) (fun _ => rfl) fun e h => by
    simp only [chk] at h
    split at h
    · rename_i z n y a c hv
      have e1 := vMeth_ok hv
      subst e1
      split at h
      · rename_i x hx
        obtain ⟨r, rfl⟩ := vName_ok hx
        simp only [Bool.and_eq_true] at h
        obtain ⟨⟨⟨⟨⟨h1, h2⟩, h3⟩, h4⟩, h5⟩, h6⟩ := h
        have e1 := eq_of_beq h1
        subst e1
        exact r_popC FT (by rw [FT.N]; exact of_decide_eq_true h2) (visB_ok S h3) ((snd b F X sc FT S).1 _ h4) (nstar h5) h6
      · cases h
    · cases h
  | .idxD i ks => fun F X sc FT S => mkPlain FT rfl (fun _ => rfl) (fun _ => rfl) fun e h => by
    simp only [chk] at h
    cases h
  | .getD i a b => fun F X sc FT S => mkPlain FT rfl (fun _ => rfl) (fun _ => rfl) fun e h => by
    simp only [chk] at h
    cases h
  | .isC j a => fun F X sc FT S => mkPlain FT rfl (fun _ => rfl) (fun _ => rfl) fun e h => by
    simp only [chk] at h
    split at h
    · rename_i f x z hv
      obtain ⟨q, p, rfl⟩ := vCall_ok hv
      split at h
      · rename_i y hy
        obtain ⟨r, rfl⟩ := vName_ok hy
        simp only [Bool.and_eq_true] at h
        obtain ⟨⟨⟨⟨⟨⟨h1, h2⟩, h3⟩, h4⟩, h5⟩, h6⟩, h7⟩ := h
        exact r_isC FT (glB_ok S h3) (eq_of_beq h1) (FT.frees _ h2) (glB_ok S h5) h4 (nstar h7) ((snd a F X sc FT S).1 _ h6)
      · cases h
    · cases h
  | .strO j o => fun F X sc FT S => mkPlain FT rfl (fun _ => rfl) (fun _ => rfl) fun e h => by
    simp only [chk] at h
    split at h
    · rename_i f x hv
      obtain ⟨q, p, rfl⟩ := vCall_ok hv
      simp only [Bool.and_eq_true] at h
      obtain ⟨⟨⟨⟨⟨h1, h2⟩, h3⟩, h4⟩, h5⟩, h6⟩ := h
      exact r_strO FT (glB_ok S h3) (eq_of_beq h1) (FT.frees _ h2) h4 (nstar h6) ((snd o F X sc FT S).1 _ h5)
    · cases h
  | .lstS a b => fun F X sc FT S => mkPlain FT rfl (fun _ => rfl) (fun _ => rfl) fun e h => by
    simp only [chk] at h
    split at h
    · rename_i x y hv
      obtain ⟨p, q, rfl⟩ := vLstS_ok hv
      simp only [Bool.and_eq_true] at h
      obtain ⟨⟨h1, h2⟩, h3⟩ := h
      exact r_lstS FT (nstar h1) ((snd a F X sc FT S).1 _ h2) ((snd b F X sc FT S).1 _ h3)
    · cases h
  | .rpr a => fun F X sc FT S => mkPlain FT rfl (fun _ => rfl) (fun _ => rfl) fun e h => by
    simp only [chk] at h
    split at h
    · rename_i f x hv
      obtain ⟨q, p, rfl⟩ := vCall_ok hv
      simp only [Bool.and_eq_true] at h
      obtain ⟨⟨⟨⟨⟨h1, h2⟩, h3⟩, h4⟩, h5⟩, h6⟩ := h
      exact r_rpr FT h1 (glB_ok S h4) (eq_of_beq h2) (FT.frees _ h3) (nstar h6) ((snd a F X sc FT S).1 _ h5)
    · cases h
theorem sndA : ∀ ca : CA, SndA w g kk ca
  | .nil => fun F X sc FT S es h => by
    simp only [chkA] at h
    cases es with
    | nil => exact ⟨ra_nil, rfl⟩
    | cons _ _ => cases h
  | .cons a r => fun F X sc FT S es h => by
    simp only [chkA] at h
    split at h
    · rename_i x xs
      simp only [Bool.and_eq_true] at h
      obtain ⟨z1, z2⟩ := sndA r F X sc FT S _ h.2
      exact ⟨ra_cons ((snd a F X sc FT S).1 _ h.1.2) z1 (nstar h.1.1), ns_cons (nstar h.1.1) z2⟩
    · cases h
  | .cel i r => fun F X sc FT S es h => by
    simp only [chkA] at h
    split at h
    · rename_i z xs
      split at h
      · rename_i x hx
        obtain ⟨p, rfl⟩ := vName_ok hx
        simp only [Bool.and_eq_true] at h
        obtain ⟨z1, z2⟩ := sndA r F X sc FT S _ h.2
        exact ⟨ra_cel (by rw [FT.N]; exact of_decide_eq_true h.1.1) (visB_ok S h.1.2) z1, ns_cons rfl z2⟩
      · cases h
    · cases h
  | .ccl j as r => fun F X sc FT S es h => by
    simp only [chkA] at h
    split at h
    · rename_i z xs
      split at h
      · rename_i f ys hv
        obtain ⟨q, p, rfl⟩ := vCall_ok hv
        simp only [Bool.and_eq_true] at h
        obtain ⟨⟨⟨⟨⟨h1, h2⟩, h3⟩, h4⟩, h5⟩, h6⟩ := h
        obtain ⟨z1, z2⟩ := sndA as F X sc FT S _ h3
        obtain ⟨x, l, rfl⟩ := ne_cons h4
        obtain ⟨z3, z4⟩ := sndA r F X sc FT S _ h6
        exact ⟨ra_ccl FT (glB_ok S h2) h1 z2 z1 z3, ns_cons rfl z4⟩
      · cases h
    · cases h
  | .fre (.lst as) r => fun F X sc FT S es h => by
    simp only [chkA] at h
    split at h
    · simp only [Bool.and_eq_true] at h
      obtain ⟨⟨⟨h1, h2⟩, h3⟩, h4⟩ := h
      obtain ⟨z3, z4⟩ := sndA r F X sc FT S _ h4
      simp only [chk] at h3
      split at h3
      · rename_i ys hv
        obtain ⟨p, rfl⟩ := vLst_ok hv
        exact ⟨ra_fre (rf_lst (sndA as F X sc FT S _ h3).1) rfl z3, ns_cons rfl z4⟩
      · cases h3
    · cases h
  | .fre (.blt b as) r => fun F X sc FT S es h => by
    simp only [chkA] at h
    split at h
    · simp only [Bool.and_eq_true] at h
      obtain ⟨⟨⟨h1, h2⟩, h3⟩, h4⟩ := h
      obtain ⟨z3, z4⟩ := sndA r F X sc FT S _ h4
      have eb : b = .list := by cases b <;> first | rfl | cases h2
      subst eb
      simp only [chk] at h3
      split at h3
      · rename_i f ys hv
        obtain ⟨q, p, rfl⟩ := vCall_ok hv
        simp only [Bool.and_eq_true] at h3
        obtain ⟨⟨⟨⟨k1, k2⟩, k3⟩, k4⟩, k5⟩ := h3
        obtain ⟨y1, y2⟩ := sndA as F X sc FT S _ k4
        obtain ⟨x, l, rfl⟩ := ne_cons k5
        exact ⟨ra_fre (rf_list FT (glB_ok S k3) (eq_of_beq k1) (FT.frees _ k2) y2 y1) rfl z3, ns_cons rfl z4⟩
      · cases h3
    · cases h
  | .fre (.comp elt tg it cnd own) r => fun F X sc FT S es h => by
    simp only [chkA] at h
    split at h
    · simp only [Bool.and_eq_true] at h
      obtain ⟨⟨⟨h1, h2⟩, h3⟩, h4⟩ := h
      obtain ⟨z3, z4⟩ := sndA r F X sc FT S _ h4
      simp only [chk] at h3
      split at h3
      · rename_i e' t i fs scope hv
        obtain ⟨p, rfl⟩ := vComp_ok hv
        simp only [Bool.and_eq_true] at h3
        obtain ⟨⟨⟨⟨⟨⟨k1, k2⟩, k3⟩, k4⟩, k5⟩, k6⟩, k7⟩ := h3
        have k3 : itTp it = true → isTp tg = true := fun z => by simpa [z] using k3
        have ht : isTp tg = true → isTupE t = true := fun z => by
          cases tg <;> first | cases z | skip
          cases t <;> first | rfl | cases k5
        refine ⟨ra_fre (r_compF FT S ((snd it F X sc FT S).2.1 i t k1 (fun z => ht (k3 z))) k2 k3 k4 k5 (fun X' F' S' => ?_) (fun X' F' S' => (snd elt F X' scope F' S').1 _ k7)) rfl z3, ns_cons rfl z4⟩
        split at k6
        · have ec : cnd = .yes := by cases cnd <;> first | rfl | cases k6
          rw [ec]
          exact rts_nil
        · simp only [Bool.and_eq_true] at k6
          exact pts_one ((snd cnd F X' scope F' S').2.2 _ k6.1 k6.2).1
        · cases k6
      · cases h3
    · cases h
  | .fre (.var _) r => fun F X sc FT S es h => (nofre rfl h).elim
  | .fre (.glob _ _) r => fun F X sc FT S es h => (nofre rfl h).elim
  | .fre (.cint _) r => fun F X sc FT S es h => (nofre rfl h).elim
  | .fre (.cstr _) r => fun F X sc FT S es h => (nofre rfl h).elim
  | .fre (.cbl _) r => fun F X sc FT S es h => (nofre rfl h).elim
  | .fre (.cnon) r => fun F X sc FT S es h => (nofre rfl h).elim
  | .fre (.bin op a c) r => fun F X sc FT S es h => by
    simp only [chkA] at h
    split at h
    · simp only [Bool.and_eq_true] at h
      obtain ⟨⟨⟨h1, h2⟩, h3⟩, h4⟩ := h
      obtain ⟨z3, z4⟩ := sndA r F X sc FT S _ h4
      have eo : op = .Add := by cases op <;> first | rfl | cases h2
      subst eo
      simp only [chk] at h3
      split at h3
      · rename_i o x y hv
        obtain ⟨p, rfl⟩ := vBin_ok hv
        simp only [Bool.and_eq_true] at h3
        have e1 := eq_of_beq h3.1.1
        subst e1
        exact ⟨ra_fre (rf_add FT ((snd a F X sc FT S).1 _ h3.1.2) ((snd c F X sc FT S).1 _ h3.2)) rfl z3, ns_cons rfl z4⟩
      · cases h3
    · cases h
  | .fre (.neg _) r => fun F X sc FT S es h => (nofre rfl h).elim
  | .fre (.cmp _ _ _) r => fun F X sc FT S es h => (nofre rfl h).elim
  | .fre (.chain _ _ _ _ _) r => fun F X sc FT S es h => (nofre rfl h).elim
  | .fre (.one _) r => fun F X sc FT S es h => (nofre rfl h).elim
  | .fre (.andc _ _) r => fun F X sc FT S es h => (nofre rfl h).elim
  | .fre (.orc _ _) r => fun F X sc FT S es h => (nofre rfl h).elim
  | .fre (.not _) r => fun F X sc FT S es h => (nofre rfl h).elim
  | .fre (.ite _ _ _) r => fun F X sc FT S es h => (nofre rfl h).elim
  | .fre (.tup _) r => fun F X sc FT S es h => (nofre rfl h).elim
  | .fre (.emp) r => fun F X sc FT S es h => (nofre rfl h).elim
  | .fre (.call _ _) r => fun F X sc FT S es h => (nofre rfl h).elim
  | .fre (.isi _ _) r => fun F X sc FT S es h => (nofre rfl h).elim
  | .fre (.mth _ _ _) r => fun F X sc FT S es h => (nofre rfl h).elim
  | .fre (.att _ _) r => fun F X sc FT S es h => (nofre rfl h).elim
  | .fre (.prp _ _ _) r => fun F X sc FT S es h => (nofre rfl h).elim
  | .fre (.lenO _ _) r => fun F X sc FT S es h => (nofre rfl h).elim
  | .fre (.idx _ _) r => fun F X sc FT S es h => (nofre rfl h).elim
  | .fre (.slL _ _) r => fun F X sc FT S es h => (nofre rfl h).elim
  | .fre (.slH _ _) r => fun F X sc FT S es h => (nofre rfl h).elim
  | .fre (.slB _ _ _) r => fun F X sc FT S es h => (nofre rfl h).elim
  | .fre (.rev _) r => fun F X sc FT S es h => (nofre rfl h).elim
  | .fre (.zip2 _ _) r => fun F X sc FT S es h => (nofre rfl h).elim
  | .fre (.zip3 _ _ _) r => fun F X sc FT S es h => (nofre rfl h).elim
  | .fre (.enm _) r => fun F X sc FT S es h => (nofre rfl h).elim
  | .fre (.rng1 _) r => fun F X sc FT S es h => (nofre rfl h).elim
  | .fre (.rng2 _ _) r => fun F X sc FT S es h => (nofre rfl h).elim
  | .fre (.yes) r => fun F X sc FT S es h => (nofre rfl h).elim
  | .fre (.comp2 _ _ _ _ _ _ _ _ _) r => fun F X sc FT S es h => (nofre rfl h).elim
  | .fre (.mk _ _) r => fun F X sc FT S es h => (nofre rfl h).elim
  | .fre (.lam _ _) r => fun F X sc FT S es h => (nofre rfl h).elim
  | .fre (.nev) r => fun F X sc FT S es h => (nofre rfl h).elim
  | .fre (.lenSet _) r => fun F X sc FT S es h => (nofre rfl h).elim
  | .fre (.lenC _) r => fun F X sc FT S es h => (nofre rfl h).elim
  | .fre (.tupC _) r => fun F X sc FT S es h => (nofre rfl h).elim
  | .fre (.idxC _ _) r => fun F X sc FT S es h => (nofre rfl h).elim
  | .fre (.inC _ _ _) r => fun F X sc FT S es h => (nofre rfl h).elim
  | .fre (.popC _ _) r => fun F X sc FT S es h => (nofre rfl h).elim
  | .fre (.idxD _ _) r => fun F X sc FT S es h => (nofre rfl h).elim
  | .fre (.getD _ _ _) r => fun F X sc FT S es h => (nofre rfl h).elim
  | .fre (.sortK _ _ _ _) r => fun F X sc FT S es h => (nofre rfl h).elim
  | .fre (.isC _ _) r => fun F X sc FT S es h => (nofre rfl h).elim
  | .fre (.strO _ _) r => fun F X sc FT S es h => (nofre rfl h).elim
  | .fre (.lstS _ _) r => fun F X sc FT S es h => (nofre rfl h).elim
  | .fre (.rpr _) r => fun F X sc FT S es h => (nofre rfl h).elim
end
end
end DL

set_option Elab.async false
set_option linter.all false
set_option autoImplicit false
set_option maxRecDepth 100000
set_option maxHeartbeats 1000000
namespace DL
open PySem L2 PySem.Spec PyProof.Rows

/-- behind a statement: kap0 G0 H0 the def's entry, G the frozen part ahead of the statement -/
def PostS (w : Wd) (kap0 : List Addr) (G0 H0 G : Hp) (st' : S) (δ' : EnvR) (o : Out) (D : Ends) : Prop := match o with
  | .nx => ∀ sg kap' G' H', Step kap0 G0 H0 kap' G' H' → Le G G' → Ok w kap' G' st' H' → Slots w kap' G' δ' sg → D.nx sg H'
  | .bk => ∀ sg kap' G' H', Step kap0 G0 H0 kap' G' H' → Le G G' → Ok w kap' G' st' H' → Slots w kap' G' δ' sg → D.bk sg H'
  | .ct => ∀ sg kap' G' H', Step kap0 G0 H0 kap' G' H' → Le G G' → Ok w kap' G' st' H' → Slots w kap' G' δ' sg → D.ct sg H'
  | .rt r => ∀ v kap' G' H', Step kap0 G0 H0 kap' G' H' → Ok w kap' G' st' H' → DenR w kap' G' r v → D.rt v H'
  | .rp xs ys => ∀ t a c vs us G' H', Step kap0 G0 H0 kap0 G' H' → Ok w kap0 G' (st'.take kap0.length) H' → G' a = none → a ∉ kap0 → H' a = some (.lst vs) → Dens w G' xs vs → (∀ o, H0 a = some o → ¬ notTbl o) →
      G' c = none → c ∉ kap0 → H' c = some (.lst us) → Dens w G' ys us → (∀ o, H0 c = some o → ¬ notTbl o) → a ≠ c → H' t = some (.tup [.ref a, .ref c]) → D.rt (.ref t) H'
  | .rf xs => ∀ a vs kap' G' H', Step kap0 G0 H0 kap' G' H' → Ok w kap' G' st' H' → G' a = none → a ∉ kap' → H' a = some (.lst vs) → Dens w G' xs vs → (∀ o, H0 a = some o → ¬ notTbl o) → D.rt (.ref a) H'
theorem PostS.mono {w : Wd} {kap0 : List Addr} {G0 H0 G G' : Hp} {st' : S} {δ' : EnvR} {o : Out} {D : Ends} (p : PostS w kap0 G0 H0 G st' δ' o D) (le : Le G G') : PostS w kap0 G0 H0 G' st' δ' o D := by
  cases o with
  | nx => exact fun sg k g h s l => p sg k g h s (le.trans l)
  | bk => exact fun sg k g h s l => p sg k g h s (le.trans l)
  | ct => exact fun sg k g h s l => p sg k g h s (le.trans l)
  | rt r => exact p
  | rf r => exact p
  | rp r q => exact p
def rdS (g : List DSem) (w : Wd) (b : Nat) (cs : CS) : TS := fun D sg H => ∃ kap0 G0 H0 kap G st δ o δ' st', kap0.length = b ∧ Step kap0 G0 H0 kap G H ∧ Ok w kap G st H ∧ Slots w kap G δ sg ∧ ex g w.flds b cs δ st = some (o, δ', st') ∧ PostS w kap0 G0 H0 G st' δ' o D
section
variable {w : Wd} {F : Fx} {g : List DSem} {kk : Nat} {X : Cx} {sc : Scope} {b : Nat}
theorem s_never {st : Stmt} : PS X st (rdS g w b .never) := ⟨fun _ _ _ _ _ _ ⟨_, _, _, _, _, _, _, _, _, _, _, _, _, _, h, _⟩ => nomatch h⟩
theorem ss_never {st : List Stmt} : PSs X st (rdS g w b .never) := ⟨fun _ _ _ _ _ _ ⟨_, _, _, _, _, _, _, _, _, _, _, _, _, _, h, _⟩ => nomatch h⟩
theorem s_pass {p : Pos} : PS X (.Pass p) (rdS g w b .pass) := PS.of ps_pass fun D sg H ⟨kap0, G0, H0, kap, G, st, δ, o, δ', st', hb, S, k, sl, h, q⟩ => by
  cases h
  exact q sg kap G H S (Le.refl _) k sl
theorem s_brk {p : Pos} : PS X (.Break p) (rdS g w b .brk) := PS.of ps_break fun D sg H ⟨kap0, G0, H0, kap, G, st, δ, o, δ', st', hb, S, k, sl, h, q⟩ => by
  cases h
  exact q sg kap G H S (Le.refl _) k sl
theorem s_cnt {p : Pos} : PS X (.Continue p) (rdS g w b .cnt) := PS.of ps_continue fun D sg H ⟨kap0, G0, H0, kap, G, st, δ, o, δ', st', hb, S, k, sl, h, q⟩ => by
  cases h
  exact q sg kap G H S (Le.refl _) k sl
theorem s_retN {p : Pos} : PS X (.Return none p) (rdS g w b .retN) := PS.of ps_retN fun D sg H ⟨kap0, G0, H0, kap, G, st, δ, o, δ', st', hb, S, k, sl, h, q⟩ => by
  cases h
  exact q .non kap G H S k .non
theorem s_ret {e : CE} {x : Expr} {p : Pos} (he : PE X x (rd g w e)) : PS X (.Return (some x) p) (rdS g w b (.ret e)) := PS.of (ps_ret he) fun D sg H ⟨kap0, G0, H0, kap, G, st, δ, o, δ', st', hb, S, k, sl, h, q⟩ => by
  obtain ⟨⟨d, s1⟩, h1, h2⟩ := Option.map_eq_some_iff.mp h
  cases h2
  exact ⟨kap, G, st, δ, d, _, k, sl, h1, fun v kap1 G1 H1 S1 k1 r => q v kap1 G1 H1 (S.trans S1) k1 r⟩
theorem s_ite {t : CE} {a c : CS} {x : Expr} {ys zs : List Stmt} {p : Pos} (ht : PT X x (rdT g w t)) (ha : PSs X ys (rdS g w b a)) (hc : PSs X zs (rdS g w b c)) : PS X (.If x ys zs p) (rdS g w b (.ite t a c)) :=
  PS.of (ps_if ht ha hc) fun D sg H ⟨kap0, G0, H0, kap, G, st, δ, o, δ', st', hb, S, k, sl, h, q⟩ => by
    obtain ⟨⟨d, s1⟩, h1, h2⟩ := Option.bind_eq_some_iff.mp h
    cases ht : truthD d with
    | none => simp only [ht] at h2; cases h2
    | some bb =>
      simp only [ht] at h2
      refine ⟨kap, G, st, δ, d, s1, bb, k, sl, h1, ht, fun kap1 G1 H1 S1 k1 => ?_⟩
      cases bb with
      | true =>
        show (if (true : Bool) = true then _ else _)
        rw [if_pos rfl]
        exact ⟨kap0, G0, H0, kap1, G1, s1, δ, o, δ', st', hb, S.trans S1, k1, sl.mono S1.g S1.k, h2, q.mono S1.g⟩
      | false =>
        show (if (false : Bool) = true then _ else _)
        rw [if_neg Bool.false_ne_true]
        exact ⟨kap0, G0, H0, kap1, G1, s1, δ, o, δ', st', hb, S.trans S1, k1, sl.mono S1.g S1.k, h2, q.mono S1.g⟩
theorem ss_skip : PSs X [] (rdS g w b .skip) := PSs.of pss_nil fun D sg H ⟨kap0, G0, H0, kap, G, st, δ, o, δ', st', hb, S, k, sl, h, q⟩ => by
  cases h
  exact q sg kap G H S (Le.refl _) k sl
theorem ss_seq {a c : CS} {st0 : Stmt} {rest : List Stmt} (ha : PS X st0 (rdS g w b a)) (hc : PSs X rest (rdS g w b c)) : PSs X (st0 :: rest) (rdS g w b (.seq a c)) :=
  PSs.of (pss_cons ha hc) fun D sg H ⟨kap0, G0, H0, kap, G, st, δ, o, δ', st', hb, S, k, sl, h, q⟩ => by
    obtain ⟨⟨o1, δ1, s1⟩, h1, h2⟩ := Option.bind_eq_some_iff.mp h
    refine ⟨kap0, G0, H0, kap, G, st, δ, o1, δ1, s1, hb, S, k, sl, h1, ?_⟩
    cases o1 with
    | nx => exact fun sg1 kap1 G1 H1 S1 le k1 sl1 => ⟨kap0, G0, H0, kap1, G1, s1, δ1, o, δ', st', hb, S1, k1, sl1, h2, q.mono le⟩
    | bk => cases h2; exact q
    | ct => cases h2; exact q
    | rp _ _ => cases h2; exact q
    | rt r => cases h2; exact q
    | rf r => cases h2; exact q
/-- a cell that is the last, held by no other name, is frozen -/
theorem ss_gho {i : Nat} {r : CS} {ss : List Stmt} (hr : PSs X ss (rdS g w b r)) : PSs X ss (rdS g w b (.gho i r)) :=
  PSs.of hr fun D sg H ⟨kap0, G0, H0, kap, G, st, δ, o, δ', st', hb, S, k, sl, h, q⟩ => by
    obtain ⟨c, h1, h⟩ := Option.bind_eq_some_iff.mp h
    cases hc : st[c]? with
    | none => simp only [hc] at h; cases h
    | some ce =>
      simp only [hc] at h
      cases ce with
      | lst xs =>
        obtain ⟨⟨c1, c2, c3⟩, h⟩ := if_someB h
        have ei := atC_some h1
        obtain ⟨v, h4, a, h5, ev⟩ := sl.at_ i _ ei
        subst ev
        obtain ⟨vs, hH, da⟩ := k.cells c _ a hc h5
        have hg := k.fr a (List.mem_of_getElem? h5)
        have hl := k.len
        have hlt : c < kap.length := by omega
        have ekap : kap = kap.take c ++ [a] := by
          have e1 : kap.drop c = [a] := by
            have := drop_cons h5
            rw [this, List.drop_of_length_le (by omega)]
          conv => lhs; rw [← List.take_append_drop c kap, e1]
        have nd := k.nd
        rw [ekap, List.nodup_append] at nd
        have na : a ∉ kap.take c := fun m => nd.2.2 a m a (by simp) rfl
        have leG : Le G (upd G a (.lst vs)) := fun bb v h => by rw [upd_ne (ne_of_none h hg)]; exact h
        have k2 : Ok w (kap.take c) (upd G a (.lst vs)) (st.take c) H := by
          refine ⟨fun bb v h => ?_, fun bb v h => ?_, by simp [k.len], nd.1, fun bb hbb => ?_, fun k1 c1 a1 h1 h2 => ?_, k.tabs, fun bb hbb ps => k.ntc bb (List.mem_of_mem_take hbb) ps⟩
          · by_cases e : bb = a
            · subst e; rw [upd_same] at h; rw [hH]; exact h
            · rw [upd_ne e] at h; exact k.le bb v h
          · by_cases e : bb = a
            · subst e; rw [upd_same] at h; cases h; exact nt_lst
            · rw [upd_ne e] at h; exact k.nt bb v h
          · have ne : bb ≠ a := fun e => na (e ▸ hbb)
            rw [upd_ne ne]; exact k.fr bb (List.mem_of_mem_take hbb)
          · have hk1 : k1 < c := by
              have := (List.getElem?_eq_some_iff.mp h1).1
              rw [List.length_take] at this
              omega
            rw [List.getElem?_take_of_lt hk1] at h1
            rw [List.getElem?_take_of_lt hk1] at h2
            have z := k.cells k1 c1 a1 h1 h2
            cases c1 with
            | lst xs => obtain ⟨vs', e, d⟩ := z; exact ⟨vs', e, d.mono leG⟩
            | dct xs => obtain ⟨vs', e, d1, d⟩ := z; exact ⟨vs', e, d1, d.mono leG⟩
            | dead => exact z
        have hpre : kap0 <+: kap.take c := by
          have h0 := S.k
          have hb2 : kap0.length ≤ c := by omega
          exact List.prefix_take_iff.mpr ⟨h0, hb2⟩
        have hfr : ∀ o, H0 a = some o → ¬ notTbl o := by
          refine S.frk a (List.mem_of_getElem? h5) fun m => ?_
          have : a ∈ kap.take c := hpre.subset m
          exact na this
        have S2 : Step kap0 G0 H0 (kap.take c) (upd G a (.lst vs)) H := by
          refine ⟨S.g.trans leG, hpre, fun bb h1 h2 => ?_, fun bb h1 h2 => S.frk bb (List.mem_of_mem_take h1) h2, S.ext, S.dom⟩
          by_cases e : bb = a
          · rw [e]; exact hfr
          · rw [upd_ne e] at h1; exact S.fr bb h1 h2
        have sl2 : Slots w (kap.take c) (upd G a (.lst vs)) (δ.set i (some (.d (.lst xs)))) sg := by
          refine ⟨by simp [sl.len], fun j e he => ?_⟩
          rcases getElem?_set_some he with ⟨rfl, e1⟩ | ⟨ne, h6⟩
          · cases e1
            exact ⟨_, h4, .lst (.inl (.inl upd_same)) (da.mono leG)⟩
          · obtain ⟨v, h7, h8⟩ := sl.at_ j e h6
            refine ⟨v, h7, ?_⟩
            cases e with
            | d x => exact Den.mono leG h8
            | c m =>
              obtain ⟨a2, h9, e2⟩ := h8
              have hm : m ≠ c := fun em => by
                have c3' : (δ.set i none).any (isC c) = false := by
                  unfold soleC at c3
                  simpa using c3
                have := List.any_eq_false.mp c3' (some (.c m)) (List.mem_of_getElem? (by rw [List.getElem?_set_ne (Ne.symm ne)]; exact h6))
                unfold isC at this
                simp [em] at this
              refine ⟨a2, ?_, e2⟩
              have := (List.getElem?_eq_some_iff.mp h9).1
              rw [List.getElem?_take_of_lt (by omega)]
              exact h9
        exact ⟨kap0, G0, H0, kap.take c, _, st.take c, _, o, δ', st', hb, S2, k2, sl2, h, q.mono leG⟩
      | _ => cases h
theorem s_asgG {tg : CT} {e : CE} {t x : Expr} {p : Pos} (he : PE X x (rd g w e)) (hg : PG X t (rdG w tg)) (hs : swapsWithSole [t] x p.line X.env = pure false) (hw : swappedStores [t] x X.env = pure none) (h1 : (assignEach [t] X.env).map (·.2) = [assign t X.env]) :
    PS X (.Assign [t] x p) (rdS g w b (.asg tg e)) :=
  PS.of (ps_asg he hg hs hw h1) fun D sg H ⟨kap0, G0, H0, kap, G, st, δ, o, δ', st', hb, S, k, sl, h, q⟩ => by
    obtain ⟨⟨d, s1⟩, h2, h3⟩ := Option.bind_eq_some_iff.mp h
    obtain ⟨δ1, h4, h5⟩ := Option.map_eq_some_iff.mp h3
    cases h5
    exact ⟨kap, G, st, δ, d, _, k, sl, h2, fun v kap1 G1 H1 S1 k1 r => ⟨kap1, G1, _, δ, d, _, k1, sl.mono S1.g S1.k, .inl r, h4, fun sg' sl' _ => q sg' kap1 G1 H1 (S.trans S1) S1.g k1 sl'⟩⟩
theorem s_for {tg : CT} {it : CE} {body : CS} {t i : Expr} {ss : List Stmt} {p : Pos} {tp : Bool} (FT : Fit w F g kk X) (hp : PassesOwn (model X.prog X.w) X.A X.env X.xe) (hi : PI X t i (rdI g w tp it)) (ht : tp = true → isTp tg = true) (hg : PG X t (rdG w tg)) (hb : PSs X ss (rdS g w b body)) (hs : notSet i = true) :
    PS X (.For t i ss [] p) (rdS g w b (.for_ tg it body)) :=
  PS.of (ps_for hp FT.calm hi hg hb (notSet_ok hs X.env)) fun D sg H ⟨kap0, G0, H0, kap, G, st, δ, o, δ', st', hb0, S, k, sl, h, q⟩ => by
    obtain ⟨⟨d, s1⟩, h1, h⟩ := Option.bind_eq_some_iff.mp h
    obtain ⟨xs, h2, h3⟩ := Option.bind_eq_some_iff.mp h
    refine ⟨kap, G, st, δ, d, s1, xs, k, sl, h1, h2, fun J kap1 G1 H1 S1 k1 src => ?_⟩
    refine for_it src (fun j sg H => ∃ kap G s2 δ2, Step kap0 G0 H0 kap G H ∧ Le G1 G ∧ Ok w kap G s2 H ∧ Slots w kap G δ2 sg ∧ forL (fun x δ1 s1 => (asgT tg x δ1).bind fun δ2 => ex g w.flds b body δ2 s1) (xs.drop j) δ2 s2 = some (o, δ', st')) ?_ ?_ ?_ ?_
    · exact ⟨kap1, G1, s1, δ, S.trans S1, Le.refl _, k1, sl.mono S1.g S1.k, h3⟩
    · rintro j sg H hj ⟨kap, G, s2, δ2, _, le, k2, _⟩
      exact le.trans k2.le
    · rintro j x sg H H' hj ⟨kap2, G2, s2, δ2, S2, le, k2, sl2, hf⟩ y
      obtain ⟨dx, hd⟩ := yd_some y
      rw [drop_cons hd] at hf
      obtain ⟨⟨o1, δ3, s3⟩, h4, h5⟩ := Option.bind_eq_some_iff.mp (show ((asgT tg dx δ2).bind fun δ2 => ex g w.flds b body δ2 s2).bind (fun p => match p.1 with
        | .nx => forL (fun x δ1 s1 => (asgT tg x δ1).bind fun δ2 => ex g w.flds b body δ2 s1) (xs.drop (j + 1)) p.2.1 p.2.2
        | .ct => forL (fun x δ1 s1 => (asgT tg x δ1).bind fun δ2 => ex g w.flds b body δ2 s1) (xs.drop (j + 1)) p.2.1 p.2.2
        | .bk => some (.nx, p.2.1, p.2.2)
        | .rt r => some (.rt r, p.2.1, p.2.2)
        | .rf r => some (.rf r, p.2.1, p.2.2)
        | .rp r q => some (.rp r q, p.2.1, p.2.2)) = some (o, δ', st') from hf)
      obtain ⟨δ4, h6, h7⟩ := Option.bind_eq_some_iff.mp h4
      obtain ⟨S3, k3, ti⟩ := yd_in le k2 ht hd y
      have S4 := S2.trans S3
      refine ⟨kap2, G2, s2, δ2, dx, δ4, k3, sl2, ti, h6, fun sg' sl' _ => ⟨kap0, G0, H0, kap2, G2, s2, δ4, o1, δ3, s3, hb0, S4, k3, sl', h7, ?_⟩⟩
      cases o1 with
      | nx => exact fun sg5 kap5 G5 H5 S5 le5 k5 sl5 => ⟨kap5, G5, s3, δ3, S5, le.trans le5, k5, sl5, h5⟩
      | ct => exact fun sg5 kap5 G5 H5 S5 le5 k5 sl5 => ⟨kap5, G5, s3, δ3, S5, le.trans le5, k5, sl5, h5⟩
      | bk =>
        cases h5
        exact fun sg5 kap5 G5 H5 S5 le5 k5 sl5 => q sg5 kap5 G5 H5 S5 (S1.g.trans (le.trans le5)) k5 sl5
      | rt r =>
        cases h5
        exact fun v kap5 G5 H5 S5 k5 r5 => q v kap5 G5 H5 S5 k5 r5
      | rf r =>
        cases h5
        exact q
      | rp r q0 =>
        cases h5
        exact q
    · rintro sg H ⟨kap2, G2, s2, δ2, S2, le, k2, sl2, hf⟩
      rw [List.drop_length] at hf
      cases hf
      exact q sg kap2 G2 H S2 (S1.g.trans le) k2 sl2
theorem s_whl {m t : CE} {body : CS} {x : Expr} {ss : List Stmt} {p : Pos} (hp : PassesOwn (model X.prog X.w) X.A X.env X.xe) (ht : PT X x (rdT g w t)) (hb : PSs X ss (rdS g w b body)) : PS X (.While x ss [] p) (rdS g w b (.whl m t body)) :=
  PS.of (ps_while hp ht hb) fun D sg H ⟨kap0, G0, H0, kap, G, st, δ, o, δ', st', hb0, S, k, sl, h, q⟩ => by
    obtain ⟨⟨d, s1⟩, h1, h⟩ := Option.bind_eq_some_iff.mp h
    cases d with
    | int n =>
      have h : whlL (fun δ1 s1 => (ev g w.flds t δ1 s1).bind fun c => (truthD c.1).map fun k => (k, c.2)) (fun δ1 s1 => ex g w.flds b body δ1 s1) (n.natAbs + 1) δ st = some (o, δ', st') := h
      refine ⟨fun n sg H => ∃ kap2 G2 s2 δ2, Step kap0 G0 H0 kap2 G2 H ∧ Le G G2 ∧ Ok w kap2 G2 s2 H ∧ Slots w kap2 G2 δ2 sg ∧ whlL (fun δ1 s1 => (ev g w.flds t δ1 s1).bind fun c => (truthD c.1).map fun k => (k, c.2)) (fun δ1 s1 => ex g w.flds b body δ1 s1) n δ2 s2 = some (o, δ', st'), ⟨n.natAbs + 1, kap, G, st, δ, S, Le.refl _, k, sl, h⟩, ?_⟩
      rintro n sg H ⟨kap2, G2, s2, δ2, S2, le, k2, sl2, hw⟩
      cases n with
      | zero => cases hw
      | succ n =>
        obtain ⟨⟨c, s3⟩, h2, h3⟩ := Option.bind_eq_some_iff.mp hw
        obtain ⟨⟨dc, s4⟩, h4, h5⟩ := Option.bind_eq_some_iff.mp h2
        obtain ⟨kb, h6, h7⟩ := Option.map_eq_some_iff.mp h5
        cases h7
        refine ⟨kap2, G2, s2, δ2, dc, _, c, k2, sl2, h4, h6, fun kap3 G3 H3 S3 k3 => ?_⟩
        have sl3 := sl2.mono S3.g S3.k
        have S4 := S2.trans S3
        have le3 := le.trans S3.g
        cases c with
        | false =>
          show (if (false : Bool) = true then _ else _)
          rw [if_neg Bool.false_ne_true]
          have h3 : some (Out.nx, δ2, s4) = some (o, δ', st') := h3
          cases h3
          exact q sg kap3 G3 H3 S4 le3 k3 sl3
        | true =>
          show (if (true : Bool) = true then _ else _)
          rw [if_pos rfl]
          obtain ⟨⟨o1, δ5, s5⟩, h8, h9⟩ := Option.bind_eq_some_iff.mp (show (ex g w.flds b body δ2 s4).bind _ = some (o, δ', st') from h3)
          refine ⟨fun sg H => ∃ kap2 G2 s2 δ2, Step kap0 G0 H0 kap2 G2 H ∧ Le G G2 ∧ Ok w kap2 G2 s2 H ∧ Slots w kap2 G2 δ2 sg ∧ whlL (fun δ1 s1 => (ev g w.flds t δ1 s1).bind fun c => (truthD c.1).map fun k => (k, c.2)) (fun δ1 s1 => ex g w.flds b body δ1 s1) n δ2 s2 = some (o, δ', st'), fun sg' H' z => ⟨n, Nat.lt_succ_self n, z⟩, kap0, G0, H0, kap3, G3, s4, δ2, o1, δ5, s5, hb0, S4, k3, sl3, h8, ?_⟩
          cases o1 with
          | nx => exact fun sg6 kap6 G6 H6 S6 le6 k6 sl6 => ⟨kap6, G6, s5, δ5, S6, le3.trans le6, k6, sl6, h9⟩
          | ct => exact fun sg6 kap6 G6 H6 S6 le6 k6 sl6 => ⟨kap6, G6, s5, δ5, S6, le3.trans le6, k6, sl6, h9⟩
          | bk =>
            cases h9
            exact fun sg6 kap6 G6 H6 S6 le6 k6 sl6 => q sg6 kap6 G6 H6 S6 (le3.trans le6) k6 sl6
          | rt r =>
            cases h9
            exact fun v kap6 G6 H6 S6 k6 r6 => q v kap6 G6 H6 S6 k6 r6
          | rf r =>
            cases h9
            exact q
          | rp r q0 =>
            cases h9
            exact q
    | _ => cases h
end
end DL

set_option Elab.async false
set_option linter.all false
set_option autoImplicit false
set_option maxRecDepth 100000
set_option maxHeartbeats 1000000
namespace DL
open PySem L2 PySem.Spec PyProof.Rows

theorem kindF {env : Env} (hk : env.scope.kind = .function) : env.blockKind = .function := by
  unfold Env.blockKind
  rw [hk]; rfl
theorem sw_name {env : Env} (hk : env.scope.kind = .function) {e : Expr} {x : Str} {p : Pos} {l : Nat} (h : (match e with | .SetComp .. => false | .DictComp .. => false | _ => true) = true) : swapsWith e (some (.Name x p)) l env = pure (swName env.scope e x p) := by
  cases e with
  | ListComp a b c d =>
    unfold swapsWith swName
    simp only [kindF hk]
    show (pure _ : Sem Bool) = pure _
    congr 1
    show (ScopeKind.function == ScopeKind.function && env.kindOf x == some .local && p.line == (Expr.ListComp a b c d).pos.line && !_) = _
    have e1 : (env.kindOf x == some NameKind.local) = decide (env.scope.names.lookup x = some .local) := by
      show (env.scope.names.lookup x == some NameKind.local) = _
      by_cases q : env.scope.names.lookup x = some .local
      · rw [q, decide_eq_true rfl]; rfl
      · rw [decide_eq_false q]
        exact beq_eq_false_iff_ne.mpr q
    rw [e1]
    rfl
  | SetComp => cases h
  | DictComp => cases h
  | _ => rfl
theorem sw_other {e t : Expr} {l : Nat} {env : Env} (h : ∀ x p, t ≠ .Name x p) : swapsWith e (some t) l env = pure false := by
  cases t with
  | Name x p => exact absurd rfl (h x p)
  | _ => cases e <;> rfl
theorem sw_none {e : Expr} {l : Nat} {env : Env} (h : (!isComp e) = true) : swapsWith e none l env = pure false := by
  cases e <;> first | rfl | cases h
theorem sst_1 {t e : Expr} {env : Env} (h : ∀ a b c, t ≠ .Tuple a b c) (h2 : ∀ a b, t ≠ .List a b) : swappedStores [t] e env = pure none := by
  cases t with
  | Tuple a b c => exact absurd rfl (h a b c)
  | List a b => exact absurd rfl (h2 a b)
  | _ => cases e <;> rfl
theorem sst_2 {ts : List Expr} {k : Nat} {p : Pos} {e : Expr} {env : Env} (h : ∀ a b c, e ≠ .Tuple a b c) : swappedStores [.Tuple ts k p] e env = pure none := by
  cases e with
  | Tuple a b c => exact absurd rfl (h a b c)
  | _ => rfl
theorem sst_tup {ts vs : List Expr} {k k2 : Nat} {p p2 : Pos} {env : Env} (hk : env.scope.kind = .function) {r : Option (List Str)} (h : swStores env.scope ts vs = some r) : swappedStores [.Tuple ts k p] (.Tuple vs k2 p2) env = pure r := by
  unfold swStores at h
  unfold swappedStores
  simp only [kindF hk]
  show (if (!(ts.length == 2 || ts.length == 3) || vs.length != ts.length || (ScopeKind.function != ScopeKind.function)) = true then _ else _) = _
  have e0 : (!(ts.length == 2 || ts.length == 3) || vs.length != ts.length || (ScopeKind.function != ScopeKind.function)) = (!(ts.length == 2 || ts.length == 3) || vs.length != ts.length) := by
    have : (ScopeKind.function != ScopeKind.function) = false := rfl
    rw [this, Bool.or_false]
  rw [e0]
  by_cases c1 : (!(ts.length == 2 || ts.length == 3) || vs.length != ts.length) = true
  · rw [if_pos c1] at h ⊢
    cases h; rfl
  · rw [if_neg c1] at h ⊢
    split at h
    · rename_i c2
      cases h
      split
      · rfl
      · rename_i c3
        exact absurd c2 c3
    · rename_i c2
      split
      · rename_i c3
        exact absurd c3 c2
      · show (if ((swNames env.scope ts).length != ts.length || (swNames env.scope ts).eraseDups.length != (swNames env.scope ts).length) = true then _ else _) = _
        split at h
        · rename_i c4
          cases h
          split
          · rfl
          · rename_i c5
            exact absurd c4 c5
        · rename_i c4
          split
          · rename_i c5
            exact absurd c5 c4
          · split at h
            · rename_i c6
              cases h
              split
              · rfl
              · rename_i c7
                exact absurd c6 c7
            · rename_i c6
              split
              · rename_i c7
                exact absurd c7 c6
              · split at h
                · cases h
                · rename_i c8
                  cases h
                  split
                  · rename_i c9
                    exact absurd c9 c8
                  · rfl
section
variable {w : Wd} {F : Fx} {g : List DSem} {kk : Nat} {X : Cx} {sc : Scope} {b : Nat}
theorem one_each {t : Expr} {env : Env} (h : star t = false) : (assignEach [t] env).map (·.2) = [assign t env] := by
  rw [assignEach_cons h]; rfl
/-- [..] stored in a plain local from within -/
theorem s_asgLc {i : Nat} {y : Str} {py p spos : Pos} {elt : CE} {tg : CT} {it cnd : CE} {own : List Nat} {e' t x : Expr} {fs : List Expr} {scope : Scope} {tp : Bool} (FT : Fit w F g kk X) (S : ScOk X sc) (esc : X.env.scope = sc) (hk : sc.kind = .function)
    (hN : F.N[i]? = some y) (hsw : swName sc (.ListComp e' [⟨t, x, fs, 0⟩] scope p) y py = true) (hi : PI X t x (rdI g w tp it)) (hs : notSet x = true) (ht : tp = true → isTp tg = true)
    (hb : blkB F.N sc scope own = true) (hT : chkT F.N scope tg t = true) (hc : ∀ X', Fit w F g kk X' → ScOk X' scope → PTs X' fs (rdT g w cnd)) (he : ∀ X', Fit w F g kk X' → ScOk X' scope → PE X' e' (rd g w elt)) :
    PS X (.Assign [.Name y py] (.ListComp e' [⟨t, x, fs, 0⟩] scope p) spos) (rdS g w b (.asg (.nm i) (.comp elt tg it cnd own))) := by
  have hN' : X.N = F.N := FT.N
  have hyl : X.env.scope.names.lookup y = some .local := by
    unfold swName at hsw
    simp only [Bool.and_eq_true] at hsw
    rw [esc]; exact of_decide_eq_true hsw.1.1
  refine PS.of (ps_setLc (i := i) (own := ownP F.N own) (g := rdG w tg) (tt := rdT g w cnd) (te := rd g w elt) FT.calm (by rw [hN']; exact FT.nd) (by rw [hN']; exact hN) hyl (by rw [sw_name (by rw [esc]; exact hk) rfl, esc, hsw]) hi (by rw [hN']; exact blk_ok S hb)
    (fun s H C cl fp => snd_T (fit_blk FT s H scope _ fp) (sc_blk s H scope C cl fp) tg t hT) (fun s H C cl fp => hc _ (fit_blk FT s H scope _ fp) (sc_blk s H scope C cl fp)) (fun s H C cl fp => he _ (fit_blk FT s H scope _ fp) (sc_blk s H scope C cl fp))
    (notSet_ok hs X.env)) fun D sg H ⟨kap0, G0, H0, kap, G, st, δ, o, δ', st', hb0, S0, k, sl, h, q⟩ => ?_
  obtain ⟨⟨d, s1⟩, h2, h3⟩ := Option.bind_eq_some_iff.mp h
  obtain ⟨δ1, h4, h5⟩ := Option.map_eq_some_iff.mp h3
  cases h5
  refine comp_rd (tp := tp) (it := it) (tg := tg) FT.nd ht hb hT sg H _ ⟨kap, G, st, δ, d, _, k, sl, h2, fun v kap1 G1 H1 S1 k1 r => ?_⟩
  cases h4
  exact q _ kap1 G1 H1 (S0.trans S1) S1.g k1 ((sl.mono S1.g S1.k).set (d := .d d) r i)
theorem s_asgLcC {i : Nat} {y : Str} {py p spos : Pos} {elt : CE} {tg : CT} {it cnd : CE} {own : List Nat} {e' t x : Expr} {fs : List Expr} {scope : Scope} {tp : Bool} (FT : Fit w F g kk X) (S : ScOk X sc) (esc : X.env.scope = sc) (hk : sc.kind = .function)
    (hN : F.N[i]? = some y) (hsw : swName sc (.ListComp e' [⟨t, x, fs, 0⟩] scope p) y py = true) (hi : PI X t x (rdI g w tp it)) (hs : notSet x = true) (ht : tp = true → isTp tg = true)
    (hb : blkB F.N sc scope own = true) (hT : chkT F.N scope tg t = true) (hc : ∀ X', Fit w F g kk X' → ScOk X' scope → PTs X' fs (rdT g w cnd)) (he : ∀ X', Fit w F g kk X' → ScOk X' scope → PE X' e' (rd g w elt)) :
    PS X (.Assign [.Name y py] (.ListComp e' [⟨t, x, fs, 0⟩] scope p) spos) (rdS g w b (.asgC i (.comp elt tg it cnd own))) := by
  have hN' : X.N = F.N := FT.N
  have hyl : X.env.scope.names.lookup y = some .local := by
    unfold swName at hsw
    simp only [Bool.and_eq_true] at hsw
    rw [esc]; exact of_decide_eq_true hsw.1.1
  refine PS.of (ps_setLc (i := i) (own := ownP F.N own) (g := rdG w tg) (tt := rdT g w cnd) (te := rd g w elt) FT.calm (by rw [hN']; exact FT.nd) (by rw [hN']; exact hN) hyl (by rw [sw_name (by rw [esc]; exact hk) rfl, esc, hsw]) hi (by rw [hN']; exact blk_ok S hb)
    (fun s H C cl fp => snd_T (fit_blk FT s H scope _ fp) (sc_blk s H scope C cl fp) tg t hT) (fun s H C cl fp => hc _ (fit_blk FT s H scope _ fp) (sc_blk s H scope C cl fp)) (fun s H C cl fp => he _ (fit_blk FT s H scope _ fp) (sc_blk s H scope C cl fp))
    (notSet_ok hs X.env)) fun D sg H ⟨kap0, G0, H0, kap, G, st, δ, o, δ', st', hb0, S0, k, sl, h, q⟩ => ?_
  obtain ⟨⟨d, s1⟩, h2, h3⟩ := Option.bind_eq_some_iff.mp h
  cases d with
  | lst xs =>
    cases h3
    refine comp_rdF (tp := tp) (it := it) (tg := tg) FT.nd ht hb hT sg H _ ⟨kap, G, st, δ, xs, s1, k, sl, h2, fun a vs kap1 G1 H1 S1 k1 ga ka hH da h0 => ?_⟩
    obtain ⟨S2, k2, rc⟩ := Ok.cell S1 k1 ga ka hH da h0
    exact q _ _ G1 H1 (S0.trans S2) S2.g k2 ((sl.mono S2.g S2.k).set rc i)
  | _ => cases h3
theorem s_asgLc2 {i : Nat} {y : Str} {py p spos : Pos} {elt : CE} {tg tg1 : CT} {it cnd it1 cnd1 : CE} {own own1 : List Nat} {e' t x t1 i1 : Expr} {fs fs1 : List Expr} {scope : Scope} {tp tp1 : Bool} (FT : Fit w F g kk X) (S : ScOk X sc) (esc : X.env.scope = sc) (hk : sc.kind = .function)
    (hN : F.N[i]? = some y) (hsw : swName sc (.ListComp e' [⟨t, x, fs, 0⟩, ⟨t1, i1, fs1, 0⟩] scope p) y py = true) (hi : PI X t x (rdI g w tp it)) (hs : notSet x = true) (ht : tp = true → isTp tg = true)
    (hb : blkB F.N sc scope own = true) (ho : ∀ j ∈ own1, j ∈ own) (hT : chkT F.N scope tg t = true) (hc : ∀ X', Fit w F g kk X' → ScOk X' scope → PTs X' fs (rdT g w cnd))
    (hi1 : ∀ X', Fit w F g kk X' → ScOk X' scope → PI X' t1 i1 (rdI g w tp1 it1)) (hs1 : notSet i1 = true) (ht1 : tp1 = true → isTp tg1 = true) (hx1 : ∀ j ∈ ctIx tg1, j ∈ own1) (hT1 : chkT F.N scope tg1 t1 = true) (hc1 : ∀ X', Fit w F g kk X' → ScOk X' scope → PTs X' fs1 (rdT g w cnd1))
    (he : ∀ X', Fit w F g kk X' → ScOk X' scope → PE X' e' (rd g w elt)) :
    PS X (.Assign [.Name y py] (.ListComp e' [⟨t, x, fs, 0⟩, ⟨t1, i1, fs1, 0⟩] scope p) spos) (rdS g w b (.asg (.nm i) (.comp2 elt tg it cnd tg1 it1 cnd1 own own1))) := by
  have hN' : X.N = F.N := FT.N
  have hyl : X.env.scope.names.lookup y = some .local := by
    unfold swName at hsw
    simp only [Bool.and_eq_true] at hsw
    rw [esc]; exact of_decide_eq_true hsw.1.1
  refine PS.of (ps_setLc2 (i := i) (own := ownP F.N own) (vs1 := own1) (g := rdG w tg) (tt := rdT g w cnd) (te := rd g w elt) (g1 := rdG w tg1) (tt1 := rdT g w cnd1) (wi1 := rdI g w tp1 it1) FT.calm (by rw [hN']; exact FT.nd) (by rw [hN']; exact hN) hyl (by rw [sw_name (by rw [esc]; exact hk) rfl, esc, hsw]) hi (by rw [hN']; exact blk_ok S hb) (by rw [ownP_ix]; exact ho)
    (fun s H C cl fp => snd_T (fit_blk FT s H scope _ fp) (sc_blk s H scope C cl fp) tg t hT) (fun s H C cl fp => hc _ (fit_blk FT s H scope _ fp) (sc_blk s H scope C cl fp)) (fun s H C cl fp => hi1 _ (fit_blk FT s H scope _ fp) (sc_blk s H scope C cl fp))
    (fun s H C cl fp => snd_T (fit_blk FT s H scope _ fp) (sc_blk s H scope C cl fp) tg1 t1 hT1) (fun s H C cl fp => hc1 _ (fit_blk FT s H scope _ fp) (sc_blk s H scope C cl fp)) (fun s H C cl fp => he _ (fit_blk FT s H scope _ fp) (sc_blk s H scope C cl fp))
    (notSet_ok hs X.env) (notSet_ok hs1)) fun D sg H ⟨kap0, G0, H0, kap, G, st, δ, o, δ', st', hb0, S0, k, sl, h, q⟩ => ?_
  obtain ⟨⟨d, s1⟩, h2, h3⟩ := Option.bind_eq_some_iff.mp h
  obtain ⟨δ1, h4, h5⟩ := Option.map_eq_some_iff.mp h3
  cases h5
  refine comp2_rd (tp := tp) (it := it) (tg := tg) (tp1 := tp1) FT.nd ht hb hT ht1 hx1 sg H _ ⟨kap, G, st, δ, d, _, k, sl, h2, fun v kap1 G1 H1 S1 k1 r => ?_⟩
  cases h4
  exact q _ kap1 G1 H1 (S0.trans S1) S1.g k1 ((sl.mono S1.g S1.k).set (d := .d d) r i)
theorem s_asg2 {i j : Nat} {x y : Str} {es : CA} {a c : Expr} {px py pt pos : Pos} {kt k2 pt2} (FT : Fit w F g kk X) (esc : X.env.scope = sc) (hk : sc.kind = .function) (hi : F.N[i]? = some x) (hj : F.N[j]? = some y) (hij : i ≠ j) (hx : isLocal sc x = true) (hy : isLocal sc y = true) (ha : PA X [a, c] (rdA g w es))
    (hw : swStores sc [.Name x px, .Name y py] [a, c] = some (some [x, y])) : PS X (.Assign [.Tuple [.Name x px, .Name y py] kt pt] (.Tuple [a, c] k2 pt2) pos) (rdS g w b (.asg2 i j es)) := by
  have hN' : X.N = F.N := FT.N
  have hl : ∀ z, isLocal sc z = true → X.env.scope.names.lookup z = some .local := fun z h => by
    rw [esc]
    unfold isLocal at h
    split at h
    · assumption
    · cases h
  refine PS.of (ps_par FT.calm (by rw [hN']; exact FT.nd) (by rw [hN']; exact hi) (by rw [hN']; exact hj) hij (hl x hx) (hl y hy) ha (sst_tup (by rw [esc]; exact hk) (by rw [esc]; exact hw)) rfl) fun D sg H ⟨kap0, G0, H0, kap, G, st, δ, o, δ', st', hb0, S0, k, sl, h, q⟩ => ?_
  obtain ⟨⟨rs, s1⟩, h1, h2⟩ := Option.bind_eq_some_iff.mp h
  refine ⟨kap, G, st, δ, rs, s1, k, sl, h1, fun vs kap1 G1 H1 S1 k1 r => ?_⟩
  match rs, h2, r with
  | [r1, r2], h2, r =>
    cases h2
    cases r with
    | cons d1 t1 =>
      cases t1 with
      | cons d2 t2 =>
        cases t2
        exact ⟨_, _, rfl, q _ kap1 G1 H1 (S0.trans S1) S1.g k1 (((sl.mono S1.g S1.k).set d1 i).set d2 j)⟩
theorem ps_par3 {X : Cx} {i j l : Nat} {x y z : Str} {a b c : Expr} {ta : TA} {px py pz pt pos : Pos} {kt k2 pt2} (hc : X.calm = true) (hN : X.N.Nodup) (hi : X.N[i]? = some x) (hj : X.N[j]? = some y) (hl : X.N[l]? = some z) (hij : i ≠ j) (hil : i ≠ l) (hjl : j ≠ l)
    (hx : X.env.scope.names.lookup x = some .local) (hy : X.env.scope.names.lookup y = some .local) (hz : X.env.scope.names.lookup z = some .local) (ha : PA X [a, b, c] ta)
    (hw : swappedStores [.Tuple [.Name x px, .Name y py, .Name z pz] kt pt] (.Tuple [a, b, c] k2 pt2) X.env = pure (some [x, y, z]))
    (hs : swapsWithSole [.Tuple [.Name x px, .Name y py, .Name z pz] kt pt] (.Tuple [a, b, c] k2 pt2) pos.line X.env = pure false := by rfl) :
    PS X (.Assign [.Tuple [.Name x px, .Name y py, .Name z pz] kt pt] (.Tuple [a, b, c] k2 pt2) pos) (fun D σ H => ta σ H fun vs H1 => ∃ v w u, vs = [v, w, u] ∧ D.nx (((σ.set i (some v)).set j (some w)).set l (some u)) H1) := by
  refine ⟨fun pins s σ H D I h => ?_⟩
  rw [exec_Assign_arm]
  refine wpAny_bind (wpAny_standAt ?_)
  rw [hs]
  refine wpAny_bind (wpAny_pure ?_)
  rw [if_neg (by decide)]
  refine wpAny_bind (Tuple_ (thn (ha.run _ pins s σ H _ I h) fun us s1 ⟨vs, H1, I1, r1, q1⟩ => ?_))
  obtain ⟨v, w, u, e1, q1⟩ := q1
  subst e1
  obtain ⟨u1, u2, u3, rfl, rv, rw', ru⟩ := vals3c r1
  refine wpAny_newObj_type ?_ (by show 3 ≤ sizeLine; decide)
  have I2 : Inv X pins σ H1 { s1 with heap := s1.heap.push { cls := .type "tuple", data := .seq [u1, u2, u3].toArray } } := I1.kept (t' := s1.toks) fun b o e => Heap.get?_push_of_some _ e
  rw [hw]
  refine wpAny_bind (wpAny_pure ?_)
  show wpAny (model X.prog X.w) X.A (do rule "assign.swapped-stores"; let items ← unpackItems (.ref s1.heap.objs.size) 3 none; assignInOrder [fun v => bindName X.env z v, fun v => bindName X.env y v, fun v => bindName X.env x v] items.reverse; pure Flow.next) _ _ _
  refine wpAny_bind (wpAny_rule (wpAny_bind (unpackItems_tuple (items := #[u1, u2, u3]) (I.ok.hd hc) (IsTup.new s1.heap _) fun h' hx' => ?_)))
  have I3 := I2.kept (h' := h') (t' := s1.toks) fun b o e => hx' b o (Nat.ne_of_lt (Heap.lt_size e)) e
  show wpAny _ _ (assignInOrder [fun v => bindName X.env z v, fun v => bindName X.env y v, fun v => bindName X.env x v] [u3, u2, u1] >>= fun _ => pure Flow.next) _ _ _
  refine wpAny_bind (assignInOrder_cons (wpAny_bindName (store_ok I3 hN hl (.inl hz) ru (fun s2 I4 => ?_) (.inr hz))))
  refine assignInOrder_cons (wpAny_bindName (store_ok I4 hN hj (.inl hy) rw' (fun s3 I5 => ?_) (.inr hy)))
  refine assignInOrder_cons (wpAny_bindName (store_ok I5 hN hi (.inl hx) rv (fun s3 I6 => assignInOrder_nil (wpAny_pure ?_)) (.inr hx)))
  rw [List.set_comm _ _ (Ne.symm hij), List.set_comm _ _ (Ne.symm hil), List.set_comm _ _ (Ne.symm hjl)] at I6
  exact ⟨_, H1, I6, q1⟩
theorem s_asg3 {i j l : Nat} {x y z : Str} {es : CA} {a c e : Expr} {px py pz pt pos : Pos} {kt k2 pt2} (FT : Fit w F g kk X) (esc : X.env.scope = sc) (hk : sc.kind = .function) (hi : F.N[i]? = some x) (hj : F.N[j]? = some y) (hl : F.N[l]? = some z) (hij : i ≠ j) (hil : i ≠ l) (hjl : j ≠ l) (hx : isLocal sc x = true) (hy : isLocal sc y = true) (hz : isLocal sc z = true) (ha : PA X [a, c, e] (rdA g w es))
    (hw : swStores sc [.Name x px, .Name y py, .Name z pz] [a, c, e] = some (some [x, y, z])) : PS X (.Assign [.Tuple [.Name x px, .Name y py, .Name z pz] kt pt] (.Tuple [a, c, e] k2 pt2) pos) (rdS g w b (.asg3 i j l es)) := by
  have hN' : X.N = F.N := FT.N
  have hloc : ∀ z, isLocal sc z = true → X.env.scope.names.lookup z = some .local := fun z h => by
    rw [esc]
    unfold isLocal at h
    split at h
    · assumption
    · cases h
  refine PS.of (ps_par3 FT.calm (by rw [hN']; exact FT.nd) (by rw [hN']; exact hi) (by rw [hN']; exact hj) (by rw [hN']; exact hl) hij hil hjl (hloc x hx) (hloc y hy) (hloc z hz) ha (sst_tup (by rw [esc]; exact hk) (by rw [esc]; exact hw)) rfl) fun D sg H ⟨kap0, G0, H0, kap, G, st, δ, o, δ', st', hb0, S0, k, sl, h, q⟩ => ?_
  obtain ⟨⟨rs, s1⟩, h1, h2⟩ := Option.bind_eq_some_iff.mp h
  refine ⟨kap, G, st, δ, rs, s1, k, sl, h1, fun vs kap1 G1 H1 S1 k1 r => ?_⟩
  match rs, h2, r with
  | [r1, r2, r3], h2, r =>
    cases h2
    cases r with
    | cons d1 t1 =>
      cases t1 with
      | cons d2 t2 =>
        cases t2 with
        | cons d3 t3 =>
          cases t3
          exact ⟨_, _, _, rfl, q _ kap1 G1 H1 (S0.trans S1) S1.g k1 ((((sl.mono S1.g S1.k).set d1 i).set d2 j).set d3 l)⟩
theorem rf_any {e : CE} {x : Expr} (FT : Fit w F g kk X) (S : ScOk X sc) (hf : isFresh e = true) (h : chk F false sc e x = true) : PE X x (rdF g w e) := by
  cases e with
  | lst es =>
    simp only [chk] at h
    split at h
    · rename_i xs hv
      obtain ⟨p, rfl⟩ := vLst_ok hv
      exact rf_lst (sndA es F X sc FT S _ h).1
    · cases h
  | blt b as =>
    have eb : b = .list := by cases b <;> first | rfl | cases hf
    subst eb
    simp only [chk] at h
    split at h
    · rename_i f ys hv
      obtain ⟨q, p, rfl⟩ := vCall_ok hv
      simp only [Bool.and_eq_true] at h
      obtain ⟨⟨⟨⟨k1, k2⟩, k3⟩, k4⟩, k5⟩ := h
      obtain ⟨y1, y2⟩ := sndA as F X sc FT S _ k4
      obtain ⟨x, l, rfl⟩ := ne_cons k5
      exact rf_list FT (glB_ok S k3) (eq_of_beq k1) (FT.frees _ k2) y2 y1
    · cases h
  | comp elt tg it cnd own =>
    simp only [chk] at h
    split at h
    · rename_i e' t i fs scope hv
      obtain ⟨p, rfl⟩ := vComp_ok hv
      simp only [Bool.and_eq_true] at h
      obtain ⟨⟨⟨⟨⟨⟨k1, k2⟩, k3⟩, k4⟩, k5⟩, k6⟩, k7⟩ := h
      have k3 : itTp it = true → isTp tg = true := fun z => by simpa [z] using k3
      have ht : isTp tg = true → isTupE t = true := fun z => by
        cases tg <;> first | cases z | skip
        cases t <;> first | rfl | cases k5
      refine r_compF FT S ((snd it F X sc FT S).2.1 i t k1 (fun z => ht (k3 z))) k2 k3 k4 k5 (fun X' F' S' => ?_) (fun X' F' S' => (snd elt F X' scope F' S').1 _ k7)
      split at k6
      · have ec : cnd = .yes := by cases cnd <;> first | rfl | cases k6
        rw [ec]
        exact rts_nil
      · simp only [Bool.and_eq_true] at k6
        exact pts_one ((snd cnd F X' scope F' S').2.2 _ k6.1 k6.2).1
      · cases k6
    · cases h
  | bin op a c =>
    have eo : op = .Add := by cases op <;> first | rfl | cases hf
    subst eo
    simp only [chk] at h
    split at h
    · rename_i o x y hv
      obtain ⟨p, rfl⟩ := vBin_ok hv
      rw [Bool.and_eq_true, Bool.and_eq_true] at h
      have e1 := eq_of_beq h.1.1
      subst e1
      exact rf_add FT ((snd a F X sc FT S).1 _ h.1.2) ((snd c F X sc FT S).1 _ h.2)
    · cases h
  | _ => cases hf
theorem s_asgC {i : Nat} {x : Str} {e : CE} {y : Expr} {p spos : Pos} (FT : Fit w F g kk X) (S : ScOk X sc) (hN : F.N[i]? = some x) (hl : locB sc x = true) (he : PE X y (rdF g w e)) (hs : swapsWithSole [.Name x p] y spos.line X.env = pure false) : PS X (.Assign [.Name x p] y spos) (rdS g w b (.asgC i e)) := by
  obtain ⟨l1, l2⟩ := locB_ok S hl
  refine PS.of (ps_asg he (pg_name (by rw [FT.N]; exact FT.nd) (i := i) (by rw [FT.N]; exact hN) l1 l2) hs (sst_1 (fun _ _ _ z => nomatch z) fun _ _ z => nomatch z) rfl) fun D sg H ⟨kap0, G0, H0, kap, G, st, δ, o, δ', st', hb0, S0, k, sl, h, q⟩ => ?_
  obtain ⟨⟨d, s1⟩, h1, h2⟩ := Option.bind_eq_some_iff.mp h
  cases d with
  | lst xs =>
    cases h2
    refine ⟨kap, G, st, δ, xs, s1, k, sl, h1, fun a vs kap1 G1 H1 S1 k1 ga ka hH da h0 => ?_⟩
    obtain ⟨S2, k2, rc⟩ := Ok.cell S1 k1 ga ka hH da h0
    exact q _ _ G1 H1 (S0.trans S2) S2.g k2 ((sl.mono S2.g S2.k).set rc i)
  | _ => cases h2
theorem assign_sub {o i : Expr} {pos : Pos} {env : Env} (h : noSlice i = true) (v : Value) : assign (.Subscript o i pos) env v = (do
      let ov ← holding [v] (eval o env)
      let iv ← holding [v, ov] (eval i env)
      standAt pos
      holding [v, ov, iv] (setItem ov iv v)
      release [v, ov, iv] []) := by
  cases i <;> first | rfl | cases h
theorem sws_other {e t : Expr} {l : Nat} {env : Env} (h : ∀ x p, t ≠ .Name x p) : swapsWithSole [t] e l env = pure false := sw_other h
theorem s_setC {i : Nat} {x : Str} {ix e : CE} {y z : Expr} {p1 p2 spos : Pos} (FT : Fit w F g kk X) (S : ScOk X sc) (hN : F.N[i]? = some x) (hv : visB sc x = true) (hi : PE X y (rd g w ix)) (he : PE X z (rd g w e)) (hns : noSlice y = true) : PS X (.Assign [.Subscript (.Name x p1) y p2] z spos) (rdS g w b (.setC i ix e)) := by
  have v := visB_ok S hv
  refine PS.of (ps_asg he (pg_sub (pe_var (i := i) (by rw [FT.N]; exact hN) v.1 v.2.1 v.2.2) hi set_list (assign_sub hns)) (sws_other fun _ _ z => nomatch z) (sst_1 (fun _ _ _ z => nomatch z) fun _ _ z => nomatch z) rfl) fun D sg H ⟨kap0, G0, H0, kap, G, st, δ, o, δ', st', hb0, S0, k, sl, h, q⟩ => ?_
  obtain ⟨⟨d, s1⟩, h1, h⟩ := Option.bind_eq_some_iff.mp h
  obtain ⟨c, h2, h⟩ := Option.bind_eq_some_iff.mp h
  obtain ⟨⟨d2, s2⟩, h3, h⟩ := Option.bind_eq_some_iff.mp h
  refine ⟨kap, G, st, δ, d, s1, k, sl, h1, fun v1 kap1 G1 H1 S1 k1 r1 => ?_⟩
  have sl1 := sl.mono S1.g S1.k
  obtain ⟨u, h4, h5⟩ := sl1.at_ i _ (atC_some h2)
  refine ⟨u, h4, kap1, G1, s1, δ, d2, s2, k1, sl1, h3, fun v2 kap2 G2 H2 S2 k2 r2 => ?_⟩
  cases hc : s2[c]? with
  | none => simp only [hc] at h; cases h
  | some ce =>
    simp only [hc] at h
    cases ce with
    | lst xs =>
      cases d2 with
      | int n =>
        obtain ⟨m, h6, h7⟩ := Option.map_eq_some_iff.mp (show (ixN xs.length n).map (fun m => (Out.nx, δ, s2.set c (.lst (xs.set m d)))) = some (o, δ', st') from h)
        cases h7
        obtain ⟨a, vs, rfl, ha, hH, da⟩ := cell_lst k2 hc (h5.mono S2.g S2.k)
        cases r2
        obtain ⟨S3, k3⟩ := k2.put (o := .lst (vs.set m v1)) (ce := .lst (xs.set m d)) ha hH nt_lst lst_nc nt_lst ⟨_, upd_same, da.set (r1.mono S2.g) m⟩
        refine ⟨a, vs, n, m, rfl, rfl, hH, by rw [← da.length]; exact h6, ?_⟩
        exact q _ kap2 G2 _ (S0.trans ((S1.trans S2).trans S3)) ((S1.g.trans S2.g).trans S3.g) k3 ((sl1.mono S2.g S2.k).mono S3.g S3.k)
      | _ => cases h
    | _ => cases h
theorem s_appC {i : Nat} {x : Str} {e : CE} {y : Expr} {p1 a c spos : Pos} (FT : Fit w F g kk X) (S : ScOk X sc) (hN : F.N[i]? = some x) (hv : visB sc x = true) (he : PE X y (rd g w e)) (hs : star y = false) (hline : (a.endLine == c.line) = true) : PS X (.Expr (.Call (.Attribute (.Name x p1) "append" a) [y] [] c) spos) (rdS g w b (.appC i e)) := by
  have v := visB_ok S hv
  have hn2 : noStars [y] = true := by show (!star y && true) = true; rw [hs]; rfl
  refine PS.of (ps_expr (pe_bm (T := "list") PySem.F.plainAttrs_list PySem.F.slot_list_append PySem.F.type_list_append (fun pins s sg H x xs v us Q I a b h => mt_append pins s sg H x xs v us Q I a b h) (pe_var (i := i) (by rw [FT.N]; exact hN) v.1 v.2.1 v.2.2) (pa_cons he pa_nil (starEach_cons hs)) rfl (few_trees hn2 (by simp)) hline (starEach_cons hs) rfl) rfl) fun D sg H ⟨kap0, G0, H0, kap, G, st, δ, o, δ', st', hb0, S0, k, sl, h, q⟩ => ?_
  obtain ⟨cc, h1, h⟩ := Option.bind_eq_some_iff.mp h
  obtain ⟨u, h4, h5⟩ := sl.at_ i _ (atC_some h1)
  cases hc0 : st[cc]? with
  | none => simp only [hc0] at h; cases h
  | some ce0 =>
    cases ce0 with
    | lst xs0 =>
      simp only [hc0] at h
      obtain ⟨a0, vs0, rfl, ha0, hH0, da0⟩ := cell_lst k hc0 h5
      obtain ⟨⟨d, s1⟩, h2, h⟩ := Option.bind_eq_some_iff.mp h
      refine ⟨_, h4, .inl ⟨rfl, vs0, .of hH0⟩, kap, G, st, δ, d, s1, k, sl, h2, fun w1 kap1 G1 H1 S1 k1 rw1 => ?_⟩
      cases hc : s1[cc]? with
      | none => simp only [hc] at h; cases h
      | some ce =>
        simp only [hc] at h
        cases ce with
        | lst xs =>
          obtain ⟨cl, e1⟩ := if_some (show (if xs.length < lim then some (Out.nx, δ, s1.set cc (.lst (xs ++ [d]))) else none) = some (o, δ', st') from h)
          cases e1
          obtain ⟨a1, vs, e2, ha, hH, da⟩ := cell_lst k1 hc (h5.mono S1.g S1.k)
          cases e2
          obtain ⟨S2, k2⟩ := k1.put (o := .lst (vs ++ [w1])) (ce := .lst (xs ++ [d])) ha hH nt_lst lst_nc nt_lst ⟨_, upd_same, da.append (.cons rw1 .nil)⟩
          exact ⟨a0, vs, w1, rfl, rfl, hH, by rw [← da.length]; exact lim_lt cl, q _ kap1 G1 _ (S0.trans (S1.trans S2)) (S1.g.trans S2.g) k2 ((sl.mono S1.g S1.k).mono S2.g S2.k)⟩
        | _ => cases h
    | _ => simp only [hc0] at h; cases h
/-- x[i], y = a pair -/
theorem s_asgX {i j : Nat} {x u : Str} {ix e : CE} {y z : Expr} {p1 p2 p3 p4 spos : Pos} {n : Nat} (FT : Fit w F g kk X) (S : ScOk X sc) (hN : F.N[i]? = some x) (hv : visB sc x = true) (hi : PE X y (rd g w ix)) (hns : noSlice y = true) (hNj : F.N[j]? = some u) (hl : locB sc u = true) (he : PE X z (rd g w e))
    (hz : ∀ a b c, z ≠ .Tuple a b c) : PS X (.Assign [.Tuple [.Subscript (.Name x p1) y p2, .Name u p3] n p4] z spos) (rdS g w b (.asgX i ix j e)) := by
  have v := visB_ok S hv
  obtain ⟨l1, l2⟩ := locB_ok S hl
  refine PS.of (ps_asg he (pg_tup (n := 2) FT.calm (pgs_cons (pg_sub (pe_var (i := i) (by rw [FT.N]; exact hN) v.1 v.2.1 v.2.2) hi set_list (assign_sub hns)) (pgs_cons (pg_name (by rw [FT.N]; exact FT.nd) (i := j) (by rw [FT.N]; exact hNj) l1 l2) pgs_nil rfl) rfl) rfl rfl) (sws_other fun _ _ z => nomatch z) (sst_2 hz) rfl) fun D sg H ⟨kap0, G0, H0, kap, G, st, δ, o, δ', st', hb0, S0, k, sl, h, q⟩ => ?_
  obtain ⟨⟨d, s1⟩, h1, h⟩ := Option.bind_eq_some_iff.mp h
  obtain ⟨c, h2, h⟩ := Option.bind_eq_some_iff.mp h
  obtain ⟨⟨d2, s2⟩, h3, h⟩ := Option.bind_eq_some_iff.mp h
  refine ⟨kap, G, st, δ, d, s1, k, sl, h1, fun v1 kap1 G1 H1 S1 k1 r1 => ?_⟩
  have sl1 := sl.mono S1.g S1.k
  obtain ⟨uu, h4, h5⟩ := sl1.at_ i _ (atC_some h2)
  cases hc : s2[c]? with
  | none => simp only [hc] at h; cases h
  | some ce =>
    simp only [hc] at h
    cases ce with
    | lst xs =>
      cases d2 with
      | int m0 =>
        cases d with
        | tup ds =>
          match ds, h, r1 with
          | [da, dc], h, r1 =>
            obtain ⟨m, h6, h7⟩ := Option.map_eq_some_iff.mp (show (ixN xs.length m0).map (fun m => (Out.nx, δ.set j (some (.d dc)), s2.set c (.lst (xs.set m da)))) = some (o, δ', st') from h)
            cases h7
            obtain ⟨at0, vst, o0, rfl, hG, ho, hd⟩ := den_tup r1
            obtain ⟨va, vc, rfl, ra, rc⟩ := dens2 hd
            refine ⟨at0, [va, vc], rfl, k1.le.st (frzT hG), rfl, va, [vc], rfl, uu, h4, kap1, G1, s1, δ, _, s2, k1, sl1, h3, fun v2 kap2 G2 H2 S2 k2 r2 => ?_⟩
            obtain ⟨a, vs, rfl, ha, hH, da2⟩ := cell_lst k2 hc (h5.mono S2.g S2.k)
            cases r2
            obtain ⟨S3, k3⟩ := k2.put (o := .lst (vs.set m va)) (ce := .lst (xs.set m da)) ha hH nt_lst lst_nc nt_lst ⟨_, upd_same, da2.set (ra.mono S2.g) m⟩
            refine ⟨a, vs, m0, m, rfl, rfl, hH, by rw [← da2.length]; exact h6, vc, [], rfl, rfl, ?_⟩
            exact q _ kap2 G2 _ (S0.trans ((S1.trans S2).trans S3)) ((S1.g.trans S2.g).trans S3.g) k3 (((sl1.mono S2.g S2.k).mono S3.g S3.k).set (d := .d dc) ((rc.mono S2.g).mono S3.g) j)
          | [], h, _ => cases h
          | [_], h, _ => cases h
          | _ :: _ :: _ :: _, h, _ => cases h
        | _ => cases h
      | _ => cases h
    | _ => cases h
theorem s_retF {e : CE} {x : Expr} {p : Pos} (he : PE X x (rdF g w e)) : PS X (.Return (some x) p) (rdS g w b (.retF e)) := PS.of (ps_ret he) fun D sg H ⟨kap0, G0, H0, kap, G, st, δ, o, δ', st', hb, S, k, sl, h, q⟩ => by
  obtain ⟨⟨d, s1⟩, h1, h2⟩ := Option.bind_eq_some_iff.mp h
  cases d with
  | lst xs =>
    cases h2
    refine ⟨kap, G, st, δ, xs, _, k, sl, h1, fun a vs kap1 G1 H1 S1 k1 ga ka hH da h0 => q a vs kap1 G1 H1 (S.trans S1) k1 ga ka hH da fun o e n => ?_⟩
    obtain ⟨o', e', n'⟩ := S.dom a o e n
    exact h0 o' e' n'
  | _ => cases h2
theorem nin_pre {A B : List Addr} (h : A <+: B) (nd : B.Nodup) {k : Nat} {a : Addr} (hk : A.length ≤ k) (e : B[k]? = some a) : a ∉ A := by
  obtain ⟨r, rfl⟩ := h
  rw [List.getElem?_append, if_neg (by omega)] at e
  rw [List.nodup_append] at nd
  exact fun m => nd.2.2 a m a (List.mem_of_getElem? e) rfl
theorem s_retP {i j : Nat} {x y : Expr} {n : Nat} {p p2 : Pos} (ha : PA X [x, y] (rdA g w (.cel i (.cel j .nil)))) : PS X (.Return (some (.Tuple [x, y] n p)) p2) (rdS g w b (.retP i j)) := PS.of (ps_ret (pe_tup ha)) fun D sg H ⟨kap0, G0, H0, kap, G, st, δ, o, δ', st', hb, S, k, sl, h, q⟩ => by
  obtain ⟨c1, h1, h⟩ := Option.bind_eq_some_iff.mp h
  obtain ⟨c2, h2, h⟩ := Option.bind_eq_some_iff.mp h
  cases e1 : st[c1]? with
  | none => simp only [e1] at h; cases h
  | some z1 =>
    cases e2 : st[c2]? with
    | none => simp only [e1, e2] at h; cases z1 <;> cases h
    | some z2 =>
      simp only [e1, e2] at h
      cases z1 with
      | lst xs =>
        cases z2 with
        | lst ys =>
          obtain ⟨⟨b1, b2, b3⟩, h⟩ := if_someB h
          cases h
          refine ⟨kap, G, st, δ, [.c c1, .c c2], st, k, sl, ?_, fun vs kap1 G1 H1 S1 k1 r => ?_⟩
          · show (atC δ i).bind (fun k => ((atC δ j).bind fun k => some ([R.c k], st)).map fun q => (R.c k :: q.1, q.2)) = _
            rw [h1, h2]
            rfl
          · cases r with
            | cons r1 t1 =>
              cases t1 with
              | cons r2 t2 =>
                cases t2
                obtain ⟨a1, f1, rfl⟩ := r1
                obtain ⟨a2, f2, rfl⟩ := r2
                refine ⟨by show 2 ≤ sizeLine; decide, fun p hp => ?_⟩
                obtain ⟨S2, k2⟩ := k1.side (o := .tup [.ref a1, .ref a2]) hp
                have S3 := (S.trans S1).trans S2
                obtain ⟨vs1, g1, d1⟩ := k2.cells c1 _ a1 e1 f1
                obtain ⟨vs2, g2, d2⟩ := k2.cells c2 _ a2 e2 f2
                have n1 := nin_pre S3.k k2.nd (by omega) f1
                have n2 := nin_pre S3.k k2.nd (by omega) f2
                have m1 := List.mem_of_getElem? f1
                have m2 := List.mem_of_getElem? f2
                exact q p a1 a2 vs1 vs2 G1 _ S3.cut (k2.cut S3.k) (k2.fr _ m1) n1 g1 d1 (S3.frk _ m1 n1) (k2.fr _ m2) n2 g2 d2 (S3.frk _ m2 n2) (fun e => b3 (by
                  subst e
                  exact (List.getElem?_inj (List.getElem?_eq_some_iff.mp f1).1 k2.nd).mp (f1.trans f2.symm))) upd_same
        | _ => cases h
      | _ => cases h
theorem s_asgP {i j dp : Nat} {as : CA} {x y f : Str} {e : Expr} {ys : List Expr} {p1 p2 p3 p4 p5 spos : Pos} {n : Nat} (FT : Fit w F g kk X) (S : ScOk X sc) (hNi : F.N[i]? = some x) (hNj : F.N[j]? = some y) (hli : locB sc x = true) (hlj : locB sc y = true) (hd : Dep.isFnP f F.deps[dp]? = true) (gl : Gl X f ∧ (f == ("__debug__" : Str)) = false ∧ f ≠ "__name__") (hs : noStars (e :: ys) = true) (ha : PA X (e :: ys) (rdA g w as)) :
    PS X (.Assign [.Tuple [.Name x p1, .Name y p2] n p3] (.Call (.Name f p4) (e :: ys) [] p5) spos) (rdS g w b (.asgP i j dp as)) := by
  have h2 : (!star e && noStars ys) = true := hs
  rw [Bool.and_eq_true] at h2
  have h3 : star e = false := by simpa using h2.1
  obtain ⟨l1, l2⟩ := locB_ok S hli
  obtain ⟨m1, m2⟩ := locB_ok S hlj
  cases hg : g[dp]? with
  | none => exact ⟨fun pins s sg H D I ⟨kap0, G0, H0, kap, G, st, δ, o, δ', st', hb, S, k, sl, h, q⟩ => by
      obtain ⟨⟨rs, s1⟩, h1, h⟩ := Option.bind_eq_some_iff.mp h
      simp only [hg] at h
      cases h⟩
  | some sem =>
    cases hD : F.deps[dp]? with
    | none => rw [hD] at hd; cases hd
    | some dq =>
      rw [hD] at hd
      cases dq with
      | fnP y0 =>
        have ey : y0 = f := eq_of_beq hd
        subst ey
        obtain ⟨fa, hm, hk, fd, ps, hb, FO⟩ := FT.deps dp _ _ hD hg (fun z => absurd z Bool.false_ne_true)
        refine PS.of (ps_asg (pe_call (E := fun _ _ _ => False) FO (FT.room.mono (Nat.le_add_right _ _)) gl.1 hm hk hb .nil (fun _ _ _ _ _ _ _ z => False.elim z) ha gl.2.1 (starEach_cons h3) (plain_trees h2.2))
          (pg_tup (n := 2) FT.calm (pgs_cons (pg_name (by rw [FT.N]; exact FT.nd) (i := i) (by rw [FT.N]; exact hNi) l1 l2) (pgs_cons (pg_name (by rw [FT.N]; exact FT.nd) (i := j) (by rw [FT.N]; exact hNj) m1 m2) pgs_nil rfl) rfl) rfl rfl)
          (sws_other fun _ _ z => nomatch z) (sst_2 fun _ _ _ z => nomatch z) rfl) fun D sg H ⟨kap0, G0, H0, kap, G, st, δ, o, δ', st', hb0, S0, k, sl, h, q⟩ => ?_
        obtain ⟨⟨rs, s1⟩, h1, h⟩ := Option.bind_eq_some_iff.mp h
        simp only [hg] at h
        obtain ⟨⟨d, s2⟩, h4, h⟩ := Option.bind_eq_some_iff.mp h
        have h4 := fstOf_some h4
        match d, h, h4 with
        | .tup [.lst xs, .lst zs], h, h4 =>
          cases h
          exact ⟨kap, G, st, δ, rs, s1, k, sl, h1, fun vs kap1 G1 H1 S k1 r => by
            show spP w sem (vs ++ []) H1 _ _
            rw [List.append_nil]
            refine ⟨kap1, G1, s1, rs, xs, zs, s2, k1, r, h4, fun t a c vs2 us2 kap2 G2 H2 S2 k2 ga ka hHa da h0a gc kc hHc dc h0c hne hT => ?_⟩
            obtain ⟨S3, k3, rc⟩ := Ok.cell S2 k2 gc kc hHc dc h0c
            obtain ⟨S4, k4, rd4⟩ := Ok.cell S3 k3 ga (fun m => (List.mem_append.mp m).elim ka fun m => hne (List.mem_singleton.mp m)) hHa da h0a
            have e5 : (s2 ++ [Cell.lst zs]).length = s2.length + 1 := by simp
            rw [e5] at rd4
            have sl4 := sl.mono (S.g.trans S4.g) (S.k.trans S4.k)
            exact ⟨t, [.ref a, .ref c], rfl, .of hT, rfl, .ref a, [.ref c], rfl, .ref c, [], rfl, rfl, q _ _ G2 H2 (S0.trans (S.trans S4)) (S.g.trans S4.g) k4 ((sl4.set rd4 i).set (rc.mono (Le.refl _) (List.prefix_append _ _)) j)⟩⟩
      | _ => cases hd
theorem s_asg2t {i j : Nat} {x y : Str} {es : CA} {a c : Expr} {px py pt pos : Pos} {kt k2 pt2} (FT : Fit w F g kk X) (S : ScOk X sc) (esc : X.env.scope = sc) (hk : sc.kind = .function) (hi : F.N[i]? = some x) (hj : F.N[j]? = some y) (hx : locB sc x = true) (hy : locB sc y = true) (ha : PA X [a, c] (rdA g w es))
    (hw : swStores sc [.Name x px, .Name y py] [a, c] = some none) : PS X (.Assign [.Tuple [.Name x px, .Name y py] kt pt] (.Tuple [a, c] k2 pt2) pos) (rdS g w b (.asg2 i j es)) := by
  obtain ⟨l1, l2⟩ := locB_ok S hx
  obtain ⟨m1, m2⟩ := locB_ok S hy
  refine PS.of (ps_asg (pe_tup ha) (pg_tup (n := 2) FT.calm (pgs_cons (pg_name (by rw [FT.N]; exact FT.nd) (i := i) (by rw [FT.N]; exact hi) l1 l2) (pgs_cons (pg_name (by rw [FT.N]; exact FT.nd) (i := j) (by rw [FT.N]; exact hj) m1 m2) pgs_nil rfl) rfl) rfl rfl)
    (sws_other fun _ _ z => nomatch z) (sst_tup (by rw [esc]; exact hk) (by rw [esc]; exact hw)) rfl) fun D sg H ⟨kap0, G0, H0, kap, G, st, δ, o, δ', st', hb0, S0, k, sl, h, q⟩ => ?_
  obtain ⟨⟨rs, s1⟩, h1, h2⟩ := Option.bind_eq_some_iff.mp h
  refine ⟨kap, G, st, δ, rs, s1, k, sl, h1, fun vs kap1 G1 H1 S1 k1 r => ?_⟩
  match rs, h2, r with
  | [r1, r2], h2, r =>
    cases h2
    cases r with
    | @cons _ v1 _ _ d1 t1 =>
      cases t1 with
      | @cons _ v2 _ _ d2 t2 =>
        cases t2
        refine ⟨by show 2 ≤ sizeLine; decide, fun p hp => ?_⟩
        obtain ⟨S2, k2⟩ := k1.side (o := .tup [v1, v2]) hp
        exact ⟨p, [v1, v2], rfl, .of upd_same, rfl, v1, [v2], rfl, v2, [], rfl, rfl, q _ kap1 G1 _ (S0.trans (S1.trans S2)) (S1.g.trans S2.g) k2 ((((sl.mono S1.g S1.k).mono S2.g S2.k).set (d1.mono S2.g S2.k) i).set (d2.mono S2.g S2.k) j)⟩
theorem s_expr {e : CE} {x : Expr} {p : Pos} (he : PE X x (rd g w e)) (hx : (!isComp x) = true) : PS X (.Expr x p) (rdS g w b (.expr e)) := PS.of (ps_expr he (sw_none hx)) fun D sg H ⟨kap0, G0, H0, kap, G, st, δ, o, δ', st', hb, S, k, sl, h, q⟩ => by
  obtain ⟨⟨d, s1⟩, h1, h2⟩ := Option.map_eq_some_iff.mp h
  cases h2
  exact ⟨kap, G, st, δ, d, _, k, sl, h1, fun v kap1 G1 H1 S1 k1 r => q _ kap1 G1 H1 (S.trans S1) S1.g k1 (sl.mono S1.g S1.k)⟩
end
end DL

set_option Elab.async false
set_option linter.all false
set_option autoImplicit false
set_option maxRecDepth 100000
set_option maxHeartbeats 1000000
namespace DL
open PySem L2 PySem.Spec PyProof.Rows

structure SD (X : Cx) (sc : Scope) : Prop where
  so : ScOk X sc
  esc : X.env.scope = sc
  hk : sc.kind = .function
  hp : PassesOwn (model X.prog X.w) X.A X.env X.xe
section
variable {w : Wd} {g : List DSem} {kk : Nat} {b : Nat}
theorem plain_st {F : Fx} {X : Cx} {sc : Scope} {tg : CT} {e : CE} {t x : Expr} {p : Pos} (FT : Fit w F g kk X) (S : SD X sc) (hT : chkT F.N sc tg t = true) (he : PE X x (rd g w e)) (hs : plainStore sc t x = true) : PS X (.Assign [t] x p) (rdS g w b (.asg tg e)) := by
  have hk : X.env.scope.kind = .function := by rw [S.esc]; exact S.hk
  cases t with
  | Name y py =>
    simp only [plainStore, Bool.and_eq_true] at hs
    refine s_asgG he (snd_T FT S.so tg _ hT) ?_ (sst_1 (fun _ _ _ z => nomatch z) fun _ _ z => nomatch z) rfl
    show swapsWith x (some (.Name y py)) p.line X.env = pure false
    rw [sw_name hk hs.2, S.esc]
    have : swName sc x y py = false := by simpa using hs.1
    rw [this]
  | Tuple ts n q =>
    refine s_asgG he (snd_T FT S.so tg _ hT) (sws_other fun _ _ z => nomatch z) ?_ rfl
    cases x with
    | Tuple vs k2 p2 =>
      simp only [plainStore] at hs
      split at hs
      · rename_i hh
        exact sst_tup hk (by rw [S.esc]; exact hh)
      · cases hs
    | _ => exact sst_2 fun _ _ _ z => nomatch z
  | _ => cases hs
theorem lc_st {F : Fx} {X : Cx} {sc : Scope} {tg : CT} {e : CE} {y : Str} {py p : Pos} {x : Expr} (FT : Fit w F g kk X) (S : SD X sc) (hT : chkT F.N sc tg (.Name y py) = true) (hc : chk F false sc e x = true) (hs : (match x with | .ListComp _ _ _ _ => swName sc x y py | _ => false) = true) : PS X (.Assign [.Name y py] x p) (rdS g w b (.asg tg e)) := by
  cases tg with
  | nm i =>
    simp only [chkT, Bool.and_eq_true] at hT
    have hN := of_decide_eq_true hT.1
    cases x with
    | ListComp e' gs scope p' =>
      have hs : swName sc (.ListComp e' gs scope p') y py = true := hs
      cases e with
      | comp elt tg it cnd own =>
        simp only [chk] at hc
        split at hc
        · rename_i e1 t i fs sc1 hv
          obtain ⟨q, hq⟩ := vComp_ok hv
          cases hq
          simp only [Bool.and_eq_true] at hc
          obtain ⟨⟨⟨⟨⟨⟨h1, h2⟩, h3⟩, h4⟩, h5⟩, h6⟩, h7⟩ := hc
          have h3 : itTp it = true → isTp tg = true := fun z => by simpa [z] using h3
          have ht : isTp tg = true → isTupE t = true := fun z => by
            cases tg <;> first | cases z | skip
            cases t <;> first | rfl | cases h5
          refine s_asgLc FT S.so S.esc S.hk hN hs ((snd it F X sc FT S.so).2.1 i t h1 (fun z => ht (h3 z))) h2 h3 h4 h5 (fun X' F' S' => ?_) (fun X' F' S' => (snd elt F X' _ F' S').1 _ h7)
          split at h6
          · have ec : cnd = .yes := by cases cnd <;> first | rfl | cases h6
            rw [ec]
            exact rts_nil
          · simp only [Bool.and_eq_true] at h6
            exact pts_one ((snd cnd F X' _ F' S').2.2 _ h6.1 h6.2).1
          · cases h6
        · cases hc
      | comp2 elt tg it cnd tg1 it1 cnd1 own own1 =>
        simp only [chk] at hc
        split at hc
        · rename_i e1 t i fs sc1 t1 i1 fs1 hv
          obtain ⟨q, hq⟩ := vComp2_ok hv
          cases hq
          simp only [Bool.and_eq_true] at hc
          obtain ⟨⟨⟨⟨⟨⟨⟨⟨⟨⟨⟨⟨⟨h1, h2⟩, h3⟩, h4⟩, h5⟩, h6⟩, h7⟩, h8⟩, h9⟩, h10⟩, h11⟩, h12⟩, h13⟩, h14⟩ := hc
          have h3 : itTp it = true → isTp tg = true := fun z => by simpa [z] using h3
          have h10 : itTp it1 = true → isTp tg1 = true := fun z => by simpa [z] using h10
          have ht : isTp tg = true → isTupE t = true := fun z => by
            cases tg <;> first | cases z | skip
            cases t <;> first | rfl | cases h6
          have ht1 : isTp tg1 = true → isTupE t1 = true := fun z => by
            cases tg1 <;> first | cases z | skip
            cases t1 <;> first | rfl | cases h12
          refine s_asgLc2 FT S.so S.esc S.hk hN hs ((snd it F X sc FT S.so).2.1 i t h1 (fun z => ht (h3 z))) h2 h3 h4 (fun j hj => ?_) h6 (fun X' F' S' => ?_) (fun X' F' S' => (snd it1 F X' _ F' S').2.1 i1 t1 h8 (fun z => ht1 (h10 z))) h9 h10 (fun j hj => ?_) h12 (fun X' F' S' => ?_) (fun X' F' S' => (snd elt F X' _ F' S').1 _ h14)
          · have := List.all_eq_true.mp h5 j hj
            simpa using this
          · split at h7
            · have ec : cnd = .yes := by cases cnd <;> first | rfl | cases h7
              rw [ec]
              exact rts_nil
            · simp only [Bool.and_eq_true] at h7
              exact pts_one ((snd cnd F X' _ F' S').2.2 _ h7.1 h7.2).1
            · cases h7
          · have := List.all_eq_true.mp h11 j hj
            simpa using this
          · split at h13
            · have ec : cnd1 = .yes := by cases cnd1 <;> first | rfl | cases h13
              rw [ec]
              exact rts_nil
            · simp only [Bool.and_eq_true] at h13
              exact pts_one ((snd cnd1 F X' _ F' S').2.2 _ h13.1 h13.2).1
            · cases h13
        · cases hc
      | nev => exact ⟨fun pins s sg H D I ⟨kap0, G0, H0, kap, G, st, δ, o, δ', st', hb, S, k, sl, h, q⟩ => by
          obtain ⟨_, h1, _⟩ := Option.bind_eq_some_iff.mp h
          cases h1⟩
      | _ => simp [chk, vName, vBin, vNeg, vCmp, vChain, vOne, vAnd, vOr, vNot, vIf, vTup, vLst, vLstS, vCall, vMeth, vAttr, vSub, vSlc, vRev, vLam, vSortK] at hc
    | _ => cases hs
  | _ => cases hT
theorem lc_stC {F : Fx} {X : Cx} {sc : Scope} {i : Nat} {e : CE} {y : Str} {py p : Pos} {x : Expr} (FT : Fit w F g kk X) (S : SD X sc) (hN : F.N[i]? = some y) (hf : isFresh e = true) (hs : (match x with | .ListComp _ _ _ _ => swName sc x y py | _ => false) = true) (hc : chk F false sc e x = true) : PS X (.Assign [.Name y py] x p) (rdS g w b (.asgC i e)) := by
  cases x with
  | ListComp e' gs scope p' =>
    have hs : swName sc (.ListComp e' gs scope p') y py = true := hs
    cases e with
    | comp elt tg it cnd own =>
      simp only [chk] at hc
      split at hc
      · rename_i e1 t i0 fs sc1 hv
        obtain ⟨q, hq⟩ := vComp_ok hv
        cases hq
        simp only [Bool.and_eq_true] at hc
        obtain ⟨⟨⟨⟨⟨⟨h1, h2⟩, h3⟩, h4⟩, h5⟩, h6⟩, h7⟩ := hc
        have h3 : itTp it = true → isTp tg = true := fun z => by simpa [z] using h3
        have ht : isTp tg = true → isTupE t = true := fun z => by
          cases tg <;> first | cases z | skip
          cases t <;> first | rfl | cases h5
        refine s_asgLcC FT S.so S.esc S.hk hN hs ((snd it F X sc FT S.so).2.1 i0 t h1 (fun z => ht (h3 z))) h2 h3 h4 h5 (fun X' F' S' => ?_) (fun X' F' S' => (snd elt F X' _ F' S').1 _ h7)
        split at h6
        · have ec : cnd = .yes := by cases cnd <;> first | rfl | cases h6
          rw [ec]
          exact rts_nil
        · simp only [Bool.and_eq_true] at h6
          exact pts_one ((snd cnd F X' _ F' S').2.2 _ h6.1 h6.2).1
        · cases h6
      · cases hc
    | lst es => simp [chk, vLst] at hc
    | blt bb as => simp [chk, vCall] at hc
    | bin o a c => simp [chk, vBin] at hc
    | _ => cases hf
  | _ => cases hs
mutual
theorem sndS {F : Fx} {X : Cx} {sc : Scope} (FT : Fit w F g kk X) (S : SD X sc) : ∀ (cs : CS) (st : Stmt), chkS F sc cs st = true → PS X st (rdS g w b cs)
  | .never, st, h => s_never
  | .pass, st, h => by
    simp only [chkS] at h
    split at h
    · exact s_pass
    · cases h
  | .asg tg e, st, h => by
    simp only [chkS] at h
    split at h
    · rename_i t x p
      simp only [Bool.and_eq_true, Bool.or_eq_true] at h
      obtain ⟨⟨h1, h2⟩, h3⟩ := h
      rcases h3 with h3 | h3
      · exact plain_st FT S h1 ((snd e F X sc FT S.so).1 _ h2) h3
      · cases t with
        | Name y py => exact lc_st FT S h1 h2 (by
            cases x <;> first | cases h3 | skip
            exact h3)
        | _ => cases h3
    · cases h
  | .asg2 i j es, st, h => by
    simp only [chkS] at h
    split at h
    · simp only [Bool.and_eq_true] at h
      obtain ⟨⟨⟨⟨h1, h2⟩, h3⟩, h6⟩, h⟩ := h
      rw [Bool.or_eq_true] at h
      rcases h with h | h
      · simp only [Bool.and_eq_true] at h
        exact s_asg2 FT S.esc S.hk (of_decide_eq_true h1) (of_decide_eq_true h2) (of_decide_eq_true h3) h.1.1 h.1.2 (sndA es F X sc FT S.so _ h6).1 (of_decide_eq_true h.2)
      · simp only [Bool.and_eq_true] at h
        exact s_asg2t FT S.so S.esc S.hk (of_decide_eq_true h1) (of_decide_eq_true h2) h.1.1 h.1.2 (sndA es F X sc FT S.so _ h6).1 (of_decide_eq_true h.2)
    · cases h
  | .asgC i e, st, h => by
    simp only [chkS] at h
    split at h
    · rename_i x p y sp
      simp only [Bool.and_eq_true, Bool.or_eq_true] at h
      obtain ⟨⟨⟨⟨h1, h2⟩, h3⟩, h4⟩, h5⟩ := h
      have hk : X.env.scope.kind = .function := by rw [S.esc]; exact S.hk
      rcases h5 with h5 | h5
      · simp only [plainStore, Bool.and_eq_true] at h5
        refine s_asgC FT S.so (of_decide_eq_true h1) h2 (rf_any FT S.so h3 h4) ?_
        show swapsWith y (some (.Name x p)) sp.line X.env = pure false
        rw [sw_name hk h5.2, S.esc]
        have : swName sc y x p = false := by simpa using h5.1
        rw [this]
      · exact lc_stC FT S (of_decide_eq_true h1) h3 (by
          cases y <;> first | cases h5 | skip
          exact h5) h4
    · cases h
  | .setC i ix e, st, h => by
    simp only [chkS] at h
    split at h
    · simp only [Bool.and_eq_true] at h
      obtain ⟨⟨⟨⟨h1, h2⟩, h3⟩, h4⟩, h5⟩ := h
      exact s_setC FT S.so (of_decide_eq_true h1) h2 ((snd ix F X sc FT S.so).1 _ h3) ((snd e F X sc FT S.so).1 _ h4) h5
    · cases h
  | .asgX i ix j e, st, h => by
    simp only [chkS] at h
    split at h
    · rename_i x p1 y p2 u p3 n p4 z sp
      simp only [Bool.and_eq_true] at h
      obtain ⟨⟨⟨⟨⟨⟨⟨⟨h1, h2⟩, h3⟩, h4⟩, h5⟩, h6⟩, h7⟩, h8⟩, h9⟩ := h
      exact s_asgX FT S.so (of_decide_eq_true h1) h2 ((snd ix F X sc FT S.so).1 _ h3) h4 (of_decide_eq_true h5) h6 ((snd e F X sc FT S.so).1 _ h7) (fun a b c q => by subst q; cases h9)
    · cases h
  | .appC i e, st, h => by
    simp only [chkS] at h
    split at h
    · simp only [Bool.and_eq_true] at h
      obtain ⟨⟨⟨⟨⟨h1, h2⟩, h3⟩, h4⟩, h5⟩, h6⟩ := h
      have e1 := eq_of_beq h1
      subst e1
      exact s_appC FT S.so (of_decide_eq_true h2) h3 ((snd e F X sc FT S.so).1 _ h4) (nstar h5) h6
    · cases h
  | .expr e, st, h => by
    simp only [chkS] at h
    split at h
    · simp only [Bool.and_eq_true] at h
      exact s_expr ((snd e F X sc FT S.so).1 _ h.1.1) h.1.2
    · cases h
  | .ite t a c, st, h => by
    simp only [chkS] at h
    split at h
    · simp only [Bool.and_eq_true] at h
      obtain ⟨⟨⟨h1, h2⟩, h3⟩, h4⟩ := h
      exact s_ite ((snd t F X sc FT S.so).2.2 _ h1 h2).1 (sndSs FT S a _ h3) (sndSs FT S c _ h4)
    · cases h
  | .for_ tg it body, st, h => by
    simp only [chkS] at h
    split at h
    · rename_i t i ss p
      simp only [Bool.and_eq_true] at h
      obtain ⟨⟨⟨⟨h1, h2⟩, h3⟩, h4⟩, h5⟩ := h
      have h3 : itTp it = true → isTp tg = true := fun z => by simpa [z] using h3
      have ht : isTp tg = true → isTupE t = true := fun z => by
        cases tg <;> first | cases z | skip
        cases t <;> first | rfl | cases h4
      exact s_for FT S.hp ((snd it F X sc FT S.so).2.1 i t h1 (fun z => ht (h3 z))) h3 (snd_T FT S.so tg t h4) (sndSs FT S body _ h5) h2
    · cases h
  | .whl m t body, st, h => by
    simp only [chkS] at h
    split at h
    · simp only [Bool.and_eq_true] at h
      exact s_whl S.hp ((snd t F X sc FT S.so).2.2 _ h.1.1 h.1.2).1 (sndSs FT S body _ h.2)
    · cases h
  | .ret e, st, h => by
    simp only [chkS] at h
    split at h
    · exact s_ret ((snd e F X sc FT S.so).1 _ h)
    · cases h
  | .retP i j, st, h => by
    simp only [chkS] at h
    split at h
    · exact s_retP (sndA _ F X sc FT S.so _ h).1
    · cases h
  | .asgP i j dp as, st, h => by
    simp only [chkS] at h
    split at h
    · rename_i x px y py n p z sp
      split at h
      · rename_i f ys hv
        obtain ⟨q, p, rfl⟩ := vCall_ok hv
        simp only [Bool.and_eq_true] at h
        obtain ⟨⟨⟨⟨⟨⟨⟨⟨h1, h2⟩, h3⟩, h4⟩, h5⟩, h6⟩, h7⟩, h8⟩, h9⟩ := h
        obtain ⟨z1, z2⟩ := sndA as F X sc FT S.so _ h7
        obtain ⟨e, l, rfl⟩ := ne_cons h8
        exact s_asgP FT S.so (of_decide_eq_true h1) (of_decide_eq_true h2) h3 h4 h5 (glB_ok S.so h6) h9 z1
      · cases h
    · cases h
  | .retF e, st, h => by
    simp only [chkS] at h
    split at h
    · rw [Bool.and_eq_true] at h
      exact s_retF (rf_any FT S.so h.2 h.1)
    · cases h
  | .retN, st, h => by
    simp only [chkS] at h
    split at h
    · exact s_retN
    · cases h
  | .brk, st, h => by
    simp only [chkS] at h
    split at h
    · exact s_brk
    · cases h
  | .cnt, st, h => by
    simp only [chkS] at h
    split at h
    · exact s_cnt
    · cases h
  | .skip, st, h => by simp only [chkS] at h; cases h
  | .seq _ _, st, h => by simp only [chkS] at h; cases h
  | .gho _ _, st, h => by simp only [chkS] at h; cases h
  | .asg3 i j l es, st, h => by
    simp only [chkS] at h
    split at h
    · simp only [Bool.and_eq_true] at h
      obtain ⟨⟨⟨⟨⟨⟨⟨⟨⟨⟨h1, h2⟩, h3⟩, n1⟩, n2⟩, n3⟩, h4⟩, h5⟩, h6⟩, h7⟩, h8⟩ := h
      exact s_asg3 FT S.esc S.hk (of_decide_eq_true h1) (of_decide_eq_true h2) (of_decide_eq_true h3) (of_decide_eq_true n1) (of_decide_eq_true n2) (of_decide_eq_true n3) h4 h5 h6 (sndA es F X sc FT S.so _ h7).1 (of_decide_eq_true h8)
    · cases h
  | .asgD _ _ _, st, h => by simp only [chkS] at h; cases h
  | .setD _ _ _, st, h => by simp only [chkS] at h; cases h
theorem sndSs {F : Fx} {X : Cx} {sc : Scope} (FT : Fit w F g kk X) (S : SD X sc) : ∀ (cs : CS) (ss : List Stmt), chkSs F sc cs ss = true → PSs X ss (rdS g w b cs)
  | .skip, ss, h => by
    simp only [chkSs] at h
    cases ss with
    | nil => exact ss_skip
    | cons _ _ => cases h
  | .seq a c, ss, h => by
    simp only [chkSs] at h
    split at h
    · rw [Bool.and_eq_true] at h
      exact ss_seq (sndS FT S a _ h.1) (sndSs FT S c _ h.2)
    · cases h
  | .gho i r, ss, h => by
    simp only [chkSs] at h
    exact ss_gho (sndSs FT S r _ h)
  | .never, ss, h => ss_never
  | .pass, ss, h => by simp [chkSs] at h
  | .asg _ _, ss, h => by simp [chkSs] at h
  | .asg2 _ _ _, ss, h => by simp [chkSs] at h
  | .asgC _ _, ss, h => by simp [chkSs] at h
  | .setC _ _ _, ss, h => by simp [chkSs] at h
  | .asgX _ _ _ _, ss, h => by simp [chkSs] at h
  | .appC _ _, ss, h => by simp [chkSs] at h
  | .expr _, ss, h => by simp [chkSs] at h
  | .ite _ _ _, ss, h => by simp [chkSs] at h
  | .for_ _ _ _, ss, h => by simp [chkSs] at h
  | .whl _ _ _, ss, h => by simp [chkSs] at h
  | .ret _, ss, h => by simp [chkSs] at h
  | .retF _, ss, h => by simp [chkSs] at h
  | .retP _ _, ss, h => by simp [chkSs] at h
  | .asgP _ _ _ _, ss, h => by simp [chkSs] at h
  | .retN, ss, h => by simp [chkSs] at h
  | .brk, ss, h => by simp [chkSs] at h
  | .cnt, ss, h => by simp [chkSs] at h
  | .asg3 _ _ _ _, ss, h => by simp [chkSs] at h
  | .asgD _ _ _, ss, h => by simp [chkSs] at h
  | .setD _ _ _, ss, h => by simp [chkSs] at h
end
end

theorem start_slots {w : Wd} {kap : List Addr} {G : Hp} {rs : List R} {vs : List V} {N : List Str} (h : DenRs w kap G rs vs) : Slots w kap G (rs.map some ++ List.replicate (N.length - rs.length) none) (L2.start N vs) := by
  have hl := h.length
  unfold L2.start
  rw [hl]
  refine ⟨by simp [hl], fun i d e => ?_⟩
  have key : ∀ {rs : List R} {vs : List V}, DenRs w kap G rs vs → ∀ (i : Nat) d, (rs.map some)[i]? = some (some d) → ∃ v, (vs.map some)[i]? = some (some v) ∧ DenR w kap G d v := by
    intro rs vs h
    induction h with
    | nil => intro i d e; simp at e
    | @cons r v rs vs hr ht ih =>
      intro i d e
      cases i with
      | zero =>
        have e1 : r = d := by simpa using e
        subst e1
        exact ⟨v, rfl, hr⟩
      | succ i =>
        obtain ⟨u, h1, h2⟩ := ih i d (by simpa using e)
        exact ⟨u, by simpa using h1, h2⟩
  by_cases q : i < rs.length
  · rw [List.getElem?_append_left (by simpa using q)] at e
    obtain ⟨v, h1, h2⟩ := key h i d e
    exact ⟨v, by rw [List.getElem?_append_left (by simp; omega)]; exact h1, h2⟩
  · rw [List.getElem?_append_right (by simpa using Nat.le_of_not_lt q)] at e
    rw [List.getElem?_replicate] at e
    split at e <;> cases e
section
variable {P : Program} {wd : World} {w : Wd} {mg : Str → Option Value} {base : Heap} {k kk : Nat} {f : Addr} {name qual : Str} {params : Arguments} {body : List Stmt} {scope : Scope} {dV kV doc pm cdv ct oc : Value} {an od : Option Addr} {osl : Array (Option Value)} {N ps : List Str} {F : Fx} {g : List DSem} {cs : CS}
theorem sd_of {A : Around} {outer : List Env} {s : Shared} {H : Hp} {E : XK} (S : FnScope N ps scope) : SD (cxOf CX0 P wd w.K mg base N qual scope f cdv A outer s H E) scope :=
  ⟨⟨fun x k _ h => h, fun x h => .inl h, fun x h => rfl⟩, rfl, S.kind, passes_of (K := fun _ _ => False) (E₁ := fun _ _ => False) rfl⟩
theorem fn_run (lk : w.K.lookup f = some ⟨oc, od, .func (PySem.W.fnOf name qual params body scope dV kV doc pm an cdv ct), osl⟩) (hcd : PySem.W.codeIn w.K cdv qual = true) (S : FnScope N ps scope)
    (FT : ∀ (A : Around) (outer : List Env) (s : Shared) (H : Hp) (E : XK), Room k (A.deeper (envOfC qual scope s.heap.objs.size f cdv)) → Fit w F g kk (cxOf CX0 P wd w.K mg base N qual scope f cdv A outer s H E)) (hc : chkSs F scope cs body = true) :
    FnOk P wd w.K mg base CX0 (k + 1) f (PySem.W.fnOf name qual params body scope dV kV doc pm an cdv ct) ps (spD w (run g w.flds ps.length N.length cs)) := by
  refine fn_of lk hcd S (fun vs H Q E ⟨kap, G, st, rs, r, st', hk, hd, hs, _⟩ => ?_) (fun A outer s H vs Q E hr ⟨kap, G, st, rs, r, st', hk, hd, hs, q⟩ => ?_)
  · obtain ⟨h1, _⟩ := if_someB (show (if rs.length = ps.length then _ else none) = some (r, st') from hs)
    rw [← hd.length]; exact h1
  · obtain ⟨h1, h2⟩ := if_someB (show (if rs.length = ps.length then (ex g w.flds st.length cs (rs.map some ++ List.replicate (N.length - rs.length) none) st).bind (fun p => match p.1 with
      | .nx => some (.d .non, p.2.2.take st.length)
      | .rt (.d d) => some (.d d, p.2.2.take st.length)
      | _ => none) else none) = some (r, st') from hs)
    obtain ⟨⟨o, δ', st2⟩, h3, h4⟩ := Option.bind_eq_some_iff.mp h2
    refine ⟨_, sndSs (FT A outer s H E hr) (sd_of S) cs body hc, kap, G, H, kap, G, st, _, o, δ', st2, hk.len, Step.refl, hk, start_slots hd, h3, ?_⟩
    have hl := hk.len
    cases o with
    | nx =>
      cases h4
      exact fun sg kap' G' H' S' le k' sl' => q .non kap G' H' S'.cut (by rw [← hl]; exact k'.cut S'.k) .non
    | rt r0 =>
      cases r0 with
      | d d =>
        cases h4
        exact fun v kap' G' H' S' k' r' => q v kap G' H' S'.cut (by rw [← hl]; exact k'.cut S'.k) r'
      | c _ => cases h4
    | bk => cases h4
    | ct => cases h4
    | rf _ => cases h4
    | rp _ _ => cases h4
theorem fn_runG (lk : w.K.lookup f = some ⟨oc, od, .func (PySem.W.fnOf name qual params body scope dV kV doc pm an cdv ct), osl⟩) (hcd : PySem.W.codeIn w.K cdv qual = true) (S : FnScope N ps scope)
    (FT : ∀ (A : Around) (outer : List Env) (s : Shared) (H : Hp) (E : XK), Quiet (A.deeper (envOfC qual scope s.heap.objs.size f cdv)) → Room k (A.deeper (envOfC qual scope s.heap.objs.size f cdv)) → Fit w F g kk (cxOf CX0 P wd w.K mg base N qual scope f cdv A outer s H E)) (hc : chkSs F scope cs body = true) :
    FnG P wd w.K mg base CX0 (k + 1) f (PySem.W.fnOf name qual params body scope dV kV doc pm an cdv ct) ps (spD w (run g w.flds ps.length N.length cs)) := by
  refine fn_ofG lk hcd S (fun vs H Q E ⟨kap, G, st, rs, r, st', hk, hd, hs, _⟩ => ?_) (fun A outer s H vs Q E hgd hr ⟨kap, G, st, rs, r, st', hk, hd, hs, q⟩ => ?_)
  · obtain ⟨h1, _⟩ := if_someB (show (if rs.length = ps.length then _ else none) = some (r, st') from hs)
    rw [← hd.length]; exact h1
  · obtain ⟨h1, h2⟩ := if_someB (show (if rs.length = ps.length then (ex g w.flds st.length cs (rs.map some ++ List.replicate (N.length - rs.length) none) st).bind (fun p => match p.1 with
      | .nx => some (.d .non, p.2.2.take st.length)
      | .rt (.d d) => some (.d d, p.2.2.take st.length)
      | _ => none) else none) = some (r, st') from hs)
    obtain ⟨⟨o, δ', st2⟩, h3, h4⟩ := Option.bind_eq_some_iff.mp h2
    refine ⟨_, sndSs (FT A outer s H E hgd hr) (sd_of S) cs body hc, kap, G, H, kap, G, st, _, o, δ', st2, hk.len, Step.refl, hk, start_slots hd, h3, ?_⟩
    have hl := hk.len
    cases o with
    | nx =>
      cases h4
      exact fun sg kap' G' H' S' le k' sl' => q .non kap G' H' S'.cut (by rw [← hl]; exact k'.cut S'.k) .non
    | rt r0 =>
      cases r0 with
      | d d =>
        cases h4
        exact fun v kap' G' H' S' k' r' => q v kap G' H' S'.cut (by rw [← hl]; exact k'.cut S'.k) r'
      | c _ => cases h4
    | bk => cases h4
    | ct => cases h4
    | rf _ => cases h4
    | rp _ _ => cases h4
theorem fn_runF (lk : w.K.lookup f = some ⟨oc, od, .func (PySem.W.fnOf name qual params body scope dV kV doc pm an cdv ct), osl⟩) (hcd : PySem.W.codeIn w.K cdv qual = true) (S : FnScope N ps scope)
    (FT : ∀ (A : Around) (outer : List Env) (s : Shared) (H : Hp) (E : XK), Room k (A.deeper (envOfC qual scope s.heap.objs.size f cdv)) → Fit w F g kk (cxOf CX0 P wd w.K mg base N qual scope f cdv A outer s H E)) (hc : chkSs F scope cs body = true) :
    FnOk P wd w.K mg base CX0 (k + 1) f (PySem.W.fnOf name qual params body scope dV kV doc pm an cdv ct) ps (spF w (runF g w.flds ps.length N.length cs)) := by
  refine fn_of lk hcd S (fun vs H Q E ⟨kap, G, st, rs, r, st', hk, hd, hs, _⟩ => ?_) (fun A outer s H vs Q E hr ⟨kap, G, st, rs, xs, st', hk, hd, hs, q⟩ => ?_)
  · obtain ⟨h1, _⟩ := if_someB (show (if rs.length = ps.length then _ else none) = some (R.d (.lst r), st') from hs)
    rw [← hd.length]; exact h1
  · obtain ⟨h1, h2⟩ := if_someB (show (if rs.length = ps.length then (ex g w.flds st.length cs (rs.map some ++ List.replicate (N.length - rs.length) none) st).bind (fun p => match p.1 with
      | .rf xs => some (.d (.lst xs), p.2.2.take st.length)
      | _ => none) else none) = some (R.d (.lst xs), st') from hs)
    obtain ⟨⟨o, δ', st2⟩, h3, h4⟩ := Option.bind_eq_some_iff.mp h2
    refine ⟨_, sndSs (FT A outer s H E hr) (sd_of S) cs body hc, kap, G, H, kap, G, st, _, o, δ', st2, hk.len, Step.refl, hk, start_slots hd, h3, ?_⟩
    have hl := hk.len
    cases o with
    | rf ys =>
      cases h4
      exact fun a vs kap' G' H' S' k' ga ka hH da h0 => q a vs kap G' H' S'.cut (by rw [← hl]; exact k'.cut S'.k) ga (fun m => ka (S'.k.subset m)) hH da h0
    | rt r0 => cases r0 <;> cases h4
    | nx => cases h4
    | bk => cases h4
    | ct => cases h4
    | rp _ _ => cases h4
theorem fn_runP (lk : w.K.lookup f = some ⟨oc, od, .func (PySem.W.fnOf name qual params body scope dV kV doc pm an cdv ct), osl⟩) (hcd : PySem.W.codeIn w.K cdv qual = true) (S : FnScope N ps scope)
    (FT : ∀ (A : Around) (outer : List Env) (s : Shared) (H : Hp) (E : XK), Room k (A.deeper (envOfC qual scope s.heap.objs.size f cdv)) → Fit w F g kk (cxOf CX0 P wd w.K mg base N qual scope f cdv A outer s H E)) (hc : chkSs F scope cs body = true) :
    FnOk P wd w.K mg base CX0 (k + 1) f (PySem.W.fnOf name qual params body scope dV kV doc pm an cdv ct) ps (spP w (runP g w.flds ps.length N.length cs)) := by
  refine fn_of lk hcd S (fun vs H Q E ⟨kap, G, st, rs, r, r2, st', hk, hd, hs, _⟩ => ?_) (fun A outer s H vs Q E hr ⟨kap, G, st, rs, xs, ys, st', hk, hd, hs, q⟩ => ?_)
  · obtain ⟨h1, _⟩ := if_someB (show (if rs.length = ps.length then _ else none) = some (R.d (.tup [.lst r, .lst r2]), st') from hs)
    rw [← hd.length]; exact h1
  · obtain ⟨h1, h2⟩ := if_someB (show (if rs.length = ps.length then (ex g w.flds st.length cs (rs.map some ++ List.replicate (N.length - rs.length) none) st).bind (fun p => match p.1 with
      | .rp xs ys => some (.d (.tup [.lst xs, .lst ys]), p.2.2.take st.length)
      | _ => none) else none) = some (R.d (.tup [.lst xs, .lst ys]), st') from hs)
    obtain ⟨⟨o, δ', st2⟩, h3, h4⟩ := Option.bind_eq_some_iff.mp h2
    refine ⟨_, sndSs (FT A outer s H E hr) (sd_of S) cs body hc, kap, G, H, kap, G, st, _, o, δ', st2, hk.len, Step.refl, hk, start_slots hd, h3, ?_⟩
    have hl := hk.len
    cases o with
    | rp ys0 zs0 =>
      cases h4
      exact fun t a c vs us G' H' S' k' ga ka hH da h0 gc kc hHc dc h0c hne hT => q t a c vs us kap G' H' S' (by rw [← hl]; exact k') ga ka hH da h0 gc kc hHc dc h0c hne hT
    | rt r0 => cases r0 <;> cases h4
    | nx => cases h4
    | bk => cases h4
    | ct => cases h4
    | rf _ => cases h4
end
end DL

set_option Elab.async false
set_option linter.all false
set_option autoImplicit false
set_option maxRecDepth 100000
set_option maxHeartbeats 1000000
namespace DL
open PySem L2 PySem.Spec PyProof.Rows

abbrev N0 : List Str := ["self", "places", "wrong"]
abbrev P0 : List Str := ["self", "places"]
theorem never_ss {X : Cx} {ss : List Stmt} : PSs X ss (fun _ _ _ => False) := ⟨fun _ _ _ _ _ _ h => h.elim⟩
section
variable {P : Program} {wd : World} {w : Wd} {mg : Str → Option Value} {base : Heap} {k kk : Nat} {f : Addr} {name qual : Str} {params : Arguments} {scope : Scope} {dV kV doc pm cdv ct oc : Value} {an od : Option Addr} {osl : Array (Option Value)} {F : Fx} {g : List DSem} {t1 e2 t3 e5 : CE}
theorem fn_init {x1 x2 x3 x5 : Expr} {r1 r3 : List Stmt} {p1 p2 p3 p4 p5 q2 q4 q5 n4 n5 v4 : Pos} {fa fb : Str} (hfl : w.flds 0 = [fa, fb]) (hne : fa ≠ fb)
    (lk : w.K.lookup f = some ⟨oc, od, .func (PySem.W.fnOf name qual params [.If x1 r1 [] p1, .Assign [.Name "wrong" q2] x2 p2, .If x3 r3 [] p3, .Assign [.Attribute (.Name "self" n4) fa q4] (.Name "places" v4) p4, .Assign [.Attribute (.Name "self" n5) fb q5] x5 p5] scope dV kV doc pm an cdv ct), osl⟩)
    (hcd : PySem.W.codeIn w.K cdv qual = true) (S : FnScope N0 P0 scope) (hFN : F.N = N0) (hself : locB scope "self" = true) (hpl : locB scope "places" = true) (hwr : locB scope "wrong" = true)
    (FT : ∀ (A : Around) (outer : List Env) (s : Shared) (H : Hp) (E : XK), Room k (A.deeper (envOfC qual scope s.heap.objs.size f cdv)) → Fit w F g kk (cxOf CX0 P wd w.K mg base N0 qual scope f cdv A outer s H E))
    (c1 : chk F false scope t1 x1 = true) (c1' : tstOk t1 x1 = true) (c2 : chk F false scope e2 x2 = true) (c3 : chk F false scope t3 x3 = true) (c3' : tstOk t3 x3 = true) (c5 : chk F false scope e5 x5 = true)
    (hs2 : plainStore scope (.Name "wrong" q2) x2 = true) (hs5 : isComp x5 = false) :
    FnOk P wd w.K mg base CX0 (k + 1) f (PySem.W.fnOf name qual params [.If x1 r1 [] p1, .Assign [.Name "wrong" q2] x2 p2, .If x3 r3 [] p3, .Assign [.Attribute (.Name "self" n4) fa q4] (.Name "places" v4) p4, .Assign [.Attribute (.Name "self" n5) fb q5] x5 p5] scope dV kV doc pm an cdv ct) P0 (spI w 0 (initD g w.flds t1 e2 t3 e5)) := by
  refine fn_of lk hcd S (fun vs H Q E ⟨x, dx, us, H0, kap, G, st, rs, d, st', ev, _, _, _, _, _, hd, hs, _⟩ => ?_) (fun A outer s H vs Q E hr ⟨x, dx, us, H0, kap, G, st, rs, d, st', evs, eH, hx, hdx, hne2, hk, hd, hs, q⟩ => ?_)
  · subst ev
    cases rs with
    | nil => cases hs
    | cons r rs =>
      cases rs with
      | nil =>
        have := hd.length
        simp at this ⊢
        omega
      | cons _ _ => cases r <;> cases hs
  · have FT0 := FT A outer s H E hr
    have sd : SD (cxOf CX0 P wd w.K mg base N0 qual scope f cdv A outer s H E) scope := sd_of S
    have hkf : (cxOf CX0 P wd w.K mg base N0 qual scope f cdv A outer s H E).env.scope.kind = .function := S.kind
    have vs0 := locB_ok sd.so hself
    have vs1 := locB_ok sd.so hpl
    have vs2 := locB_ok sd.so hwr
    have vv : ∀ {X : Cx} {y : Str}, Loc X.env.scope y → Vis X.env.scope y := fun h => h.elim .inl fun h => .inr (.inl h)
    have nd : N0.Nodup := S.nd
    have hs2' := hs2
    simp only [plainStore, Bool.and_eq_true] at hs2'
    refine ⟨_, pss_cons (ps_if (((snd t1 F _ scope FT0 sd.so).2.2 x1 c1 c1').1) never_ss pss_nil) (pss_cons (ps_set (i := 2) nd rfl vs2.1 ((snd e2 F _ scope FT0 sd.so).1 x2 c2) (by
        show swapsWith x2 (some (.Name "wrong" q2)) p2.line _ = pure false
        rw [sw_name hkf hs2'.2]
        show pure (swName scope x2 "wrong" q2) = pure false
        have : swName scope x2 "wrong" q2 = false := by simpa using hs2'.1
        rw [this]))
      (pss_cons (ps_if (((snd t3 F _ scope FT0 sd.so).2.2 x3 c3 c3').1) never_ss pss_nil) (pss_cons (ps_fld (pe_var (i := 0) rfl (vv vs0.1) rfl rfl) (pe_var (i := 1) rfl (vv vs1.1) rfl rfl) (by rfl))
        (pss_one (ps_fld (pe_var (i := 0) rfl (vv vs0.1) rfl rfl) ((snd e5 F _ scope FT0 sd.so).1 x5 c5) (by
          cases x5 <;> first | rfl | cases hs5)))))), ?_⟩
    subst evs eH
    cases hd with
    | nil => cases hs
    | @cons r v rs vs hr0 ht =>
      cases ht with
      | cons _ _ => cases r <;> cases hs
      | nil =>
        cases r with
        | c _ => cases hs
        | d p =>
          obtain ⟨⟨d1, s1⟩, h1, hs⟩ := Option.bind_eq_some_iff.mp hs
          obtain ⟨ht1, hs⟩ := if_someB hs
          obtain ⟨⟨d2, s2⟩, h2, hs⟩ := Option.bind_eq_some_iff.mp hs
          obtain ⟨⟨d3, s3⟩, h3, hs⟩ := Option.bind_eq_some_iff.mp hs
          obtain ⟨ht3, hs⟩ := if_someB hs
          obtain ⟨⟨d5, s5⟩, h5, hs⟩ := Option.map_eq_some_iff.mp hs
          cases hs
          have S1 := (hk.side (o := .own x) hdx)
          have hx1 : upd H0 dx (.own x) x = none := by rw [upd_ne (fun e => hne2 e.symm)]; exact hx
          have S2 := (S1.2.side (o := .ins (w.cls 0) dx []) hx1)
          have St := S1.1.trans S2.1
          have kG : G x = none := by
            cases e : G x with
            | none => rfl
            | some u => rw [hk.le x u e] at hx; cases hx
          have kx : x ∉ kap := fun m => by
            obtain ⟨o, e⟩ := hk.has m
            rw [hx] at e
            cases e
          have sl0 : Slots w kap G [none, some (.d p), none] (L2.start N0 [.ref x, v]) := ⟨rfl, fun i d e => by
            match i with
            | 0 => cases e
            | 1 => cases e; exact ⟨v, rfl, hr0⟩
            | 2 => cases e
            | i + 3 => simp at e⟩
          refine ⟨kap, G, st, _, d1, s1, false, S2.2, sl0, h1, ht1, fun kap1 G1 H1 T1 k1 => ?_⟩
          show (if (false : Bool) = true then _ else _)
          rw [if_neg Bool.false_ne_true]
          refine ⟨kap1, G1, s1, _, d2, s2, k1, sl0.mono T1.g T1.k, h2, fun u kap2 G2 H2 T2 k2 r2 => ?_⟩
          have sl2 : Slots w kap2 G2 [none, some (.d p), some (.d d2)] ((L2.start N0 [.ref x, v]).set 2 (some u)) := ((sl0.mono T1.g T1.k).mono T2.g T2.k).set (d := .d d2) r2 2
          refine ⟨kap2, G2, s2, _, d3, s3, false, k2, sl2, h3, ht3, fun kap3 G3 H3 T3 k3 => ?_⟩
          show (if (false : Bool) = true then _ else _)
          rw [if_neg Bool.false_ne_true]
          have T := (T1.trans T2).trans T3
          have ntx : notTbl (.ins (w.cls 0) dx []) := nt_ins
          have ex3 : H3 x = some (.ins (w.cls 0) dx []) := T.ext x _ upd_same kx ntx
          have gx3 : G3 x = none := by
            cases e : G3 x with
            | none => rfl
            | some u => exact absurd ntx (T.fr x (by rw [e]; simp) kG _ upd_same)
          have kx3 : x ∉ kap3 := fun m => absurd ntx (T.frk x m kx _ upd_same)
          have hca : (w.flds 0).contains fa = true := by rw [hfl]; simp
          have hcb : (w.flds 0).contains fb = true := by rw [hfl]; simp
          refine ⟨v, rfl, .ref x, rfl, x, w.cls 0, dx, [], rfl, ex3, FT0.wok.cl 0, FT0.wok.na 0 fa hca, by simp, ?_⟩
          have k4 := k3.poke (o := .ins (w.cls 0) dx [(fa, v)]) gx3 kx3 ex3 ntx (fun c q z => by unfold LamX.CodeO at z; cases z) nt_ins
          refine ⟨kap3, G3, s3, _, d5, s5, k4, sl2.mono T3.g T3.k, h5, fun v5 kap5 G5 H5 T5 k5 r5 => ?_⟩
          have nt4 : notTbl (.ins (w.cls 0) dx [(fa, v)]) := nt_ins
          have ex5 : H5 x = some (.ins (w.cls 0) dx [(fa, v)]) := T5.ext x _ upd_same kx3 nt4
          have gx5 : G5 x = none := by
            cases e : G5 x with
            | none => rfl
            | some u => exact absurd nt4 (T5.fr x (by rw [e]; simp) gx3 _ upd_same)
          have kx5 : x ∉ kap5 := fun m => absurd nt4 (T5.frk x m kx3 _ upd_same)
          refine ⟨.ref x, rfl, x, w.cls 0, dx, [(fa, v)], rfl, ex5, FT0.wok.cl 0, FT0.wok.na 0 fb hcb, by simp, ?_⟩
          have epf : putF fb v5 [(fa, v)] = [(fa, v), (fb, v5)] := by
            show (if fa = fb then _ else _) = _
            rw [if_neg hne]
            rfl
          rw [epf]
          have k6 := k5.poke (o := .ins (w.cls 0) dx [(fa, v), (fb, v5)]) gx5 kx5 ex5 nt4 (fun c q z => by unfold LamX.CodeO at z; cases z) nt_ins
          have k7 := k6.ice kx5 gx5 upd_same nt_ins
          have S7 := (((St.trans T).poke (u := .ins (w.cls 0) dx [(fa, v)]) hx).trans T5).poke (u := .ins (w.cls 0) dx [(fa, v), (fb, v5)]) hx
          have S8 := S7.ice (u := .ins (w.cls 0) dx [(fa, v), (fb, v5)]) gx5 hx
          have leG : Le G5 (upd G5 x (.ins (w.cls 0) dx [(fa, v), (fb, v5)])) := fun b u h => by rw [upd_ne (ne_of_none h gx5)]; exact h
          refine q kap5 _ _ S8 k7 (.ins (dx := dx) (vs := [v, v5]) ?_ ?_ ?_)
          · rw [hfl, upd_same]
            rfl
          · rw [hfl]
            rfl
          · exact .cons ((((show Den w G p v from hr0).mono T.g).mono T5.g).mono leG) (.cons (r5.mono leG) .nil)
end
section
variable {X : Cx} {Ng : List Str} {x a q y : Str} {sg : Scope} {g : Addr} {cdg : Value} {i : Nat} {p1 p2 p3 p4 p5 p6 p7 p8 : Pos} {h0 : ExceptHandler} {hs : List ExceptHandler}
/-- try: y = a() / except ..: ..; return y -/
theorem got_gives (hN : Ng = [a, y]) (ha : a ≠ y) (hy : sg.names.lookup y = some .local)
    (hydb : (y == ("__debug__" : Str)) = false) (hycd : (y == ("__classdict__" : Str)) = false) :
    LamX.GivesTo X Ng x sg g cdg [.Try [.Assign [.Name y p1] (.Call (.Name a p2) [] [] p3) p4] (h0 :: hs) [] [] p5, .Return (some (.Name y p6)) p7] a q TT0 := by
  subst hN
  intro f c' s H Q tl act hc h
  have nd : ([a, y] : List Str).Nodup := by simp [ha]
  have hk := act (fun _ _ _ _ => False) [] (fun _ _ => False) (fun _ _ _ => False) p2 p3 LamX.takes0 (fun _ _ _ _ z => z)
  refine ⟨_, pss_cons (ps_try_thru0 (pss_one (ps_set (i := 1) nd rfl (.inl hy) hk (by rfl)))) (pss_one (ps_ret (pe_var (i := 1) rfl (.inl hy) hydb hycd))), ?_⟩
  refine ⟨rfl, hc, ?_⟩
  have e : (fun (v : V) (H1 : Hp) => gName 1 v (L2.start [a, y] [.ref f]) H1 ((tRet (tVar 1)) { nx := fun _ H' => Q .non H', rt := Q })) = Q := by
    funext v H1
    refine propext ⟨fun ⟨u, h1, h2⟩ => ?_, fun h1 => ⟨v, rfl, h1⟩⟩
    cases h1
    exact h2
  show tl (fun _ _ _ => False) H (fun (v : V) (H1 : Hp) => gName 1 v (L2.start [a, y] [.ref f]) H1 ((tRet (tVar 1)) { nx := fun _ H' => Q .non H', rt := Q }))
  rw [e]
  exact h
end
end DL

set_option Elab.async false
set_option linter.all false
set_option autoImplicit false
set_option maxRecDepth 100000
set_option maxHeartbeats 1000000
namespace DL
open PySem L2 PySem.Spec PyProof.Rows
abbrev Frag := PySem.W.Frag

def getOf (K : Frag) (C : Addr) (x : Str) : Addr := match PySem.W.findIn K (.ref C) x with
  | some (some (.ref p)) => (match PySem.W.recIn K p "property" with
    | some (.ref g :: _) => g
    | _ => 0)
  | _ => 0
def prpOf (K : Frag) (C : Addr) (x : Str) : Addr := match PySem.W.findIn K (.ref C) x with
  | some (some (.ref p)) => p
  | _ => 0
def propB (K : Frag) (C : Addr) (x : Str) : Bool :=
  He.eqO (PySem.W.findIn K (.ref C) x) (some (some (.ref (prpOf K C x)))) && (He.eqO (PySem.W.specialIn K (.ref (prpOf K C x)) "__get__") (some (some (.builtin "property.__get__"))) && (decide (PySem.W.takesIn K (.ref (prpOf K C x)) = some true) &&
    (match PySem.W.recIn K (prpOf K C x) "property" with
    | some (.ref g :: _) => decide (g = getOf K C x)
    | _ => false)))
theorem propB_ok {K : Frag} {C : Addr} {x : Str} (h : propB K C x = true) : PropOf K C x (prpOf K C x) (getOf K C x) := by
  obtain ⟨h1, h⟩ := He.ba h
  obtain ⟨h2, h⟩ := He.ba h
  obtain ⟨h3, h4⟩ := He.ba h
  refine ⟨He.eqO_ok h1, He.eqO_ok h2, of_decide_eq_true h3, ?_⟩
  cases e : PySem.W.recIn K (prpOf K C x) "property" with
  | none => rw [e] at h4; cases h4
  | some l =>
    rw [e] at h4
    cases l with
    | nil => cases h4
    | cons v r =>
      cases v with
      | ref g => exact ⟨r, by rw [of_decide_eq_true h4]⟩
      | _ => cases h4
/-- a class's facts: fields fs, isinstance of the built-in classes -/
def clsB (K : Frag) (C : Addr) (fs : List Str) : Bool :=
  (PySem.W.plainGet K C Str.empty && (PySem.W.hasDictIn K C && (PySem.W.plainOver K C && He.eqO (PySem.W.findIn K (.ref C) "__setattr__") (some (some (.builtin "object.__setattr__")))))) &&
  ((fs.all fun f => He.eqO (PySem.W.findIn K (.ref C) f) (some none)) && (He.eqO (PySem.W.findIn K (.ref C) "__class__") (some (some (.builtin "object.__class__"))) &&
  (He.eqO (PySem.W.specialIn K (.builtin "object.__class__") "__get__") (some (some (.builtin "getset_descriptor.__get__"))) && (decide (PySem.W.takesIn K (.builtin "object.__class__") = some true) &&
  (decide (PySem.W.mroIn K C (.type "object") = some true) && ([TyN.int, .bool, .str, .tuple, .list].all fun t => decide (PySem.W.kitOne K (.ref C) (.type t.name) = some false)))))))
/-- a maker's facts -/
def mkB (K : Frag) (C : Addr) : Bool := PySem.W.makesIn K C && (He.eqO (PySem.W.findIn K (.ref C) "__init__") (some (some (.ref (He.ma K C "__init__")))) && (PySem.W.isFn K (.ref (He.ma K C "__init__")) && PySem.W.keepIn K (.ref C)))
theorem mkB_ok {K : Frag} {C : Addr} (h : mkB K C = true) : Mk K C (He.ma K C "__init__") := by
  obtain ⟨h1, h⟩ := He.ba h
  obtain ⟨h2, h⟩ := He.ba h
  obtain ⟨h3, h4⟩ := He.ba h
  exact ⟨h1, He.eqO_ok h2, h3, h4⟩
def lenB (K : Frag) (C : Addr) : Bool := He.eqO (PySem.W.findIn K (.ref C) "__len__") (some (some (.ref (He.ma K C "__len__")))) && PySem.W.isFn K (.ref (He.ma K C "__len__"))
def strB (K : Frag) (C : Addr) : Bool := He.eqO (PySem.W.findIn K (.ref C) "__str__") (some (some (.ref (He.ma K C "__str__")))) && PySem.W.isFn K (.ref (He.ma K C "__str__"))
def kitB1 (K : Frag) (C : Addr) : Bool := (["NoneType", "bool", "int", "str", "list", "tuple", "dict"] : List String).all fun n => decide (PySem.W.kitOne K (.type n) (.ref C) = some false)
theorem kitB1_ok {K : Frag} {C : Addr} (h : kitB1 K C = true) : KitC K C := by
  refine ⟨?_, fun n hn => of_decide_eq_true (List.all_eq_true.mp h n hn)⟩
  unfold PySem.W.kitOne
  rw [if_pos (by simp)]
theorem clsB_ok {w : Wd} {fs : List Str} (hc : ∀ C, w.cls C = w.cls 0) (hf : ∀ C, w.flds C = fs) (h : clsB w.K (w.cls 0) fs = true) : WOk w := by
  obtain ⟨h0, h⟩ := He.ba h
  obtain ⟨c1, h0⟩ := He.ba h0
  obtain ⟨c2, h0⟩ := He.ba h0
  obtain ⟨c3, c4⟩ := He.ba h0
  obtain ⟨h1, h⟩ := He.ba h
  obtain ⟨h2, h⟩ := He.ba h
  obtain ⟨h3, h⟩ := He.ba h
  obtain ⟨h4, h⟩ := He.ba h
  obtain ⟨h5, h6⟩ := He.ba h
  refine ⟨fun C => by rw [hc]; exact ⟨c1, c2, c3, He.eqO_ok c4⟩, fun C f hm => ?_, fun C => by rw [hc]; exact He.eqO_ok h2, He.eqO_ok h3, of_decide_eq_true h4, fun C => by rw [hc]; exact of_decide_eq_true h5, fun C t => ?_⟩
  · rw [hf] at hm
    rw [hc]
    exact He.eqO_ok (List.all_eq_true.mp h1 f (by simpa using hm))
  · rw [hc]
    exact of_decide_eq_true (List.all_eq_true.mp h6 t (by cases t <;> simp))

/-- what an object names (a class: its dict; its mro's classes are the module's names) -/
def refsF (o : Obj) : List Addr := (match o.dict with
  | some d => [d]
  | none => []) ++ match o.data with
  | .seq its _ => its.toList.flatMap He.refV
  | .dict es _ => es.toList.flatMap fun e => He.refV e.val
  | .func fd => He.refV fd.code ++ He.refV fd.defaults
  | .cls cd => [cd.ns]
  | .fields vs => vs.toList.flatMap He.refV
  | _ => []
def goAs (g : Addr → Option Obj) : Nat → List Addr → List Addr
  | 0, F => F
  | k + 1, F => F ++ goAs g k (F.flatMap fun a => match g a with
    | some o => refsF o
    | none => [])
def asF (g : Addr → Option Obj) (n : Nat) : List Addr := goAs g n [mainGlobals]
/-- a def: where its object lies, its text -/
structure DP where
  path : Frag → Addr
  name : Str
  qual : Str
  params : Arguments
  body : List Stmt
  scope : Scope
  dfl : List V
def fnA (K : Frag) (a : Addr) : He.FnW := match K.lookup a with
  | some ⟨_, _, .func fd, _⟩ => some (fd.name, fd.qualname, fd.params, fd.body, fd.scope, fd.globals, fd.closure, fd.builtins)
  | _ => none
def DP.val (d : DP) : He.FnW := some (d.name, d.qual, d.params, .stmts d.body, d.scope, mainGlobals, [], builtinsNs)
def DP.ok (K : Frag) (d : DP) : Bool := PySem.W.keepIn K (.ref (d.path K)) && (match K.lookup (d.path K) with
  | some ⟨_, _, .func fd, _⟩ => PySem.W.codeIn K fd.code d.qual && He.dflB K fd.defaults d.dfl
  | _ => false)
theorem DP.funD {K : Frag} {d : DP} (e : fnA K (d.path K) = d.val) (c : d.ok K = true) : ∃ fd, FunD K d.name d.qual d.params d.body d.scope d.dfl [] (d.path K) fd := by
  obtain ⟨kp, c2⟩ := He.ba c
  unfold fnA at e
  cases q : K.lookup (d.path K) with
  | none => rw [q] at c2; cases c2
  | some o =>
    obtain ⟨oc, od, dt, osl⟩ := o
    rw [q] at c2 e
    cases dt with
    | func fd =>
      obtain ⟨n1, n2, n3, n4, n5, n6, n7, n8, n9, n10, n11, n12, n13, n14, n15⟩ := fd
      have e2 : (some (n1, n2, n3, n4, n5, n6, n7, n15) : He.FnW) = some (d.name, d.qual, d.params, .stmts d.body, d.scope, mainGlobals, [], builtinsNs) := e
      simp only [Option.some.injEq, Prod.mk.injEq] at e2
      obtain ⟨h1, h2, h3, h4, h5, h6, h7, h8⟩ := e2
      subst h1 h2 h3 h4 h5 h6 h7 h8
      have c3 : (PySem.W.codeIn K n13 d.qual && He.dflB K n8 d.dfl) = true := c2
      obtain ⟨k1, k2⟩ := He.ba c3
      exact ⟨_, ⟨oc, od, n8, n9, n10, n11, n12, n13, n14, osl, rfl, q, k1, He.dflB_ok k2, .inl rfl⟩, kp⟩
    | _ => cases c2
abbrev AlR : Type := Bool × List He.FnW
def obsR (fa : List He.Fa) (fn : List DP) (tf : List He.Defn) (ex : Frag → Bool) (g : Addr → Option Obj) (K : Frag) : AlR :=
  (((fa.all fun f => f.ok K) && fn.all fun d => d.ok K) && (ex K && He.tabsB g tf K), fn.map fun d => fnA K (d.path K))
structure SaysR (fa : List He.Fa) (fn : List DP) (tf : List He.Defn) (ex : Frag → Bool) (h : Heap) (K : Frag) : Prop where
  defs : fn.map (fun d => fnA K (d.path K)) = fn.map DP.val
  ok : ((fa.all fun f => f.ok K) && fn.all fun d => d.ok K) = true
  ex : ex K = true
  hd : ∀ p ∈ tf, PySem.W.codeHdIn K (He.cT K p).1 (He.cT K p).2 = true
  out : ∀ p ∈ tf, K.lookup (He.cT K p).2 = none
  empty : ∀ p ∈ tf, h.get? (He.cT K p).2 = some { cls := .none, data := .fields #[] }
theorem saysR_of {n : Nat} {fa : List He.Fa} {fn : List DP} {tf : List He.Defn} {ex : Frag → Bool} {h : Heap} (e : obsR fa fn tf ex h.get? (He.frT h.get? (asF h.get? n)) = (true, fn.map DP.val)) : SaysR fa fn tf ex h (He.frT h.get? (asF h.get? n)) := by
  have e1 := congrArg Prod.fst e
  have e2 := congrArg Prod.snd e
  obtain ⟨h1, h2⟩ := He.ba e1
  obtain ⟨h3, h4⟩ := He.ba h2
  have key : ∀ p ∈ tf, PySem.W.codeHdIn (He.frT h.get? (asF h.get? n)) (He.cT (He.frT h.get? (asF h.get? n)) p).1 (He.cT (He.frT h.get? (asF h.get? n)) p).2 = true ∧ ∃ o, h.get? (He.cT (He.frT h.get? (asF h.get? n)) p).2 = some o ∧ He.emptyTab o = true := fun p hp => by
    obtain ⟨z3, z4⟩ := He.ba (List.all_eq_true.mp h4 p hp)
    refine ⟨z3, ?_⟩
    cases q : h.get? (He.cT (He.frT h.get? (asF h.get? n)) p).2 with
    | none => rw [q] at z4; cases z4
    | some o => rw [q] at z4; exact ⟨o, rfl, z4⟩
  exact ⟨e2, h1, h3, fun p hp => (key p hp).1, fun p hp => by
    obtain ⟨_, o, q, z⟩ := key p hp
    exact He.frT_none q z, fun p hp => by
    obtain ⟨_, o, q, z⟩ := key p hp
    rw [q, He.emptyTab_eq z]⟩
def hookR (n : Nat) (fa : List He.Fa) (fn : List DP) (tf : List He.Defn) (ex : Frag → Bool) : PySem.W.Hook where
  α := AlR
  obs := fun s => obsR fa fn tf ex s.heap.get? (He.frT s.heap.get? (asF s.heap.get? n))
  val := fun _ => (true, fn.map DP.val)
  says := fun _ h => ∃ K : Frag, K.In h ∧ SaysR fa fn tf ex h K
  of := fun _ _ e => ⟨_, He.frT_in, saysR_of e⟩
  keeps := fun _ _ _ ⟨K, hK, c⟩ k => ⟨K, PySem.W.Frag.In.keeps hK k, ⟨c.defs, c.ok, c.ex, c.hd, c.out, fun p hp => k _ _ (c.empty p hp)⟩⟩
def obR (n : Nat) (fa : List He.Fa) (fn : List DP) (tf : List He.Defn) (ex : Frag → Bool) (s : PySem.W.SharedT) : AlR :=
  obsR fa fn tf ex (HandSHeadRun.getT s) (He.frT (HandSHeadRun.getT s) (asF (HandSHeadRun.getT s) n))
theorem obR_eq {n : Nat} {fa : List He.Fa} {fn : List DP} {tf : List He.Defn} {ex : Frag → Bool} (s : PySem.W.SharedT) : obR n fa fn tf ex s = (hookR n fa fn tf ex).obs s.abs := by
  have e : HandSHeadRun.getT s = s.abs.heap.get? := funext (HandSHeadRun.getT_eq s)
  show obsR fa fn tf ex (HandSHeadRun.getT s) (He.frT (HandSHeadRun.getT s) (asF (HandSHeadRun.getT s) n)) = obsR fa fn tf ex s.abs.heap.get? (He.frT s.abs.heap.get? (asF s.abs.heap.get? n))
  rw [e]
section
variable {fa : List He.Fa} {fn : List DP} {tf : List He.Defn} {ex : Frag → Bool} {h : Heap} {K : Frag}
theorem SaysR.fact (c : SaysR fa fn tf ex h K) {f : He.Fa} (m : f ∈ fa) : f.ok K = true := List.all_eq_true.mp (He.ba c.ok).1 f m
theorem SaysR.def_ (c : SaysR fa fn tf ex h K) {d : DP} (m : d ∈ fn) : ∃ fd, FunD K d.name d.qual d.params d.body d.scope d.dfl [] (d.path K) fd := by
  refine DP.funD ?_ (List.all_eq_true.mp (He.ba c.ok).2 d m)
  obtain ⟨i, hi, e⟩ := List.mem_iff_getElem.mp m
  have e2 : (fn.map fun d => fnA K (d.path K))[i]? = (fn.map DP.val)[i]? := by rw [c.defs]
  rw [List.getElem?_map, List.getElem?_map, List.getElem?_eq_getElem hi, e] at e2
  exact Option.some.inj e2
end
end DL

set_option Elab.async false
set_option linter.all false
set_option autoImplicit false
set_option maxRecDepth 100000
set_option maxHeartbeats 2000000
namespace DL
open PySem L2 PySem.Spec PyProof.Rows
abbrev tabObj : Obj := { cls := .none, data := .fields #[] }
section
variable {P : Program} {wd : World} {K : PySem.W.Frag} {mg mb : Str → Option Value} {CX : CXT} {k : Nat} {fa a : Addr} {cs : List (Addr × Addr)} {fd : FuncData} {x : Str} {sp : Sp} {s1 : Shared} {its : List Value} {ns : List Int}
/-- what the law's call ends in -/
abbrev EndQ (s1 : Shared) : Result → Shared → Prop := fun r s' => r = .ok (.ret (.bool true)) ∧ OldK s1.heap s'.heap ∧ s'.os = s1.os ∧ AllBare s'.gens
theorem law_from (KX : K.In s1.heap) (hns : s1.heap.Ns mainGlobals mg) (hb : s1.heap.Ns builtinsNs mb) (hbb : ∀ x : Str, x ≠ "__name__" → mb x = bootBuiltins x) (hlim : s1.heap.NoLimit) (hg : s1.gens = #[])
    (hT : ∀ p ∈ cs, s1.heap.get? p.2 = some tabObj) (nT : ∀ p ∈ cs, K.lookup p.2 = none) (C : ∀ p ∈ cs, PySem.W.CodeHd s1.heap p.1 p.2)
    (hbm : ∃ (bm : Addr) (ob : Obj), mg "__builtins__" = some (.ref bm) ∧ bm ≠ builtinsNs ∧ s1.heap.get? bm = some ob ∧ ob.cls = .type "module" ∧ ob.dict = some builtinsNs ∧ ob.data = .plain)
    (ha : s1.heap.get? a = some { cls := .type "list", data := .seq its.toArray }) (hr : Room k callerA)
    (F : ∀ base : Heap, K.In base → base.Ns mainGlobals mg → (∀ p ∈ cs, LamX.TabB base mg p.1 p.2) → FnG P wd K mg base CX k fa fd [x] sp) (hbind : ∀ (s : Shared) (u : Value), BindsTo s fd ⟨[u], []⟩ [(x, u)])
    (hCX : ∀ H e s', CX [] H s1 (fun _ _ _ => False) e s' → False)
    (H : Hp) (hH : ∀ p ∈ cs, H p.2 = some (.tbl #[])) (hO : ∀ b, H b = none ∨ b ∈ cs.map (·.2) ∨ ∃ o xs, H b = some (.frz o (.lst xs))) (hok : HOk P wd H s1.heap) (hA : ∀ b, H b ≠ none → b = a ∨ b ∈ cs.map (·.2)) (hK : H a ≠ none → K.lookup a = none)
    (hs : sp [.ref a] H (fun v _ => v = .bl true) fun _ _ _ => False) : codeAny (model P wd) callerA (.call (.ref fa) ⟨[.ref a], []⟩) (EndQ s1) s1 := by
  have tabs : ∀ b : Addr, b ∈ cs.map (·.2) → s1.heap.get? b = some tabObj := fun b m => by
    obtain ⟨p, hp, rfl⟩ := List.mem_map.mp m
    exact hT p hp
  -- neither a list nor a table: not tracked
  have free : ∀ {b : Addr} {o : Obj}, s1.heap.get? b = some o → (∀ vs n, o.data ≠ .seq vs n) → o.data ≠ .fields #[] → H b = none := fun {b o} e n1 n2 => by
    cases q : H b with
    | none => rfl
    | some u =>
      rcases hA b (by rw [q]; exact Option.some_ne_none u) with rfl | m
      · exact absurd (congrArg Obj.data (Option.some.inj (e.symm.trans ha))) (n1 _ _)
      · exact absurd (congrArg Obj.data (Option.some.inj (e.symm.trans (tabs b m)))) n2
  have hid : ∀ {b : Addr} {o : Obj}, s1.heap.get? b = some o → H b = none → (hidT s1.heap H).get? b = some o := fun q n => hidT_get q n
  have names : ∀ {b : Addr} {m : Str → Option Value}, s1.heap.Ns b m → (hidT s1.heap H).Ns b m := fun {_ _} ⟨o, es, ep, q, d, r⟩ =>
    ⟨o, es, ep, hid q (free q (fun _ _ z => by rw [d] at z; cases z) fun z => by rw [d] at z; cases z), d, r⟩
  have KB : K.In (hidT s1.heap H) := fun b o e => hid (KX b o e) (by
    cases q : H b with
    | none => rfl
    | some u =>
      have hn : H b ≠ none := by rw [q]; exact Option.some_ne_none u
      rcases hA b hn with rfl | m
      · rw [hK hn] at e; cases e
      · obtain ⟨p, hp, rfl⟩ := List.mem_map.mp m
        rw [nT p hp] at e; cases e)
  have M : L2.Mod K mg (hidT s1.heap H) := ⟨KB, names hns, ⟨mb, names hb, hbb⟩, let ⟨mc, z1, z2⟩ := hlim; ⟨mc, names z1, z2⟩⟩
  have TB : ∀ p ∈ cs, LamX.TabB (hidT s1.heap H) mg p.1 p.2 := fun p hp => by
    have tp := hT p hp
    refine ⟨?_, ?_, fun z => ?_⟩
    · obtain ⟨o, us, file, tf, flags, tg, inF, text, tt, w1, w2, w3, w4, w5, w6, w7, w8, w9, w10⟩ := C p hp
      exact ⟨o, us, file, tf, flags, tg, inF, text, tt, hid w1 (free w1 (fun _ _ z => by rw [w3] at z; cases z) fun z => by rw [w3] at z; cases z; simp at w4), w2, w3, w4, w5, w6, w7, w8, w9, w10⟩
    · obtain ⟨bm, ob, b1, b2, b3, b4, b5, b6⟩ := hbm
      refine ⟨bm, ob, b1, b2, fun q => ?_, fun q => ?_, hid b3 (free b3 (fun _ _ z => by rw [b6] at z; cases z) fun z => by rw [b6] at z; cases z), b4, b5, b6⟩
      · obtain ⟨o, es, ep, e, d, _⟩ := hns
        rw [← q, b3] at e
        cases e
        rw [b6] at d; cases d
      · rw [q, tp] at b3
        cases b3
        cases b6
    · obtain ⟨o, es, ep, e, d, _⟩ := hns
      rw [z, tp] at e
      cases e
      cases d
  have e0 : Env0 P wd K mg (hidT s1.heap H) callerA [] s1 H := { frames := rfl, mod := M, bs := fun b o q => of_hidT q, bsz := Nat.le_of_eq (hidT_size _ _), funs := trivial, frf := fun b m => absurd (show b ∈ ([] : List Addr) from m) List.not_mem_nil, hok := hok, bare := .of_eq hg }
  refine codeAny_mono ((F _ KB (names hns) TB).go callerA [] s1 H ⟨[.ref a], []⟩ [.ref a] [.ref a] _ _ rfl hr e0 (hbind s1 (.ref a)) (.cons rfl .nil) hs) fun res s' z => ?_
  match res, z with
  | .error e, z => exact (hCX H e s' z).elim
  | .ok .next, z => exact False.elim z
  | .ok .brk, z => exact False.elim z
  | .ok .cont, z => exact False.elim z
  | .ok (.ret u), ⟨v, H', os, bare, un, hok', rv, q⟩ =>
    cases (show v = V.bl true from q)
    cases (show u = Value.bool true from rv)
    have stay : ∀ b o, b ∉ cs.map (·.2) → s1.heap.get? b = some o → s'.heap.get? b = some o := fun b o nb e => by
      rcases hO b with z | z | ⟨ob, xs, z⟩
      · exact un.keep b o e z (fun w => absurd (show b ∈ ([] : List Addr) from w) List.not_mem_nil) List.not_mem_nil
      · exact absurd z nb
      · obtain ⟨e1, _⟩ := hok b _ z
        obtain ⟨e2, _⟩ := hok' b _ (un.frzs b ob _ z)
        exact (e.symm.trans e1) ▸ e2
    have more : ∀ p ∈ cs, ∃ w : Array Value, s'.heap.get? p.2 = some { cls := .none, data := .fields w } := fun p hp => by
      obtain ⟨w, z⟩ := un.tbls p.2 #[] (hH p hp)
      exact ⟨_, hok' p.2 _ z⟩
    refine ⟨rfl, ⟨fun b o e => ?_, fun b o e => ?_⟩, os, bare⟩
    · by_cases m : b ∈ cs.map (·.2)
      · obtain ⟨p, hp, rfl⟩ := List.mem_map.mp m
        obtain ⟨w, hw⟩ := more p hp
        cases (hT p hp).symm.trans e
        exact .inr (.inl ⟨((C p hp).tab (hT p hp)).isCodeTable, rfl, #[], w, rfl, by rw [Array.empty_append]; exact hw⟩)
      · exact .inl (stay b o m e)
    · by_cases m : b ∈ cs.map (·.2)
      · obtain ⟨p, hp, rfl⟩ := List.mem_map.mp m
        obtain ⟨w, hw⟩ := more p hp
        exact ⟨_, hw⟩
      · exact ⟨o, stay b o m e⟩
theorem law_callG (KX : K.In s1.heap) (hns : s1.heap.Ns mainGlobals mg) (hb : s1.heap.Ns builtinsNs mb) (hbb : ∀ x : Str, x ≠ "__name__" → mb x = bootBuiltins x) (hlim : s1.heap.NoLimit) (hg : s1.gens = #[])
    (hT : ∀ p ∈ cs, s1.heap.get? p.2 = some tabObj) (nT : ∀ p ∈ cs, K.lookup p.2 = none) (C : ∀ p ∈ cs, PySem.W.CodeHd s1.heap p.1 p.2)
    (hbm : ∃ (bm : Addr) (ob : Obj), mg "__builtins__" = some (.ref bm) ∧ bm ≠ builtinsNs ∧ s1.heap.get? bm = some ob ∧ ob.cls = .type "module" ∧ ob.dict = some builtinsNs ∧ ob.data = .plain)
    (ha : s1.heap.get? a = some { cls := .type "list", data := .seq its.toArray }) (hi : IntsAre its ns) (hl : ns.length ≤ sizeLine) (hr : Room k callerA)
    (F : ∀ base : Heap, K.In base → base.Ns mainGlobals mg → (∀ p ∈ cs, LamX.TabB base mg p.1 p.2) → FnG P wd K mg base CX k fa fd [x] sp) (hbind : ∀ (s : Shared) (u : Value), BindsTo s fd ⟨[u], []⟩ [(x, u)])
    (hsp : ∀ H : Hp, (∀ p ∈ cs, H p.2 = some (.tbl #[])) → SqL K H a (ns.map V.int) → sp [.ref a] H (fun v _ => v = .bl true) fun _ _ _ => False)
    (hCX : ∀ H e s', CX [] H s1 (fun _ _ _ => False) e s' → False) : codeAny (model P wd) callerA (.call (.ref fa) ⟨[.ref a], []⟩) (EndQ s1) s1 := by
  have tabs : ∀ b : Addr, b ∈ cs.map (·.2) → s1.heap.get? b = some tabObj := fun b m => by
    obtain ⟨p, hp, rfl⟩ := List.mem_map.mp m
    exact hT p hp
  have na : a ∉ cs.map (·.2) := fun m => by
    have q : Data.seq its.toArray _ = Data.fields #[] := congrArg Obj.data (Option.some.inj (ha.symm.trans (tabs a m)))
    cases q
  have inT : ∀ p ∈ cs, p.2 ∈ cs.map (·.2) := fun p hp => List.mem_map.mpr ⟨p, hp, rfl⟩
  have run := law_from (P := P) (wd := wd) (CX := CX) (k := k) (fa := fa) (fd := fd) (x := x) (sp := sp) KX hns hb hbb hlim hg hT nT C hbm ha hr F hbind hCX
  cases hk : K.lookup a with
  | some o =>
    cases ha.symm.trans (KX a o hk)
    have hS : ∀ H : Hp, SqL K H a (ns.map V.int) := fun H => .inr ⟨_, its.toArray, _, hk, rfl, rfl, rfl, by rw [List.size_toArray, hi.length]; exact hl, by simpa using vals_ints hi⟩
    let H0 : Hp := fun b => if b ∈ cs.map (·.2) then some (.tbl #[]) else none
    have h1 : ∀ b, b ∈ cs.map (·.2) → H0 b = some (.tbl #[]) := fun b m => if_pos m
    have h2 : ∀ b, b ∉ cs.map (·.2) → H0 b = none := fun b m => if_neg m
    refine run H0 (fun p hp => h1 _ (inT p hp)) (fun b => ?_) (fun b u z => ?_) (fun b z => ?_) (fun z => absurd (h2 a na) z) (hsp H0 (fun p hp => h1 _ (inT p hp)) (hS H0))
    all_goals by_cases m : b ∈ cs.map (·.2)
    · exact .inr (.inl m)
    · exact .inl (h2 b m)
    · cases (h1 b m).symm.trans z
      exact tabs b m
    · cases (h2 b m).symm.trans z
    · exact .inr m
    · exact absurd (h2 b m) z
  | none =>
    let ob : Obj := { cls := .type "list", data := .seq its.toArray }
    let H0 : Hp := fun b => if b = a then some (.frz ob (.lst (ns.map V.int))) else if b ∈ cs.map (·.2) then some (.tbl #[]) else none
    have h0 : H0 a = some (.frz ob (.lst (ns.map V.int))) := if_pos rfl
    have h1 : ∀ b, b ∈ cs.map (·.2) → H0 b = some (.tbl #[]) := fun b m => (if_neg fun z : b = a => na (by rw [← z]; exact m)).trans (if_pos m)
    have h2 : ∀ b, b ≠ a → b ∉ cs.map (·.2) → H0 b = none := fun b n m => (if_neg n).trans (if_neg m)
    have rv := vals_ints hi
    refine run H0 (fun p hp => h1 _ (inT p hp)) (fun b => ?_) (fun b u z => ?_) (fun b z => ?_) (fun _ => hk) (hsp H0 (fun p hp => h1 _ (inT p hp)) (.inl (.inr ⟨ob, h0⟩)))
    all_goals by_cases n : b = a
    · subst n
      exact .inr (.inr ⟨_, _, h0⟩)
    · by_cases m : b ∈ cs.map (·.2)
      · exact .inr (.inl m)
      · exact .inl (h2 b n m)
    · subst n
      cases h0.symm.trans z
      exact ⟨ha, by rw [List.length_map]; exact hl, its, _, rv, ha⟩
    · by_cases m : b ∈ cs.map (·.2)
      · cases (h1 b m).symm.trans z
        exact tabs b m
      · cases (h2 b n m).symm.trans z
    · exact .inl n
    · by_cases m : b ∈ cs.map (·.2)
      · exact .inr m
      · exact absurd (h2 b n m) z
end
/-- what is known of the law's promise at the head's heap -/
def LawG (l : PySem.W.OpenLaw) (wd : World) (K : PySem.W.Frag) (CX : CXT) (k n : Nat) (x : Str) (mg : Str → Option Value) (fa : Addr) (h : Heap) : Prop :=
  ∃ (fd : FuncData) (cs : List (Addr × Addr)) (sp : Sp), ((∀ p ∈ cs, h.get? p.2 = some tabObj) ∧ (∀ p ∈ cs, K.lookup p.2 = none) ∧ ∀ p ∈ cs, PySem.W.CodeHd h p.1 p.2) ∧ (∀ (s : Shared) (u : Value), BindsTo s fd ⟨[u], []⟩ [(x, u)]) ∧
    (∀ (H : Hp) (a : Addr) (ns : List Int), ns.length ≤ n → (∀ z ∈ ns, Builtin.Int.intBits z ≤ 1048576) → (∀ p ∈ cs, H p.2 = some (.tbl #[])) → SqL K H a (ns.map V.int) → sp [.ref a] H (fun v _ => v = .bl true) fun _ _ _ => False) ∧
    ∀ base : Heap, K.In base → base.Ns mainGlobals mg → (∀ p ∈ cs, LamX.TabB base mg p.1 p.2) → FnG l.prog wd K mg base CX k fa fd [x] sp
theorem walkG {l : PySem.W.OpenLaw} {n k : Nat} {q : Program} {loose : List Str} {XP : (Str → Option Value) → Heap → Prop} {YP : World → Heap → Prop} {d : DefRec} {CX : World → CXT} {x : Str} (hn : l.most = some n) (hn2 : n ≤ sizeLine) (hdf : d.params.defaults = []) (hr : Room k callerA)
    (F : ∀ (wd : World) (mg : Str → Option Value) (fa : Addr) (h : Heap), YP wd h → h.Ns mainGlobals mg → mg d.name = some (.ref fa) → ∃ K : PySem.W.Frag, K.In h ∧ LawG l wd K (CX wd) k n x mg fa h)
    (hCX : ∀ (wd : World) (H : Hp) (s : Shared) (e : Value) (s' : Shared), CX wd [] H s (fun _ _ _ => False) e s' → False) : PySem.W.WalkO q loose XP YP l.row.toRowW d [] (fun f vs => PySem.call f vs) := by
  refine Att.attach_callB hn hdf fun wd s0 s1 mg mb fa o pm cd doc a its ns G Y _ _ _ hmg hobj hints hlen hbits hg => ?_
  obtain ⟨K, KX, fd, cs, sp, ⟨hT, nT, C⟩, hb, hsp, hF⟩ := F wd mg fa _ Y G.T.g hmg
  exact law_callG KX G.T.g G.T.b G.T.builtins G.T.nolimit hg hT nT C G.T.bmain hobj hints (Nat.le_trans hlen hn2) hr hF hb (fun H hH hS => hsp H a ns hlen hbits hH hS) fun H e s' => hCX wd H s1 e s'
end DL

set_option Elab.async false
set_option linter.all false
set_option autoImplicit false
set_option maxRecDepth 100000
set_option maxHeartbeats 1000000
namespace DL
open PySem L2 PySem.Spec PyProof.Rows

theorem FnAt.mono {w : Wd} {j k : Nat} {X : Cx} {f : Addr} {sp : Sp} (h : j ≤ k) : FnAt w j X f sp → FnAt w k X f sp := fun ⟨fd, ps, b, F⟩ => ⟨fd, ps, b, F.mono h⟩
theorem DepOk.mono {w : Wd} {j k : Nat} {X : Cx} {d : Dep} {f : DSem} (h : j ≤ k) (q : DepOk w j X d f) : DepOk w k X d f := by
  cases d with
  | fn x => obtain ⟨f, a, b, c⟩ := q; exact ⟨f, a, b, c.mono h⟩
  | mk x => obtain ⟨C, f, a, b, c⟩ := q; exact ⟨C, f, a, b, c.mono h⟩
  | prop x => exact fun C => let ⟨p, f, a, b⟩ := q C; ⟨p, f, a, b.mono h⟩
  | len => exact fun C => let ⟨f, a, b, c⟩ := q C; ⟨f, a, b, c.mono h⟩
  | tld x => exact q
  | lamk => exact q
  | fnG x => obtain ⟨f, a, b, ⟨fd, ps, c, F⟩⟩ := q; exact ⟨f, a, b, ⟨fd, ps, c, F.mono h⟩⟩
  | cls x => exact q
  | fnD x i => obtain ⟨f, a, b, fd, ps, u, sem0, c1, c2, c3, c4⟩ := q; exact ⟨f, a, b, fd, ps, u, sem0, c1, c2, c3.mono h, c4⟩
  | strd => exact fun C => let ⟨f, a, b, c⟩ := q C; ⟨f, a, b, c.mono h⟩
  | fnF x => obtain ⟨f, a, b, c⟩ := q; exact ⟨f, a, b, c.mono h⟩
  | fnP x => obtain ⟨f, a, b, c⟩ := q; exact ⟨f, a, b, c.mono h⟩
inductive Deps (w : Wd) (kk : Nat) (X : Cx) : List Dep → List DSem → Prop
  | nil : Deps w kk X [] []
  | cons {d : Dep} {f : DSem} {ds : List Dep} {fs : List DSem} : DepOk w kk X d f → Deps w kk X ds fs → Deps w kk X (d :: ds) (f :: fs)
theorem Deps.get {w : Wd} {kk : Nat} {X : Cx} : ∀ {ds : List Dep} {fs : List DSem}, Deps w kk X ds fs → ∀ (j : Nat) d f, ds[j]? = some d → fs[j]? = some f → DepOk w kk X d f
  | _, _, .nil, j, d, f, h, _ => by simp at h
  | _, _, .cons q t, 0, d, f, h1, h2 => by cases h1; cases h2; exact q
  | _, _, .cons q t, j + 1, d, f, h1, h2 => t.get j d f (by simpa using h1) (by simpa using h2)
def GlobM (mg : Str → Option Value) (x : Str) (d : D) : Prop := (∃ i t, d = .int i ∧ mg x = some (.int i t)) ∨ ∃ z t, d = .str z ∧ mg x = some (.str z t)
/-- what is the same through a row -/
structure Base (P : Program) (wd : World) (w : Wd) (mg : Str → Option Value) (base : Heap) (frees : List Str) (globs : List (Str × D)) : Prop where
  wok : WOk w
  fr : ∀ x ∈ frees, mg x = none
  gl : ∀ q ∈ globs, GlobM mg q.1 q.2
theorem lookup_memB {α : Type} {x : Str} {d : α} : ∀ {l : List (Str × α)}, l.lookup x = some d → (x, d) ∈ l
  | [], h => by cases h
  | (y, e) :: r, h => by
    unfold List.lookup at h
    split at h
    · rename_i q
      cases h
      rw [eq_of_beq q]
      exact List.mem_cons_self
    · exact List.mem_cons_of_mem _ (lookup_memB h)
/-- what holds of a dependency in each context of the row -/
def DefOk (P : Program) (wd : World) (w : Wd) (mg : Str → Option Value) (base : Heap) (k : Nat) (d : Dep) (f : DSem) : Prop :=
  ∀ (N : List Str) (qual : Str) (scope : Scope) (fa : Addr) (cdv : Value) (A : Around) (outer : List Env) (s : Shared) (H : Hp) (E : XK), DepOk w k (cxOf CX0 P wd w.K mg base N qual scope fa cdv A outer s H E) d f
section
variable {P : Program} {wd : World} {w : Wd} {mg : Str → Option Value} {base : Heap} {frees : List Str} {globs : List (Str × D)} {k kk : Nat} {f : Addr} {fd : FuncData} {d : DP} {N ps : List Str} {F : Fx} {g : List DSem} {cs : CS}
theorem DefOk.at_ {j : Nat} {dp : Dep} {sem : DSem} (h : DefOk P wd w mg base j dp sem) (le : j ≤ k) {N : List Str} {qual : Str} {scope : Scope} {fa : Addr} {cdv : Value} {A : Around} {outer : List Env} {s : Shared} {H : Hp} {E : XK} : DepOk w k (cxOf CX0 P wd w.K mg base N qual scope fa cdv A outer s H E) dp sem :=
  (h N qual scope fa cdv A outer s H E).mono le
theorem fit_cx (B : Base P wd w mg base frees globs) (hfr : F.frees = frees) (hgl : F.globs = globs) (hN : F.N = N) (nd : N.Nodup) {qual : Str} {scope : Scope} {cdv : Value} {A : Around} {outer : List Env} {s : Shared} {H : Hp} {E : XK}
    (hgd : F.gd = true → Quiet (A.deeper (envOfC qual scope s.heap.objs.size f cdv))) (hr : Room (kk + 2 + if F.lam then 3 else 0) (A.deeper (envOfC qual scope s.heap.objs.size f cdv))) (hd : Deps w kk (cxOf CX0 P wd w.K mg base N qual scope f cdv A outer s H E) F.deps g) : Fit w F g kk (cxOf CX0 P wd w.K mg base N qual scope f cdv A outer s H E) where
  hk := rfl
  calm := rfl
  rm := hr
  qt := hgd
  N := hN.symm
  nd := by rw [hN]; exact nd
  wok := B.wok
  frees := fun x h => B.fr x (by rw [hfr] at h; simpa using h)
  globs := fun x d h => by rw [hgl] at h; exact B.gl _ (lookup_memB h)
  deps := fun j d f h1 h2 _ => hd.get j d f h1 h2
theorem def_run (B : Base P wd w mg base frees globs) (F0 : FunD w.K d.name d.qual d.params d.body d.scope d.dfl [] f fd) (S : FnScope N ps d.scope) (hgd : F.gd = false) (hfr : F.frees = frees) (hgl : F.globs = globs) (hN : F.N = N)
    (hd : ∀ (cdv : Value) (A : Around) (outer : List Env) (s : Shared) (H : Hp) (E : XK), fd.code = cdv → PySem.W.codeIn w.K cdv d.qual = true → Deps w kk (cxOf CX0 P wd w.K mg base N d.qual d.scope f cdv A outer s H E) F.deps g)
    (hc : chkSs F d.scope cs d.body = true) : FnOk P wd w.K mg base CX0 (kk + 2 + (if F.lam then 3 else 0) + 1) f fd ps (spD w (run g w.flds ps.length N.length cs)) := by
  obtain ⟨oc, od, dV, kV, doc, pm, an, cdv, ct, osl, rfl, lk, hcd, _, _⟩ := F0.ex
  exact fn_run lk hcd S (fun A outer s H E hr => fit_cx B hfr hgl hN S.nd (fun z => absurd (hgd.symm.trans z) Bool.false_ne_true) hr (hd cdv A outer s H E rfl hcd)) hc
theorem def_runF (B : Base P wd w mg base frees globs) (F0 : FunD w.K d.name d.qual d.params d.body d.scope d.dfl [] f fd) (S : FnScope N ps d.scope) (hgd : F.gd = false) (hfr : F.frees = frees) (hgl : F.globs = globs) (hN : F.N = N)
    (hd : ∀ (cdv : Value) (A : Around) (outer : List Env) (s : Shared) (H : Hp) (E : XK), fd.code = cdv → PySem.W.codeIn w.K cdv d.qual = true → Deps w kk (cxOf CX0 P wd w.K mg base N d.qual d.scope f cdv A outer s H E) F.deps g)
    (hc : chkSs F d.scope cs d.body = true) : FnOk P wd w.K mg base CX0 (kk + 2 + (if F.lam then 3 else 0) + 1) f fd ps (spF w (runF g w.flds ps.length N.length cs)) := by
  obtain ⟨oc, od, dV, kV, doc, pm, an, cdv, ct, osl, rfl, lk, hcd, _, _⟩ := F0.ex
  exact fn_runF lk hcd S (fun A outer s H E hr => fit_cx B hfr hgl hN S.nd (fun z => absurd (hgd.symm.trans z) Bool.false_ne_true) hr (hd cdv A outer s H E rfl hcd)) hc
theorem def_runP (B : Base P wd w mg base frees globs) (F0 : FunD w.K d.name d.qual d.params d.body d.scope d.dfl [] f fd) (S : FnScope N ps d.scope) (hgd : F.gd = false) (hfr : F.frees = frees) (hgl : F.globs = globs) (hN : F.N = N)
    (hd : ∀ (cdv : Value) (A : Around) (outer : List Env) (s : Shared) (H : Hp) (E : XK), fd.code = cdv → PySem.W.codeIn w.K cdv d.qual = true → Deps w kk (cxOf CX0 P wd w.K mg base N d.qual d.scope f cdv A outer s H E) F.deps g)
    (hc : chkSs F d.scope cs d.body = true) : FnOk P wd w.K mg base CX0 (kk + 2 + (if F.lam then 3 else 0) + 1) f fd ps (spP w (runP g w.flds ps.length N.length cs)) := by
  obtain ⟨oc, od, dV, kV, doc, pm, an, cdv, ct, osl, rfl, lk, hcd, _, _⟩ := F0.ex
  exact fn_runP lk hcd S (fun A outer s H E hr => fit_cx B hfr hgl hN S.nd (fun z => absurd (hgd.symm.trans z) Bool.false_ne_true) hr (hd cdv A outer s H E rfl hcd)) hc

theorem def_runG (B : Base P wd w mg base frees globs) (F0 : FunD w.K d.name d.qual d.params d.body d.scope d.dfl [] f fd) (S : FnScope N ps d.scope) (hfr : F.frees = frees) (hgl : F.globs = globs) (hN : F.N = N)
    (hd : ∀ (cdv : Value) (A : Around) (outer : List Env) (s : Shared) (H : Hp) (E : XK), fd.code = cdv → PySem.W.codeIn w.K cdv d.qual = true → Deps w kk (cxOf CX0 P wd w.K mg base N d.qual d.scope f cdv A outer s H E) F.deps g)
    (hc : chkSs F d.scope cs d.body = true) : FnG P wd w.K mg base CX0 (kk + 2 + (if F.lam then 3 else 0) + 1) f fd ps (spD w (run g w.flds ps.length N.length cs)) := by
  obtain ⟨oc, od, dV, kV, doc, pm, an, cdv, ct, osl, rfl, lk, hcd, _, _⟩ := F0.ex
  exact fn_runG lk hcd S (fun A outer s H E hq hr => fit_cx B hfr hgl hN S.nd (fun _ => hq) hr (hd cdv A outer s H E rfl hcd)) hc
theorem dep_fn {x : Str} {sem : DSem} (hm : mg x = some (.ref f)) (hk : PySem.W.keepIn w.K (.ref f) = true) (hb : Binds w.K fd ps []) (h : FnOk P wd w.K mg base CX0 k f fd ps (spD w sem)) : DefOk P wd w mg base k (.fn x) sem :=
  fun _ _ _ _ _ _ _ _ _ _ => ⟨f, hm, hk, fd, ps, hb, h⟩
theorem dep_fnG {x : Str} {sem : DSem} (hm : mg x = some (.ref f)) (hk : PySem.W.keepIn w.K (.ref f) = true) (hb : Binds w.K fd ps []) (h : FnG P wd w.K mg base CX0 k f fd ps (spD w sem)) : DefOk P wd w mg base k (.fnG x) sem :=
  fun _ _ _ _ _ _ _ _ _ _ => ⟨f, hm, hk, fd, ps, hb, h⟩
theorem dep_fnD {x : Str} {sem0 : DSem} {i : Int} (hm : mg x = some (.ref f)) (hk : PySem.W.keepIn w.K (.ref f) = true) (hb : ∃ us, Vals [V.int i] us ∧ Binds w.K fd ps us) (h : FnOk P wd w.K mg base CX0 k f fd ps (spD w sem0)) : DefOk P wd w mg base k (.fnD x i) (fun as s => sem0 (as ++ [.d (.int i)]) s) :=
  fun _ _ _ _ _ _ _ _ _ _ => by
    obtain ⟨us, r, hb⟩ := hb
    cases r with
    | cons r1 r2 =>
      cases r2
      exact ⟨f, hm, hk, fd, ps, _, sem0, hb, r1, h, rfl⟩
theorem dep_cls {x : Str} {sem : DSem} (hm : mg x = some (.ref (w.cls 0))) (hc : ∀ C, w.cls C = w.cls 0) (hk : KitC w.K (w.cls 0)) : DefOk P wd w mg base k (.cls x) sem :=
  fun _ _ _ _ _ _ _ _ _ _ => ⟨hm, hc, hk⟩
theorem dep_strd {sem : DSem} (hc : ∀ C, w.cls C = w.cls 0) (M : strB w.K (w.cls 0) = true) (hb : Binds w.K fd ps []) (h : FnOk P wd w.K mg base CX0 k (He.ma w.K (w.cls 0) "__str__") fd ps (spD w sem)) : DefOk P wd w mg base k .strd sem :=
  fun _ _ _ _ _ _ _ _ _ _ C => ⟨_, by rw [hc]; exact He.eqO_ok (He.ba M).1, (He.ba M).2, fd, ps, hb, h⟩
theorem dep_fnF {x : Str} {sem : DSem} (hm : mg x = some (.ref f)) (hk : PySem.W.keepIn w.K (.ref f) = true) (hb : Binds w.K fd ps []) (h : FnOk P wd w.K mg base CX0 k f fd ps (spF w sem)) : DefOk P wd w mg base k (.fnF x) sem :=
  fun _ _ _ _ _ _ _ _ _ _ => ⟨f, hm, hk, fd, ps, hb, h⟩
theorem dep_fnP {x : Str} {sem : DSem} (hm : mg x = some (.ref f)) (hk : PySem.W.keepIn w.K (.ref f) = true) (hb : Binds w.K fd ps []) (h : FnOk P wd w.K mg base CX0 k f fd ps (spP w sem)) : DefOk P wd w mg base k (.fnP x) sem :=
  fun _ _ _ _ _ _ _ _ _ _ => ⟨f, hm, hk, fd, ps, hb, h⟩
theorem dep_mk {x : Str} {sem : DSem} (hm : mg x = some (.ref (w.cls 0))) (M : Mk w.K (w.cls 0) f) (hb : Binds w.K fd ps []) (h : FnOk P wd w.K mg base CX0 k f fd ps (spI w 0 sem)) : DefOk P wd w mg base k (.mk x) sem :=
  fun _ _ _ _ _ _ _ _ _ _ => ⟨0, f, hm, M, fd, ps, hb, h⟩
theorem dep_prop {x : Str} {sem : DSem} {p : Addr} (hc : ∀ C, w.cls C = w.cls 0) (M : PropOf w.K (w.cls 0) x p f) (hb : Binds w.K fd ps []) (h : FnOk P wd w.K mg base CX0 k f fd ps (spD w sem)) : DefOk P wd w mg base k (.prop x) sem :=
  fun _ _ _ _ _ _ _ _ _ _ C => ⟨p, f, by rw [hc]; exact M, fd, ps, hb, h⟩
theorem dep_len {sem : DSem} (hc : ∀ C, w.cls C = w.cls 0) (M : lenB w.K (w.cls 0) = true) (hb : Binds w.K fd ps []) (h : FnOk P wd w.K mg base CX0 k (He.ma w.K (w.cls 0) "__len__") fd ps (spD w sem)) : DefOk P wd w mg base k .len sem :=
  fun _ _ _ _ _ _ _ _ _ _ C => ⟨_, by rw [hc]; exact He.eqO_ok (He.ba M).1, (He.ba M).2, fd, ps, hb, h⟩

def vGot : List Stmt → Option (Str × Str)
  | [.Try [.Assign [.Name y _] (.Call (.Name a _) [] [] _) _] (_ :: _) [] [] _, .Return (some (.Name z _)) _] => if y = z then some (a, y) else none
  | _ => none
theorem vGot_ok {bg : List Stmt} {a y : Str} (h : vGot bg = some (a, y)) : ∃ (h0 : ExceptHandler) (hs : List ExceptHandler) (p1 p2 p3 p4 p5 p6 p7 : Pos), bg = [.Try [.Assign [.Name y p1] (.Call (.Name a p2) [] [] p3) p4] (h0 :: hs) [] [] p5, .Return (some (.Name y p6)) p7] := by
  unfold vGot at h
  split at h
  · split at h
    · rename_i e
      cases h
      subst e
      exact ⟨_, _, _, _, _, _, _, _, _, rfl⟩
    · cases h
  · cases h
theorem dep_tld {x a y : Str} {c Pt : Addr} {sg : Scope} {pg : Arguments} {bg : List Stmt} {g : Addr} (hm : mg x = some (.ref g)) (F0 : FunD w.K x x pg bg sg [] [] g fd) (hb : Binds w.K fd [a] []) (S : FnScope [a, y] [a] sg) (hva : Vis sg a) (hbg : vGot bg = some (a, y)) (hay : a ≠ y) (hy : sg.names.lookup y = some .local)
    (hya : (y == ("__debug__" : Str)) = false ∧ (y == ("__classdict__" : Str)) = false ∧ (a == ("__debug__" : Str)) = false ∧ (a == ("__classdict__" : Str)) = false)
    (TB : LamX.TabB base mg c Pt) {N : List Str} {qual : Str} {scope : Scope} {fa : Addr} {cdv : Value} {A : Around} {outer : List Env} {s : Shared} {H : Hp} {E : XK} (hcode : cdv = .ref c) (hT : (Pt, qual ++ ".<locals>." ++ "<lambda>") ∈ w.T) (hu : ∀ p ∈ w.T, p.1 = Pt → p.2 = qual ++ ".<locals>." ++ "<lambda>") {kk : Nat} {sem : DSem} :
    DepOk w kk (cxOf CX0 P wd w.K mg base N qual scope fa cdv A outer s H E) (.tld x) sem := by
  obtain ⟨oc, od, dV, kV, doc, pm, an, cdg, ct, osl, rfl, lk, hcd, _, _⟩ := F0.ex
  obtain ⟨h0, hs, p1, p2, p3, p4, p5, p6, p7, rfl⟩ := vGot_ok hbg
  exact ⟨a, g, c, Pt, pg, _, sg, dV, kV, doc, pm, cdg, ct, oc, an, od, osl, [a, y], hm, F0.kp, lk, hcd, hb, S, rfl, hva, TB, hcode, hT, hu, got_gives rfl hay hy hya.1 hya.2.1, hya.2.2.1, hya.2.2.2⟩

theorem dep_lamk {c Pt : Addr} (TB : LamX.TabB base mg c Pt) {N : List Str} {qual : Str} {scope : Scope} {fa : Addr} {cdv : Value} {A : Around} {outer : List Env} {s : Shared} {H : Hp} {E : XK} (hcode : cdv = .ref c) (hT : (Pt, qual ++ ".<locals>." ++ "<lambda>") ∈ w.T) (hu : ∀ p ∈ w.T, p.1 = Pt → p.2 = qual ++ ".<locals>." ++ "<lambda>") {kk : Nat} {sem : DSem} :
    DepOk w kk (cxOf CX0 P wd w.K mg base N qual scope fa cdv A outer s H E) .lamk sem := ⟨c, Pt, TB, hcode, hT, hu⟩

def tabN (K : Frag) (tf : List He.Defn) : List (Addr × Str) := tf.map fun p => ((He.cT K p).2, p.1 ++ ".<locals>." ++ "<lambda>")
theorem start_ok {K : Frag} {H : Hp} {a : Addr} {ns : List Int} (hw : w.K = K) (hT : ∀ p ∈ w.T, H p.1 = some (.tbl #[])) (hS : SqL K H a (ns.map V.int)) : ∃ G, Ok w [] G [] H ∧ Den w G (.lst (ns.map D.int)) (.ref a) := by
  have dn : ∀ (G : Hp) (l : List Int), Dens w G (l.map D.int) (l.map V.int) := fun G l => by
    induction l with
    | nil => exact .nil
    | cons x r ih => exact .cons (.int x) ih
  have mk : ∀ G, Le G H → (∀ b o, G b = some o → notTbl o) → Ok w [] G [] H := fun G h1 h2 => ⟨h1, h2, rfl, List.nodup_nil, fun a h => by simp at h, fun k c a h _ => by simp at h, fun p hp => LamX.TabS.nil (hT p hp), fun a h => by simp at h⟩
  rcases hS with (r | ⟨o, r⟩) | r
  · refine ⟨upd (fun _ => none) a (.lst (ns.map V.int)), mk _ (fun b u h => ?_) (fun b u h => ?_), .lst (vs := ns.map V.int) (.inl (.inl (by rw [upd_same]))) (dn _ ns)⟩
    · by_cases e : b = a
      · subst e; rw [upd_same] at h; cases h; exact r
      · rw [upd_ne e] at h; cases h
    · by_cases e : b = a
      · subst e; rw [upd_same] at h; cases h; exact nt_lst
      · rw [upd_ne e] at h; cases h
  · refine ⟨upd (fun _ => none) a (.frz o (.lst (ns.map V.int))), mk _ (fun b u h => ?_) (fun b u h => ?_), .lst (vs := ns.map V.int) (.inl (.inr ⟨o, by rw [upd_same]⟩)) (dn _ ns)⟩
    · by_cases e : b = a
      · subst e; rw [upd_same] at h; cases h; exact r
      · rw [upd_ne e] at h; cases h
    · by_cases e : b = a
      · subst e; rw [upd_same] at h; cases h; exact nt_frz
      · rw [upd_ne e] at h; cases h
  · exact ⟨fun _ => none, mk _ (fun b u h => by cases h) (fun b u h => by cases h), .lst (vs := ns.map V.int) (.inr (by rw [hw]; exact r)) (dn _ ns)⟩
theorem law_atG {l : PySem.W.OpenLaw} {w0 : World} {n : Nat} {x : Str} {fa : Addr} {h : Heap} {sem : DSem} {tf : List He.Defn} {ffa : List He.Fa} {fn : List DP} {ex : Frag → Bool} (hP : l.prog = P) (X : w.K.In h) (c : SaysR ffa fn tf ex h w.K) (hT : w.T = tabN w.K tf) (F0 : FunD w.K d.name d.qual d.params d.body d.scope d.dfl [] fa fd)
    (hb : ∀ (s : Shared) (u : Value), BindsTo s fd ⟨[u], []⟩ [(x, u)]) (hlaw : ∀ ns : List Int, ns.length ≤ n → (∀ z ∈ ns, Builtin.Int.intBits z ≤ 1048576) → ∃ st, sem [.d (.lst (ns.map D.int))] [] = some (.d (.bl true), st))
    (hF : ∀ base : Heap, w.K.In base → base.Ns mainGlobals mg → (∀ p ∈ tf, LamX.TabB base mg (He.cT w.K p).1 (He.cT w.K p).2) → FnG P w0 w.K mg base CX0 k fa fd [x] (spD w sem)) : LawG l w0 w.K CX0 k n x mg fa h := by
  refine ⟨fd, tf.map (He.cT w.K), spD w sem, ⟨fun p hp => ?_, fun p hp => ?_, fun p hp => ?_⟩, hb, fun H a ns hn hbits hTb hS => ?_, fun base B1 B2 hTB => ?_⟩
  · obtain ⟨q, hq, rfl⟩ := List.mem_map.mp hp
    exact c.empty q hq
  · obtain ⟨q, hq, rfl⟩ := List.mem_map.mp hp
    exact c.out q hq
  · obtain ⟨q, hq, rfl⟩ := List.mem_map.mp hp
    exact PySem.W.codeHd_of_K X (c.hd q hq)
  · obtain ⟨G, k0, d0⟩ := start_ok (w := w) (H := H) (a := a) (ns := ns) rfl (fun p hp => by
      rw [hT] at hp
      obtain ⟨q, hq, rfl⟩ := List.mem_map.mp hp
      exact hTb _ (List.mem_map.mpr ⟨q, hq, rfl⟩)) hS
    obtain ⟨st, hs⟩ := hlaw ns hn hbits
    refine ⟨[], G, [], [.d (.lst (ns.map D.int))], _, st, k0, .cons d0 .nil, hs, fun v kap' G' H' S' k' r => ?_⟩
    cases (show Den w G' (.bl true) v from r)
    rfl
  · rw [hP]
    exact hF base B1 B2 fun p hp => hTB _ (List.mem_map.mpr ⟨p, hp, rfl⟩)
theorem law_at {l : PySem.W.OpenLaw} {w0 : World} {n : Nat} {x : Str} {fa : Addr} {h : Heap} {sem : DSem} {tf : List He.Defn} {ffa : List He.Fa} {fn : List DP} {ex : Frag → Bool} (hP : l.prog = P) (X : w.K.In h) (c : SaysR ffa fn tf ex h w.K) (hT : w.T = tabN w.K tf) (F0 : FunD w.K d.name d.qual d.params d.body d.scope d.dfl [] fa fd)
    (hb : ∀ (s : Shared) (u : Value), BindsTo s fd ⟨[u], []⟩ [(x, u)]) (hlaw : ∀ ns : List Int, ns.length ≤ n → (∀ z ∈ ns, Builtin.Int.intBits z ≤ 1048576) → ∃ st, sem [.d (.lst (ns.map D.int))] [] = some (.d (.bl true), st))
    (hF : ∀ base : Heap, w.K.In base → base.Ns mainGlobals mg → (∀ p ∈ tf, LamX.TabB base mg (He.cT w.K p).1 (He.cT w.K p).2) → FnOk P w0 w.K mg base CX0 k fa fd [x] (spD w sem)) : LamX.LawAtS l w0 w.K CX0 k n x mg fa h := by
  refine ⟨fd, tf.map (He.cT w.K), spD w sem, fun p hp => ?_, fun p hp => ?_, fun p hp => ?_, hb, fun H a ns hn hbits hTb hS => ?_, fun base B1 B2 hTB => ?_⟩
  · obtain ⟨q, hq, rfl⟩ := List.mem_map.mp hp
    exact c.empty q hq
  · obtain ⟨q, hq, rfl⟩ := List.mem_map.mp hp
    exact c.out q hq
  · obtain ⟨q, hq, rfl⟩ := List.mem_map.mp hp
    exact PySem.W.codeHd_of_K X (c.hd q hq)
  · obtain ⟨G, k0, d0⟩ := start_ok (w := w) (H := H) (a := a) (ns := ns) rfl (fun p hp => by
      rw [hT] at hp
      obtain ⟨q, hq, rfl⟩ := List.mem_map.mp hp
      exact hTb _ (List.mem_map.mpr ⟨q, hq, rfl⟩)) hS
    obtain ⟨st, hs⟩ := hlaw ns hn hbits
    refine ⟨[], G, [], [.d (.lst (ns.map D.int))], _, st, k0, .cons d0 .nil, hs, fun v kap' G' H' S' k' r => ?_⟩
    cases (show Den w G' (.bl true) v from r)
    rfl
  · rw [hP]
    exact hF base B1 B2 fun p hp => hTB _ (List.mem_map.mpr ⟨p, hp, rfl⟩)
end
end DL

set_option Elab.async false
set_option linter.all false
set_option autoImplicit false
set_option maxRecDepth 100000
set_option maxHeartbeats 1000000
namespace DL
open PySem L2 PySem.Spec PyProof.Rows
def globFa (q : Str × D) : He.Fa := match q.2 with
  | .int i => .int q.1 i
  | .str z => .str q.1 z
  | _ => .free q.1
/-- the facts' list: the defs' names, the free ones, the constants -/
def faOf (glos frees : List Str) (globs : List (Str × D)) : List He.Fa := glos.map .glo ++ (frees.map .free ++ globs.map globFa)
def flat (q : Str × D) : Bool := match q.2 with
  | .int _ => true
  | .str _ => true
  | _ => false
def tabW (K : Frag) (fs : List Str) (tf : List He.Defn) : Wd := ⟨K, fun _ => He.ga K "Posts", fun _ => fs, tabN K tf⟩
/-- what is known at a row's head -/
structure Row (glos frees : List Str) (globs : List (Str × D)) (fn : List DP) (tf : List He.Defn) (ex : Frag → Bool) (K : Frag) (mg : Str → Option Value) (base h : Heap) : Prop where
  say : SaysR (faOf glos frees globs) fn tf ex h K
  kin : K.In h
  ns : h.Ns mainGlobals mg
  tb : ∀ p ∈ tf, LamX.TabB base mg (He.cT K p).1 (He.cT K p).2
section
variable {glos frees : List Str} {globs : List (Str × D)} {fn : List DP} {tf : List He.Defn} {ex : Frag → Bool} {K : Frag} {mg : Str → Option Value} {base h : Heap} {P : Program} {wd : World}
theorem Row.glo (C : Row glos frees globs fn tf ex K mg base h) (i : Nat) {x : Str} (e : glos[i]? = some x) : mg x = some (.ref (He.ga K x)) :=
  He.glo_ok C.kin C.ns (C.say.fact (List.mem_append_left _ (List.mem_map.mpr ⟨x, List.mem_of_getElem? e, rfl⟩)))
theorem Row.def_ (C : Row glos frees globs fn tf ex K mg base h) (i : Nat) {d : DP} (e : fn[i]? = some d) : ∃ fd, FunD K d.name d.qual d.params d.body d.scope d.dfl [] (d.path K) fd := C.say.def_ (List.mem_of_getElem? e)
theorem Row.base_ok {fs : List Str} (C : Row glos frees globs fn tf ex K mg base h) (hf : globs.all flat = true) (hc : clsB K (He.ga K "Posts") fs = true) : Base P wd (tabW K fs tf) mg base frees globs := by
  refine ⟨clsB_ok (fs := fs) (fun _ => rfl) (fun _ => rfl) hc, fun x hx => ?_, fun q hq => ?_⟩
  · exact He.free_ok C.kin C.ns (C.say.fact (List.mem_append_right _ (List.mem_append_left _ (List.mem_map.mpr ⟨x, hx, rfl⟩))))
  · have f := C.say.fact (List.mem_append_right _ (List.mem_append_right _ (List.mem_map.mpr ⟨q, hq, rfl⟩)))
    have fl := List.all_eq_true.mp hf q hq
    obtain ⟨x, d⟩ := q
    cases d with
    | int i =>
      obtain ⟨t, e⟩ := He.int_ok C.kin C.ns (show (He.Fa.int x i).ok K = true from f)
      exact .inl ⟨i, t, rfl, e⟩
    | str z =>
      obtain ⟨t, e⟩ := He.str_ok C.kin C.ns (show (He.Fa.str x z).ok K = true from f)
      exact .inr ⟨z, t, rfl, e⟩
    | _ => cases fl
theorem tab_uniq {α β : Type} {f : α → β} : ∀ {l : List α}, (l.map f).Nodup → ∀ {a b : α}, a ∈ l → b ∈ l → f a = f b → a = b
  | [], _, _, _, h, _, _ => by cases h
  | x :: l, nd, a, b, ha, hb, e => by
    obtain ⟨h1, h2⟩ := List.nodup_cons.mp nd
    rcases List.mem_cons.mp ha with p1 | p1
    · rcases List.mem_cons.mp hb with p2 | p2
      · rw [p1, p2]
      · exact absurd (List.mem_map.mpr ⟨b, p2, by rw [← e, p1]⟩) h1
    · rcases List.mem_cons.mp hb with p2 | p2
      · exact absurd (List.mem_map.mpr ⟨a, p1, by rw [e, p2]⟩) h1
      · exact tab_uniq h2 p1 p2 e
/-- the lambda's call, in the def p -/
theorem Row.tld {fs : List Str} {w : Wd} (hw : w = tabW K fs tf) (C : Row glos frees globs fn tf ex K mg base h) (nd : (tf.map fun p => (He.cT K p).2).Nodup) {x p a y : Str} {d : DP} {g : Addr} {fd fg : FuncData} {kk : Nat} {sem : DSem}
    (hp : (p, none) ∈ tf) (hpd : d.path K = He.ga K p) (hq : d.qual = p) (F : FunD K d.name d.qual d.params d.body d.scope d.dfl [] (d.path K) fd)
    (hm : mg x = some (.ref g)) {pg : Arguments} {bg : List Stmt} {sg : Scope} (F0 : FunD w.K x x pg bg sg [] [] g fg) (hb : Binds w.K fg [a] []) (S : FnScope [a, y] [a] sg) (hva : Vis sg a) (hbg : vGot bg = some (a, y)) (hay : a ≠ y) (hy : sg.names.lookup y = some .local)
    (hya : (y == ("__debug__" : Str)) = false ∧ (y == ("__classdict__" : Str)) = false ∧ (a == ("__debug__" : Str)) = false ∧ (a == ("__classdict__" : Str)) = false)
    {N : List Str} {scope : Scope} {fa : Addr} {cdv : Value} {A : Around} {outer : List Env} {s : Shared} {H : Hp} {E : XK} (e1 : fd.code = cdv) (e2 : PySem.W.codeIn K cdv d.qual = true) :
    DepOk w kk (cxOf CX0 P wd w.K mg base N d.qual scope fa cdv A outer s H E) (.tld x) sem := by
  subst hw
  obtain ⟨c, hc⟩ := He.codeIn_ref e2
  obtain ⟨oc, od, dV, kV, doc, pm, an, cdg, ct, osl, e3, lk, _⟩ := F.ex
  have e4 : He.codeOf K (p, none) = c := He.codeOf_eq (p := (p, none)) (fd := fd) (by
    show K.lookup (He.ga K p) = _
    rw [← hpd]
    exact lk) (by rw [e1, hc])
  refine dep_tld hm F0 hb S hva hbg hay hy hya (C.tb _ hp) (by rw [hc]; show _ = Value.ref (He.codeOf K (p, none)); rw [e4]) ?_ ?_
  · rw [hq]
    exact List.mem_map.mpr ⟨(p, none), hp, rfl⟩
  · intro q hq2 e
    obtain ⟨r, hr, rfl⟩ := List.mem_map.mp hq2
    have := tab_uniq nd hr hp e
    subst this
    rw [hq]
theorem Row.lamk {fs : List Str} {w : Wd} (hw : w = tabW K fs tf) (C : Row glos frees globs fn tf ex K mg base h) (nd : (tf.map fun p => (He.cT K p).2).Nodup) {p : Str} {d : DP} {fd : FuncData} {kk : Nat} {sem : DSem}
    (hp : (p, none) ∈ tf) (hpd : d.path K = He.ga K p) (hq : d.qual = p) (F : FunD K d.name d.qual d.params d.body d.scope d.dfl [] (d.path K) fd)
    {N : List Str} {scope : Scope} {fa : Addr} {cdv : Value} {A : Around} {outer : List Env} {s : Shared} {H : Hp} {E : XK} (e1 : fd.code = cdv) (e2 : PySem.W.codeIn K cdv d.qual = true) :
    DepOk w kk (cxOf CX0 P wd w.K mg base N d.qual scope fa cdv A outer s H E) .lamk sem := by
  subst hw
  obtain ⟨c, hc⟩ := He.codeIn_ref e2
  obtain ⟨oc, od, dV, kV, doc, pm, an, cdg, ct, osl, e3, lk, _⟩ := F.ex
  have e4 : He.codeOf K (p, none) = c := He.codeOf_eq (p := (p, none)) (fd := fd) (by
    show K.lookup (He.ga K p) = _
    rw [← hpd]
    exact lk) (by rw [e1, hc])
  refine dep_lamk (C.tb _ hp) (by rw [hc]; show _ = Value.ref (He.codeOf K (p, none)); rw [e4]) ?_ ?_
  · rw [hq]
    exact List.mem_map.mpr ⟨(p, none), hp, rfl⟩
  · intro q hq2 e
    obtain ⟨r, hr, rfl⟩ := List.mem_map.mp hq2
    have := tab_uniq nd hr hp e
    subst this
    rw [hq]
structure InitV where
  x1 : Expr
  r1 : List Stmt
  x2 : Expr
  x3 : Expr
  r3 : List Stmt
  fa : Str
  fb : Str
  x5 : Expr
  q2 : Pos
def vInit : List Stmt → Option InitV
  | [.If x1 r1 [] _, .Assign [.Name a q2] x2 _, .If x3 r3 [] _, .Assign [.Attribute (.Name b _) fa _] (.Name c _) _, .Assign [.Attribute (.Name d _) fb _] x5 _] =>
    if a = "wrong" ∧ b = "self" ∧ c = "places" ∧ d = "self" then some ⟨x1, r1, x2, x3, r3, fa, fb, x5, q2⟩ else none
  | _ => none
theorem vInit_ok {b : List Stmt} {v : InitV} (h : vInit b = some v) : ∃ p1 p2 p3 p4 p5 q4 q5 n4 n5 v4, b = [.If v.x1 v.r1 [] p1, .Assign [.Name "wrong" v.q2] v.x2 p2, .If v.x3 v.r3 [] p3, .Assign [.Attribute (.Name "self" n4) v.fa q4] (.Name "places" v4) p4, .Assign [.Attribute (.Name "self" n5) v.fb q5] v.x5 p5] := by
  unfold vInit at h
  split at h
  · split at h
    · rename_i c
      obtain ⟨rfl, rfl, rfl, rfl⟩ := c
      cases h
      exact ⟨_, _, _, _, _, _, _, _, _, _, rfl⟩
    · cases h
  · cases h
def initB (F : Fx) (sc : Scope) (t1 e2 t3 e5 : CE) (fa fb : Str) (b : List Stmt) : Bool := match vInit b with
  | some v => decide (v.fa = fa) && (decide (v.fb = fb) && (decide (F.N = N0) && (locB sc "self" && (locB sc "places" && (locB sc "wrong" && (chk F false sc t1 v.x1 && (tstOk t1 v.x1 && (chk F false sc e2 v.x2 && (chk F false sc t3 v.x3 && (tstOk t3 v.x3 && (chk F false sc e5 v.x5 && (plainStore sc (.Name "wrong" v.q2) v.x2 && !isComp v.x5))))))))))))
  | none => false
theorem def_init {w : Wd} {kk : Nat} {f : Addr} {fd : FuncData} {d : DP} {F : Fx} {g : List DSem} {t1 e2 t3 e5 : CE} {fa fb : Str} (B : Base P wd w mg base frees globs) (F0 : FunD w.K d.name d.qual d.params d.body d.scope d.dfl [] f fd) (S : FnScope N0 P0 d.scope) (hfr : F.frees = frees) (hgl : F.globs = globs) (hl : F.lam = false) (hgd : F.gd = false)
    (hfl : w.flds 0 = [fa, fb]) (hne : fa ≠ fb) (hc : initB F d.scope t1 e2 t3 e5 fa fb d.body = true)
    (hd : ∀ (cdv : Value) (A : Around) (outer : List Env) (s : Shared) (H : Hp) (E : XK), Deps w kk (cxOf CX0 P wd w.K mg base N0 d.qual d.scope f cdv A outer s H E) F.deps g) : FnOk P wd w.K mg base CX0 (kk + 2 + 1) f fd P0 (spI w 0 (initD g w.flds t1 e2 t3 e5)) := by
  obtain ⟨oc, od, dV, kV, doc, pm, an, cdv, ct, osl, e0, lk, hcd, _, _⟩ := F0.ex
  unfold initB at hc
  cases hv : vInit d.body with
  | none => rw [hv] at hc; cases hc
  | some v =>
    rw [hv] at hc
    obtain ⟨p1, p2, p3, p4, p5, q4, q5, n4, n5, v4, hb⟩ := vInit_ok hv
    simp only [Bool.and_eq_true] at hc
    obtain ⟨c1, c2, c3, c4, c5, c6, c7, c8, c9, c10, c11, c12, c13, c14⟩ := hc
    have f1 := of_decide_eq_true c1
    have f2 := of_decide_eq_true c2
    subst f1 f2
    rw [hb] at e0
    subst e0
    refine fn_init hfl hne lk hcd S (of_decide_eq_true c3) c4 c5 c6 (fun A outer s H E hr => fit_cx B hfr hgl (of_decide_eq_true c3) S.nd (fun z => absurd (hgd.symm.trans z) Bool.false_ne_true) (by rw [hl]; exact hr) (hd cdv A outer s H E)) c7 c8 c9 c10 c11 c12 c13 (by simpa using c14)
end
end DL

set_option Elab.async false
set_option linter.all false
set_option autoImplicit false
set_option maxRecDepth 100000
set_option maxHeartbeats 0
namespace DL
open PySem L2 PySem.Spec PyProof.Rows
theorem funD_uniq {K : Frag} {x q : Str} {pa : Arguments} {b : List Stmt} {sc : Scope} {f : Addr} {fd fd' : FuncData} (A : FunD K x q pa b sc [] [] f fd) (B : FunD K x q pa b sc [] [] f fd') : fd = fd' := by
  obtain ⟨_, _, _, _, _, _, _, _, _, _, _, l1, _⟩ := A.ex
  obtain ⟨_, _, _, _, _, _, _, _, _, _, _, l2, _⟩ := B.ex
  rw [l1] at l2
  cases l2
  rfl
end DL

set_option Elab.async false
set_option linter.all false
set_option autoImplicit false
set_option maxRecDepth 100000
set_option maxHeartbeats 0
namespace SD
open PySem L2 DL
abbrev fl : Nat → List Str := fun _ => ["spots", "links"]
def g_law_draw : List DSem := []
def c_law_draw : CS :=
  (.seq (.setC 0 (.cint 2) (.bin .Add (.idxC 0 (.cint 2)) (.cint 1))) (.seq (.asg (.nm 2) (.blt .int (.cons (.idxC 0 (.cint 1)) .nil))) (.seq (.setC 0 (.cint 1) (.bin .Mod (.blt .int (.cons (.bin .Add (.bin .Add (.bin .Mult (.var 2) (.bin .Add (.bin .Mod (.blt .int (.cons (.var 2) .nil)) (.cint 20011)) (.cint 30029))) (.bin .Mult (.cint 77723) (.idxC 0 (.cint 2)))) (.cint 3)) .nil)) (.cint 2147483587))) (.seq (.ite (.cmp .Gt (.idxC 0 (.cint 0)) (.cint 0)) (.seq (.asgX 0 (.cint 0) 3 (.blt .divmod (.cons (.idxC 0 (.cint 0)) (.cons (.var 1) .nil)))) (.seq (.ret (.var 3)) .skip)) .skip) (.seq (.ret (.bin .Mod (.blt .int (.cons (.bin .FloorDiv (.idxC 0 (.cint 1)) (.cint 256)) .nil)) (.var 1))) .skip)))))
def e_law_draw : DSem := run g_law_draw fl 2 4 c_law_draw
def g_law_pick : List DSem := [e_law_draw]
@[simp] theorem g_law_pick_0 : g_law_pick[0]? = some e_law_draw := rfl
def c_law_pick : CS :=
  (.seq (.ret (.idx (.var 1) (.call 0 (.cel 0 (.cons (.blt .len (.cons (.var 1) .nil)) .nil))))) .skip)
def e_law_pick : DSem := run g_law_pick fl 2 2 c_law_pick
def b_law_names_1 : CS :=
  (.seq (.asg (.nm 4) (.bin .Add (.var 4) (.idx (.cstr "abcdefghijklmnopqrstuvwxyz0123456789") (.call 0 (.cel 0 (.cons (.cint 36) .nil)))))) .skip)
def b_law_names_2 : CS :=
  (.seq (.asg (.nm 4) (.idx (.cstr "abcdefghijklmnopqrstuvwxyz") (.call 0 (.cel 0 (.cons (.cint 26) .nil))))) (.seq (.for_ (.nm 5) (.rng1 (.call 1 (.cel 0 (.cons (.lst (.cons (.cint 0) (.cons (.cint 0) (.cons (.cint 1) (.cons (.cint 2) (.cons (.cint 7) .nil)))))) .nil)))) b_law_names_1) (.seq (.ite (.cmp .Eq (.call 0 (.cel 0 (.cons (.cint 9) .nil))) (.cint 0)) (.seq (.asg (.nm 4) (.call 1 (.cel 0 (.cons (.lst (.cons (.cstr "posts") (.cons (.cstr "part") (.cons (.cstr "two") (.cons (.cstr "fits") (.cons (.cstr "none") .nil)))))) .nil)))) .skip) .skip) (.seq (.appC 2 (.ite (.inC true (.var 4) 2) (.var 4) (.bin .Add (.cstr "place") (.blt .str (.cons (.var 3) .nil))))) .skip))))
def g_law_names : List DSem := [e_law_draw, e_law_pick]
@[simp] theorem g_law_names_0 : g_law_names[0]? = some e_law_draw := rfl
@[simp] theorem g_law_names_1 : g_law_names[1]? = some e_law_pick := rfl
def c_law_names : CS :=
  (.seq (.asgC 2 (.lst .nil)) (.seq (.for_ (.nm 3) (.rng1 (.var 1)) b_law_names_2) (.gho 2 (.seq (.ret (.blt .tuple (.cons (.var 2) .nil))) .skip))))
def e_law_names : DSem := run g_law_names fl 2 6 c_law_names
def b_law_route_1 : CS :=
  (.seq (.appC 4 (.popC 3 (.call 0 (.cel 0 (.cons (.lenC 3) .nil))))) .skip)
def g_law_route : List DSem := [e_law_draw]
@[simp] theorem g_law_route_0 : g_law_route[0]? = some e_law_draw := rfl
def c_law_route : CS :=
  (.seq (.asg2 3 4 (.fre (.blt .list (.cons (.var 1) .nil)) (.fre (.lst .nil) .nil))) (.seq (.for_ (.nm 2) (.rng1 (.bin .Add (.cint 2) (.call 0 (.cel 0 (.cons (.bin .Sub (.blt .len (.cons (.var 1) .nil)) (.cint 1)) .nil))))) b_law_route_1) (.gho 4 (.seq (.ret (.blt .tuple (.cons (.var 4) .nil))) .skip))))
def e_law_route : DSem := run g_law_route fl 2 5 c_law_route
def x_law_shares_1 : CE :=
  (.tup (.cons (.call 2 (.cel 0 (.cons (.var 1) .nil))) (.cons (.bin .Mult (.bin .Add (.cint 1) (.call 1 (.cel 0 (.cons (.cint 3) .nil)))) (.var 2)) .nil)))
def g_law_shares : List DSem := [e_law_pick, e_law_draw, e_law_route]
@[simp] theorem g_law_shares_0 : g_law_shares[0]? = some e_law_pick := rfl
@[simp] theorem g_law_shares_1 : g_law_shares[1]? = some e_law_draw := rfl
@[simp] theorem g_law_shares_2 : g_law_shares[2]? = some e_law_route := rfl
def c_law_shares : CS :=
  (.seq (.asg (.nm 2) (.call 0 (.cel 0 (.cons (.lst (.cons (.cint 1) (.cons (.cint 1) (.cons (.cint 1) (.cons (.cint 2) (.cons (.bin .Pow (.cint 10) (.cint 9)) (.cons (.bin .Pow (.cint 10) (.cint 28)) .nil))))))) .nil)))) (.seq (.ret (.comp x_law_shares_1 (.nm 3) (.rng1 (.call 1 (.cel 0 (.cons (.cint 7) .nil)))) .yes [3])) .skip))
def e_law_shares : DSem := run g_law_shares fl 2 4 c_law_shares
def x_law_spans_1 : CE :=
  (.tup (.cons (.var 2) (.cons (.var 3) .nil)))
def b_law_spans_2 : CS :=
  (.seq (.asg (.nm 1) (.bin .Add (.var 1) (.comp x_law_spans_1 (.nm 3) (.rng2 (.bin .Add (.var 2) (.cint 1)) (.var 0)) .yes [3]))) .skip)
def g_law_spans : List DSem := []
def c_law_spans : CS :=
  (.seq (.asg (.nm 1) (.lst .nil)) (.seq (.for_ (.nm 2) (.rng1 (.var 0)) b_law_spans_2) (.seq (.ret (.var 1)) .skip)))
def e_law_spans : DSem := run g_law_spans fl 1 4 c_law_spans
def x_law_loads_1 : CE :=
  (.mth .index (.var 0) (.cons (.var 11) .nil))
def b_law_loads_2 : CS :=
  (.seq (.asg (.nm 9) (.mth .index (.var 2) (.cons (.tup (.cons (.blt .min2 (.cons (.idx (.var 7) (.var 8)) (.cons (.idx (.var 7) (.bin .Add (.var 8) (.cint 1))) .nil))) (.cons (.blt .max2 (.cons (.idx (.var 7) (.var 8)) (.cons (.idx (.var 7) (.bin .Add (.var 8) (.cint 1))) .nil))) .nil))) .nil))) (.seq (.setC 3 (.var 9) (.bin .Add (.idxC 3 (.var 9)) (.var 6))) .skip))
def b_law_loads_3 : CS :=
  (.seq (.asg (.nm 7) (.comp x_law_loads_1 (.nm 11) (.var 5) .yes [11])) (.seq (.for_ (.nm 8) (.rng1 (.bin .Sub (.blt .len (.cons (.var 7) .nil)) (.cint 1))) b_law_loads_2) (.seq (.asg (.nm 9) (.mth .index (.var 2) (.cons (.tup (.cons (.blt .min2 (.cons (.idx (.var 7) (.cint 0)) (.cons (.idx (.var 7) (.neg (.cint 1))) .nil))) (.cons (.blt .max2 (.cons (.idx (.var 7) (.cint 0)) (.cons (.idx (.var 7) (.neg (.cint 1))) .nil))) .nil))) .nil))) (.seq (.setC 4 (.var 9) (.bin .Add (.idxC 4 (.var 9)) (.var 6))) .skip))))
def g_law_loads : List DSem := [e_law_spans]
@[simp] theorem g_law_loads_0 : g_law_loads[0]? = some e_law_spans := rfl
def c_law_loads : CS :=
  (.seq (.asg (.nm 2) (.call 0 (.cons (.blt .len (.cons (.var 0) .nil)) .nil))) (.seq (.asg2 3 4 (.fre (.comp (.cint 0) (.nm 10) (.var 2) .yes [10]) (.fre (.comp (.cint 0) (.nm 10) (.var 2) .yes [10]) .nil))) (.seq (.for_ (.tp (.cons (.nm 5) (.cons (.nm 6) .nil))) (.var 1) b_law_loads_3) (.gho 4 (.gho 3 (.seq (.ret (.tup (.cons (.var 3) (.cons (.var 4) .nil)))) .skip))))))
def e_law_loads : DSem := run g_law_loads fl 2 12 c_law_loads
def b_law_parted_1 : CS :=
  (.seq (.asg (.tp (.cons (.nm 6) (.cons (.nm 7) .nil))) (.popC 4 (.call 0 (.cel 0 (.cons (.lenC 4) .nil))))) (.seq (.asg (.nm 5) (.bin .Mult (.call 0 (.cel 0 (.cons (.cint 2) .nil))) (.bin .FloorDiv (.var 7) (.cint 2)))) (.seq (.asg (.nm 6) (.ite (.cmp .Eq (.call 0 (.cel 0 (.cons (.cint 3) .nil))) (.cint 0)) (.rev (.var 6)) (.var 6))) (.seq (.ite (.cmp .Gt (.var 5) (.cint 0)) (.seq (.appC 3 (.tup (.cons (.var 6) (.cons (.var 5) .nil)))) .skip) .skip) (.seq (.appC 3 (.tup (.cons (.var 6) (.cons (.bin .Sub (.var 7) (.var 5)) .nil)))) .skip)))))
def g_law_parted : List DSem := [e_law_draw]
@[simp] theorem g_law_parted_0 : g_law_parted[0]? = some e_law_draw := rfl
def c_law_parted : CS :=
  (.seq (.asg2 3 4 (.fre (.lst .nil) (.fre (.blt .list (.cons (.var 1) .nil)) .nil))) (.seq (.for_ (.nm 2) (.rng1 (.blt .len (.cons (.var 1) .nil))) b_law_parted_1) (.gho 4 (.gho 3 (.seq (.ret (.blt .tuple (.cons (.var 3) .nil))) .skip)))))
def e_law_parted : DSem := run g_law_parted fl 2 8 c_law_parted
def g_law_text : List DSem := []
def c_law_text : CS :=
  (.seq (.ret (.mth .join (.cstr " ") (.cons (.bin .Add (.tup (.cons (.cstr "posts") .nil)) (.var 0)) .nil))) .skip)
def e_law_text : DSem := run g_law_text fl 1 1 c_law_text
def g_law_bent : List DSem := [e_law_draw, e_law_pick]
@[simp] theorem g_law_bent_0 : g_law_bent[0]? = some e_law_draw := rfl
@[simp] theorem g_law_bent_1 : g_law_bent[1]? = some e_law_pick := rfl
def c_law_bent : CS :=
  (.seq (.asg (.nm 2) (.call 0 (.cel 0 (.cons (.cint 16) .nil)))) (.seq (.ite (.orc (.cmp .Lt (.var 2) (.cint 3)) (.one (.cmp .Eq (.var 1) (.tup .nil)))) (.seq (.ret (.ite (.cmp .Lt (.var 2) (.cint 12)) (.var 1) (.call 1 (.cel 0 (.cons (.lst (.cons (.lst .nil) (.cons .cnon (.cons (.tup (.cons (.tup .nil) .nil)) (.cons (.cstr "") (.cons (.cint 0) (.cons .emp .nil))))))) .nil))))) .skip) .skip) (.seq (.asg (.nm 3) (.call 0 (.cel 0 (.cons (.blt .len (.cons (.var 1) .nil)) .nil)))) (.seq (.asg (.tp (.cons (.nm 5) (.cons (.nm 6) .nil))) (.idx (.var 1) (.var 3))) (.seq (.asg2 7 8 (.cons (.slH (.var 1) (.var 3)) (.cons (.slL (.var 1) (.bin .Add (.var 3) (.cint 1))) .nil))) (.seq (.asg (.nm 4) (.lst (.cons (.tup (.cons (.var 5) (.cons (.bin .Add (.var 6) (.cint 1)) .nil))) (.cons (.tup (.cons (.var 5) (.cons (.bin .Sub (.var 6) (.cint 1)) .nil))) (.cons (.tup (.cons (.rev (.var 5)) (.cons (.var 6) .nil))) (.cons (.tup (.cons (.bin .Add (.var 5) (.slH (.var 5) (.cint 1))) (.cons (.var 6) .nil))) (.cons (.tup (.cons (.slH (.var 5) (.cint 1)) (.cons (.var 6) .nil))) .nil))))))) (.seq (.asg (.nm 4) (.bin .Add (.var 4) (.lst (.cons (.tup (.cons (.bin .Add (.var 5) (.tup (.cons (.cstr "nowhere") .nil))) (.cons (.var 6) .nil))) (.cons (.lst (.cons (.var 5) (.cons (.var 6) .nil))) (.cons (.tup (.cons (.blt .list (.cons (.var 5) .nil)) (.cons (.var 6) .nil))) (.cons (.tup (.cons (.var 5) (.cons (.cbl true) .nil))) .nil))))))) (.seq (.asg (.nm 4) (.bin .Add (.var 4) (.lst (.cons (.tup (.cons (.var 5) (.cons (.blt .str (.cons (.var 6) .nil)) .nil))) .nil)))) (.seq (.asg (.nm 4) (.bin .Add (.var 4) (.lst (.cons (.tup (.cons (.var 5) (.cons (.var 6) (.cons (.var 6) .nil)))) (.cons (.tup (.cons (.bin .Add (.slL (.var 5) (.cint 1)) (.slH (.var 5) (.cint 1))) (.cons (.var 6) .nil))) (.cons (.tup (.cons (.var 5) (.cons (.neg (.var 6)) .nil))) (.cons (.tup (.cons (.var 5) (.cons (.cint 0) .nil))) .nil))))))) (.seq (.ite (.cmp .Lt (.var 2) (.cint 12)) (.seq (.ret (.bin .Add (.bin .Add (.var 7) (.tup (.cons (.call 1 (.cel 0 (.cons (.var 4) .nil))) .nil))) (.var 8))) .skip) .skip) (.seq (.ret (.call 1 (.cel 0 (.cons (.lst (.cons (.bin .Add (.var 7) (.var 8)) (.cons (.bin .Add (.var 1) (.tup (.cons (.idx (.var 1) (.var 3)) .nil))) (.cons (.blt .list (.cons (.var 1) .nil)) (.cons (.bin .Add (.var 1) (.tup (.cons (.tup .nil) .nil))) (.cons .cnon (.cons (.rev (.var 1)) .nil))))))) .nil)))) .skip)))))))))))
def e_law_bent : DSem := run g_law_bent fl 2 9 c_law_bent
def x_law_right_dispatch_1 : CE :=
  (.bin .Mult (.var 4) (.var 12))
def x_law_right_dispatch_2 : CE :=
  (.bin .Mult (.var 4) (.var 13))
def x_law_right_dispatch_3 : CE :=
  (.andc (.isi .str (.var 14)) (.one (.cmp .In (.var 14) (.var 0))))
def x_law_right_dispatch_4 : CE :=
  (.mth .index (.var 0) (.cons (.var 14) .nil))
def x_law_right_dispatch_5 : CE :=
  (.mth .index (.var 5) (.cons (.tup (.cons (.blt .min2 (.cons (.idx (.var 9) (.var 15)) (.cons (.idx (.var 9) (.bin .Add (.var 15) (.cint 1))) .nil))) (.cons (.blt .max2 (.cons (.idx (.var 9) (.var 15)) (.cons (.idx (.var 9) (.bin .Add (.var 15) (.cint 1))) .nil))) .nil))) .nil))
def x_law_right_dispatch_6 : CE :=
  (.bin .Sub (.var 13) (.bin .Mult (.idx (.var 6) (.cint 1)) (.blt .int (.cons (.cmp .Eq (.var 16) (.var 11)) .nil))))
def x_law_right_dispatch_7 : CE :=
  (.bin .Sub (.var 13) (.bin .Mult (.idx (.var 6) (.cint 1)) (.blt .int (.cons (.cmp .In (.var 16) (.var 10)) .nil))))
def b_law_right_dispatch_8 : CS :=
  (.seq (.ite (.orc (.not (.isi .tuple (.var 6))) (.orc (.cmp .NotEq (.blt .len (.cons (.var 6) .nil)) (.cint 2)) (.orc (.not (.isi .tuple (.idx (.var 6) (.cint 0)))) (.one (.cmp .Lt (.blt .len (.cons (.idx (.var 6) (.cint 0)) .nil)) (.cint 2)))))) (.seq (.ret (.cbl false)) .skip) .skip) (.seq (.ite (.orc (.not (.isi .int (.idx (.var 6) (.cint 1)))) (.orc (.isi .bool (.idx (.var 6) (.cint 1))) (.one (.cmp .Lt (.idx (.var 6) (.cint 1)) (.cint 1))))) (.seq (.ret (.cbl false)) .skip) .skip) (.seq (.ite (.not (.blt .all (.cons (.comp x_law_right_dispatch_3 (.nm 14) (.idx (.var 6) (.cint 0)) .yes [14]) .nil))) (.seq (.ret (.cbl false)) .skip) .skip) (.seq (.asg (.nm 9) (.comp x_law_right_dispatch_4 (.nm 14) (.idx (.var 6) (.cint 0)) .yes [14])) (.seq (.ite (.cmp .Lt (.lenSet (.var 9)) (.blt .len (.cons (.var 9) .nil))) (.seq (.ret (.cbl false)) .skip) .skip) (.seq (.asg (.nm 10) (.comp x_law_right_dispatch_5 (.nm 15) (.rng1 (.bin .Sub (.blt .len (.cons (.var 9) .nil)) (.cint 1))) .yes [15])) (.seq (.asg (.nm 11) (.mth .index (.var 5) (.cons (.tup (.cons (.blt .min2 (.cons (.idx (.var 9) (.cint 0)) (.cons (.idx (.var 9) (.neg (.cint 1))) .nil))) (.cons (.blt .max2 (.cons (.idx (.var 9) (.cint 0)) (.cons (.idx (.var 9) (.neg (.cint 1))) .nil))) .nil))) .nil))) (.seq (.asg (.nm 8) (.comp x_law_right_dispatch_6 (.tp (.cons (.nm 16) (.cons (.nm 13) .nil))) (.enm (.var 8)) .yes [16, 13])) (.seq (.asg (.nm 7) (.comp x_law_right_dispatch_7 (.tp (.cons (.nm 16) (.cons (.nm 13) .nil))) (.enm (.var 7)) .yes [16, 13])) .skip)))))))))
def x_law_right_dispatch_9 : CE :=
  (.cmp .GtE (.var 13) (.cint 0))
def x_law_right_dispatch_10 : CE :=
  (.cmp .Eq (.var 13) (.cint 0))
def g_law_right_dispatch : List DSem := [e_law_spans]
@[simp] theorem g_law_right_dispatch_0 : g_law_right_dispatch[0]? = some e_law_spans := rfl
def c_law_right_dispatch : CS :=
  (.seq (.asg (.nm 5) (.call 0 (.cons (.blt .len (.cons (.var 0) .nil)) .nil))) (.seq (.asg2 7 8 (.cons (.comp x_law_right_dispatch_1 (.nm 12) (.var 1) .yes [12]) (.cons (.comp x_law_right_dispatch_2 (.nm 13) (.var 2) .yes [13]) .nil))) (.seq (.for_ (.nm 6) (.ite (.isi .tuple (.var 3)) (.var 3) (.lst (.cons .cnon .nil))) b_law_right_dispatch_8) (.seq (.ret (.andc (.blt .all (.cons (.comp x_law_right_dispatch_9 (.nm 13) (.var 7) .yes [13]) .nil)) (.one (.blt .all (.cons (.comp x_law_right_dispatch_10 (.nm 13) (.var 8) .yes [13]) .nil))))) .skip))))
def e_law_right_dispatch : DSem := run g_law_right_dispatch fl 5 17 c_law_right_dispatch
def x_is_name_1 : CE :=
  (.orc (.cmp .In (.var 1) (.glob "LETTERS" (.str "abcdefghijklmnopqrstuvwxyz"))) (.one (.cmp .In (.var 1) (.glob "DIGITS" (.str "0123456789")))))
def g_is_name : List DSem := []
def c_is_name : CS :=
  (.seq (.ite (.orc (.not (.isi .str (.var 0))) (.one (.not (.chain .LtE .LtE (.cint 1) (.blt .len (.cons (.var 0) .nil)) (.glob "LONGEST_NAME" (.int 8)))))) (.seq (.ret (.cbl false)) .skip) .skip) (.seq (.ret (.andc (.cmp .In (.idx (.var 0) (.cint 0)) (.glob "LETTERS" (.str "abcdefghijklmnopqrstuvwxyz"))) (.one (.blt .all (.cons (.comp x_is_name_1 (.nm 1) (.var 0) .yes [1]) .nil))))) .skip))
def e_is_name : DSem := run g_is_name fl 1 2 c_is_name
def b_wrong_place_1 : CS :=
  (.seq (.ite (.orc (.not (.call 0 (.cons (.var 2) .nil))) (.orc (.cmp .In (.var 2) (.slH (.var 0) (.var 1))) (.one (.cmp .GtE (.var 1) (.glob "MOST_PLACES" (.int 5)))))) (.seq (.ret (.var 1)) .skip) .skip) .skip)
def g_wrong_place : List DSem := [e_is_name]
@[simp] theorem g_wrong_place_0 : g_wrong_place[0]? = some e_is_name := rfl
def c_wrong_place : CS :=
  (.seq (.for_ (.tp (.cons (.nm 1) (.cons (.nm 2) .nil))) (.enm (.var 0)) b_wrong_place_1) (.seq (.ret .cnon) .skip))
def e_wrong_place : DSem := run g_wrong_place fl 1 3 c_wrong_place
def g_read_posts : List DSem := [e_wrong_place]
@[simp] theorem g_read_posts_0 : g_read_posts[0]? = some e_wrong_place := rfl
def c_read_posts : CS :=
  (.seq (.ite (.not (.isi .str (.var 0))) (.seq (.ret .cnon) .skip) .skip) (.seq (.asg (.nm 1) (.mth .split (.var 0) (.cons (.cstr " ") .nil))) (.seq (.asg (.nm 2) (.blt .tuple (.cons (.slL (.var 1) (.cint 1)) .nil))) (.seq (.ret (.ite (.andc (.cmp .Eq (.idx (.var 1) (.cint 0)) (.cstr "posts")) (.andc (.cmp .Gt (.blt .len (.cons (.var 2) .nil)) (.cint 1)) (.one (.cmp .Is (.call 0 (.cons (.var 2) .nil)) .cnon)))) (.var 2) .cnon)) .skip))))
def e_read_posts : DSem := run g_read_posts fl 1 3 c_read_posts
def x_spans_of_1 : CE :=
  (.tup (.cons (.var 2) (.cons (.var 3) .nil)))
def b_spans_of_2 : CS :=
  (.seq (.asg (.nm 1) (.bin .Add (.var 1) (.comp x_spans_of_1 (.nm 3) (.rng2 (.bin .Add (.var 2) (.cint 1)) (.var 0)) .yes [3]))) .skip)
def g_spans_of : List DSem := []
def c_spans_of : CS :=
  (.seq (.asg (.nm 1) (.lst .nil)) (.seq (.for_ (.nm 2) (.rng1 (.var 0)) b_spans_of_2) (.seq (.ret (.blt .tuple (.cons (.var 1) .nil))) .skip)))
def e_spans_of : DSem := run g_spans_of fl 1 4 c_spans_of
def g_p_init : List DSem := [e_wrong_place, e_spans_of]
@[simp] theorem g_p_init_0 : g_p_init[0]? = some e_wrong_place := rfl
@[simp] theorem g_p_init_1 : g_p_init[1]? = some e_spans_of := rfl
def i1 : CE := (.orc (.not (.isi .tuple (.var 1))) (.one (.cmp .Lt (.blt .len (.cons (.var 1) .nil)) (.cint 2))))
def i2 : CE := (.call 0 (.cons (.var 1) .nil))
def i3 : CE := (.cmp .IsNot (.var 2) .cnon)
def i5 : CE := (.call 1 (.cons (.blt .len (.cons (.var 1) .nil)) .nil))
def e_p_init : DSem := initD g_p_init fl i1 i2 i3 i5
def g_is_integer : List DSem := []
def c_is_integer : CS :=
  (.seq (.ret (.andc (.isi .int (.var 0)) (.one (.not (.isi .bool (.var 0)))))) .skip)
def e_is_integer : DSem := run g_is_integer fl 1 1 c_is_integer
def g_is_within : List DSem := [e_is_integer]
@[simp] theorem g_is_within_0 : g_is_within[0]? = some e_is_integer := rfl
def c_is_within : CS :=
  (.seq (.ret (.andc (.call 0 (.cons (.var 0) .nil)) (.one (.chain .LtE .LtE (.var 1) (.var 0) (.var 2))))) .skip)
def e_is_within : DSem := run g_is_within fl 3 3 c_is_within
def b_wrong_number_1 : CS :=
  (.seq (.ite (.not (.call 0 (.cons (.var 4) (.cons (.cint 0) (.cons (.var 2) .nil))))) (.seq (.ret (.tup (.cons (.var 3) .nil))) .skip) .skip) .skip)
def g_wrong_number : List DSem := [e_is_within]
@[simp] theorem g_wrong_number_0 : g_wrong_number[0]? = some e_is_within := rfl
def c_wrong_number : CS :=
  (.seq (.ite (.orc (.not (.isi .tuple (.var 0))) (.one (.cmp .NotEq (.blt .len (.cons (.var 0) .nil)) (.var 1)))) (.seq (.ret (.tup (.cons .cnon .nil))) .skip) .skip) (.seq (.for_ (.tp (.cons (.nm 3) (.cons (.nm 4) .nil))) (.enm (.var 0)) b_wrong_number_1) (.seq (.ret (.tup .nil)) .skip)))
def e_wrong_number : DSem := run g_wrong_number fl 3 5 c_wrong_number
def g_p_spans : List DSem := []
def c_p_spans : CS :=
  (.seq (.ret (.att (.var 0) "links")) .skip)
def e_p_spans : DSem := run g_p_spans fl 1 1 c_p_spans
def g_p_places : List DSem := []
def c_p_places : CS :=
  (.seq (.ret (.att (.var 0) "spots")) .skip)
def e_p_places : DSem := run g_p_places fl 1 1 c_p_places
def x_is_route_1 : CE :=
  (.cmp .In (.var 3) (.prp 0 (.var 0) "places"))
def x_is_route_2 : CE :=
  (.cmp .NotIn (.var 3) (.slH (.var 1) (.var 2)))
def g_is_route : List DSem := [e_p_places]
@[simp] theorem g_is_route_0 : g_is_route[0]? = some e_p_places := rfl
def c_is_route : CS :=
  (.seq (.ite (.orc (.not (.isi .tuple (.var 1))) (.orc (.not (.cmp .LtE (.cint 2) (.blt .len (.cons (.var 1) .nil)))) (.one (.not (.blt .all (.cons (.comp x_is_route_1 (.nm 3) (.var 1) .yes [3]) .nil)))))) (.seq (.ret (.cbl false)) .skip) .skip) (.seq (.ret (.blt .all (.cons (.comp x_is_route_2 (.tp (.cons (.nm 2) (.cons (.nm 3) .nil))) (.enm (.var 1)) .yes [2, 3]) .nil))) .skip))
def e_is_route : DSem := run g_is_route fl 2 4 c_is_route
def g_is_share : List DSem := [e_is_route, e_is_integer]
@[simp] theorem g_is_share_0 : g_is_share[0]? = some e_is_route := rfl
@[simp] theorem g_is_share_1 : g_is_share[1]? = some e_is_integer := rfl
def c_is_share : CS :=
  (.seq (.ite (.orc (.not (.isi .tuple (.var 1))) (.orc (.cmp .NotEq (.blt .len (.cons (.var 1) .nil)) (.cint 2)) (.one (.not (.call 0 (.cons (.var 0) (.cons (.idx (.var 1) (.cint 0)) .nil))))))) (.seq (.ret (.cbl false)) .skip) .skip) (.seq (.ret (.andc (.call 1 (.cons (.idx (.var 1) (.cint 1)) .nil)) (.one (.cmp .GtE (.idx (.var 1) (.cint 1)) (.cint 1))))) .skip))
def e_is_share : DSem := run g_is_share fl 2 2 c_is_share
def b_steps_of_1 : CS :=
  (.seq (.appC 2 (.mth .index (.var 0) (.cons (.tup (.cons (.blt .min2 (.cons (.var 3) (.cons (.var 4) .nil))) (.cons (.blt .max2 (.cons (.var 3) (.cons (.var 4) .nil))) .nil))) .nil))) .skip)
def g_steps_of : List DSem := []
def c_steps_of : CS :=
  (.seq (.asgC 2 (.lst .nil)) (.seq (.for_ (.tp (.cons (.nm 3) (.cons (.nm 4) .nil))) (.zip2 (.var 1) (.slL (.var 1) (.cint 1))) b_steps_of_1) (.gho 2 (.seq (.ret (.var 2)) .skip))))
def e_steps_of : DSem := run g_steps_of fl 2 5 c_steps_of
def x_are_sent_1 : CE :=
  (.call 0 (.cons (.var 0) (.cons (.var 15) .nil)))
def x_are_sent_2 : CE :=
  (.bin .Mult (.var 4) (.var 12))
def x_are_sent_3 : CE :=
  (.bin .Mult (.var 4) (.var 13))
def x_are_sent_4 : CE :=
  (.mth .index (.prp 1 (.var 0) "places") (.cons (.var 14) .nil))
def b_are_sent_5 : CS :=
  (.seq (.setC 5 (.var 11) (.bin .Sub (.idxC 5 (.var 11)) (.var 8))) .skip)
def b_are_sent_6 : CS :=
  (.seq (.asg (.nm 9) (.comp x_are_sent_4 (.nm 14) (.var 7) .yes [14])) (.seq (.asg (.nm 10) (.mth .index (.prp 2 (.var 0) "spans") (.cons (.tup (.cons (.blt .min2 (.cons (.idx (.var 9) (.cint 0)) (.cons (.idx (.var 9) (.neg (.cint 1))) .nil))) (.cons (.blt .max2 (.cons (.idx (.var 9) (.cint 0)) (.cons (.idx (.var 9) (.neg (.cint 1))) .nil))) .nil))) .nil))) (.seq (.setC 6 (.var 10) (.bin .Sub (.idxC 6 (.var 10)) (.var 8))) (.seq (.for_ (.nm 11) (.call 3 (.cons (.prp 2 (.var 0) "spans") (.cons (.var 9) .nil))) b_are_sent_5) .skip))))
def x_are_sent_7 : CE :=
  (.cmp .Eq (.var 13) (.cint 0))
def g_are_sent : List DSem := [e_is_share, e_p_places, e_p_spans, e_steps_of]
@[simp] theorem g_are_sent_0 : g_are_sent[0]? = some e_is_share := rfl
@[simp] theorem g_are_sent_1 : g_are_sent[1]? = some e_p_places := rfl
@[simp] theorem g_are_sent_2 : g_are_sent[2]? = some e_p_spans := rfl
@[simp] theorem g_are_sent_3 : g_are_sent[3]? = some e_steps_of := rfl
def c_are_sent : CS :=
  (.seq (.ite (.orc (.not (.isi .tuple (.var 3))) (.one (.not (.blt .all (.cons (.comp x_are_sent_1 (.nm 15) (.var 3) .yes [15]) .nil))))) (.seq (.ret (.cbl false)) .skip) .skip) (.seq (.asgC 5 (.comp x_are_sent_2 (.nm 12) (.var 1) .yes [12])) (.seq (.asgC 6 (.comp x_are_sent_3 (.nm 13) (.var 2) .yes [13])) (.seq (.for_ (.tp (.cons (.nm 7) (.cons (.nm 8) .nil))) (.var 3) b_are_sent_6) (.gho 6 (.gho 5 (.seq (.ret (.andc (.cmp .GtE (.blt .min1 (.cons (.var 5) .nil)) (.cint 0)) (.one (.blt .all (.cons (.comp x_are_sent_7 (.nm 13) (.var 6) .yes [13]) .nil))))) .skip)))))))
def e_are_sent : DSem := run g_are_sent fl 5 16 c_are_sent
def g_is_shown : List DSem := [e_are_sent]
@[simp] theorem g_is_shown_0 : g_is_shown[0]? = some e_are_sent := rfl
def c_is_shown : CS :=
  (.seq (.ite (.cmp .Eq (.var 1) (.cstr "fits")) (.seq (.ret (.call 0 (.cons (.var 0) (.cons (.var 2) (.cons (.var 3) (.cons (.var 4) (.cons (.cint 2) .nil))))))) .skip) .skip) (.seq (.ite (.cmp .Eq (.var 1) (.cstr "wholes")) (.seq (.ret (.call 0 (.cons (.var 0) (.cons (.var 2) (.cons (.var 3) (.cons (.var 4) (.cons (.cint 1) .nil))))))) .skip) .skip) (.seq (.ite (.cmp .Eq (.var 1) (.cstr "broken")) (.seq (.ret .nev) .skip) .skip) (.seq (.ret (.andc (.cmp .Eq (.var 1) (.cstr "no wholes")) (.one .nev))) .skip))))
def e_is_shown : DSem := run g_is_shown fl 5 5 c_is_shown
def g_accepts : List DSem := [e_read_posts, e_p_init, e_wrong_number, e_p_spans, e_is_shown]
@[simp] theorem g_accepts_0 : g_accepts[0]? = some e_read_posts := rfl
@[simp] theorem g_accepts_1 : g_accepts[1]? = some e_p_init := rfl
@[simp] theorem g_accepts_2 : g_accepts[2]? = some e_wrong_number := rfl
@[simp] theorem g_accepts_3 : g_accepts[3]? = some e_p_spans := rfl
@[simp] theorem g_accepts_4 : g_accepts[4]? = some e_is_shown := rfl
def c_accepts : CS :=
  (.seq (.ite (.orc (.not (.isi .tuple (.var 0))) (.one (.cmp .NotIn (.blt .len (.cons (.var 0) .nil)) (.tup (.cons (.cint 4) (.cons (.cint 6) .nil)))))) (.seq (.ret (.cbl false)) .skip) .skip) (.seq (.asg (.nm 2) (.call 0 (.cons (.idx (.var 0) (.cint 1)) .nil))) (.seq (.asg (.nm 3) (.ite (.cmp .Is (.var 2) .cnon) .cnon (.mk 1 (.cons (.var 2) .nil)))) (.seq (.ite (.orc (.cmp .Is (.var 3) .cnon) (.one (.cmp .NotEq (.call 2 (.cons (.idx (.var 0) (.cint 2)) (.cons (.blt .len (.cons (.prp 3 (.var 3) "spans") .nil)) (.cons (.glob "MOST_PARCELS" (.int 1000000000000000000000000000000)) .nil)))) (.tup .nil)))) (.seq (.ret (.cbl false)) .skip) .skip) (.seq (.ite (.cmp .In (.idx (.var 0) (.cint 0)) (.tup (.cons (.cstr "all") (.cons (.cstr "not all") .nil)))) (.seq (.ret (.andc (.cmp .Eq (.blt .len (.cons (.var 0) .nil)) (.cint 4)) (.one .nev))) .skip) .skip) (.seq (.ite (.cmp .NotEq (.call 2 (.cons (.idx (.var 0) (.cint 3)) (.cons (.blt .len (.cons (.prp 3 (.var 3) "spans") .nil)) (.cons (.glob "MOST_PARCELS" (.int 1000000000000000000000000000000)) .nil)))) (.tup .nil)) (.seq (.ret (.cbl false)) .skip) .skip) (.seq (.ite (.cmp .Eq (.blt .len (.cons (.var 0) .nil)) (.cint 6)) (.seq (.ret (.andc (.cmp .Eq (.idx (.var 0) (.cint 0)) (.cstr "factor")) (.one .nev))) .skip) .skip) (.seq (.ret (.call 4 (.cons (.var 3) (.cons (.idx (.var 0) (.cint 0)) (.cons (.idx (.var 0) (.cint 2)) (.cons (.idx (.var 0) (.cint 3)) (.cons (.var 1) .nil))))))) .skip))))))))
def e_accepts : DSem := run g_accepts fl 2 4 c_accepts
def b_law_flow_1 : CS :=
  (.seq (.asg (.nm 2) (.bin .Mod (.blt .int (.cons (.bin .Add (.bin .Add (.bin .Mult (.var 2) (.cint 39373)) (.bin .Mod (.blt .int (.cons (.var 3) .nil)) (.cint 2147483549))) (.cint 29)) .nil)) (.cint 2147483587))) .skip)
def g_law_flow : List DSem := []
def c_law_flow : CS :=
  (.seq (.asg (.nm 2) (.bin .Add (.cint 15485863) (.bin .Mult (.cint 31) (.var 1)))) (.seq (.for_ (.nm 3) (.slH (.var 0) (.cint 63)) b_law_flow_1) (.seq (.asg (.nm 4) (.andc (.cmp .Lt (.var 1) (.blt .len (.cons (.var 0) .nil))) (.one (.orc (.cmp .Lt (.idx (.var 0) (.var 1)) (.cint 0)) (.one (.cmp .GtE (.idx (.var 0) (.var 1)) (.bin .Pow (.cint 10) (.cint 18)))))))) (.seq (.retF (.lst (.cons (.ite (.var 4) (.blt .abs (.cons (.idx (.var 0) (.var 1)) .nil)) (.cint 0)) (.cons (.var 2) (.cons (.cint 0) .nil))))) .skip))))
def e_law_flow : DSem := runF g_law_flow fl 2 5 c_law_flow
end SD

set_option Elab.async false
set_option linter.all false
set_option autoImplicit false
set_option maxRecDepth 100000
set_option maxHeartbeats 0
namespace SE
open SD hiding x_law_loads_1 b_law_loads_2 b_law_loads_3 g_law_loads g_law_loads_0 c_law_loads e_law_loads g_is_shown g_is_shown_0 c_is_shown e_is_shown g_accepts g_accepts_0 g_accepts_1 g_accepts_2 g_accepts_3 g_accepts_4 c_accepts e_accepts
open PySem L2 DL
def x_law_loads_1 : CE :=
  (.mth .index (.var 0) (.cons (.var 11) .nil))
def b_law_loads_2 : CS :=
  (.seq (.asg (.nm 9) (.mth .index (.var 2) (.cons (.tup (.cons (.blt .min2 (.cons (.idx (.var 7) (.var 8)) (.cons (.idx (.var 7) (.bin .Add (.var 8) (.cint 1))) .nil))) (.cons (.blt .max2 (.cons (.idx (.var 7) (.var 8)) (.cons (.idx (.var 7) (.bin .Add (.var 8) (.cint 1))) .nil))) .nil))) .nil))) (.seq (.setC 3 (.var 9) (.bin .Add (.idxC 3 (.var 9)) (.var 6))) .skip))
def b_law_loads_3 : CS :=
  (.seq (.asg (.nm 7) (.comp x_law_loads_1 (.nm 11) (.var 5) .yes [11])) (.seq (.for_ (.nm 8) (.rng1 (.bin .Sub (.blt .len (.cons (.var 7) .nil)) (.cint 1))) b_law_loads_2) (.seq (.asg (.nm 9) (.mth .index (.var 2) (.cons (.tup (.cons (.blt .min2 (.cons (.idx (.var 7) (.cint 0)) (.cons (.idx (.var 7) (.neg (.cint 1))) .nil))) (.cons (.blt .max2 (.cons (.idx (.var 7) (.cint 0)) (.cons (.idx (.var 7) (.neg (.cint 1))) .nil))) .nil))) .nil))) (.seq (.setC 4 (.var 9) (.bin .Add (.idxC 4 (.var 9)) (.var 6))) .skip))))
def g_law_loads : List DSem := [e_law_spans]
@[simp] theorem g_law_loads_0 : g_law_loads[0]? = some e_law_spans := rfl
def c_law_loads : CS :=
  (.seq (.asg (.nm 2) (.call 0 (.cons (.blt .len (.cons (.var 0) .nil)) .nil))) (.seq (.asg2 3 4 (.fre (.comp (.cint 0) (.nm 10) (.var 2) .yes [10]) (.fre (.comp (.cint 0) (.nm 10) (.var 2) .yes [10]) .nil))) (.seq (.for_ (.tp (.cons (.nm 5) (.cons (.nm 6) .nil))) (.var 1) b_law_loads_3) (.seq (.retP 3 4) .skip))))
def e_law_loads : DSem := runP g_law_loads fl 2 12 c_law_loads
def x_law_case_1 : CE :=
  (.bin .Add (.var 7) (.call 4 (.cel 0 (.cons (.lst (.cons (.cint 0) (.cons (.cint 0) (.cons (.cint 0) (.cons (.cint 1) .nil))))) .nil))))
def x_law_case_2 : CE :=
  (.call 1 (.cel 0 (.cons (.cint 4) .nil)))
def x_law_case_3 : CE :=
  (.call 1 (.cel 0 (.cons (.cint 3) .nil)))
def g_law_case : List DSem := [e_law_names, e_law_draw, e_law_loads, e_law_shares, e_law_pick]
@[simp] theorem g_law_case_0 : g_law_case[0]? = some e_law_names := rfl
@[simp] theorem g_law_case_1 : g_law_case[1]? = some e_law_draw := rfl
@[simp] theorem g_law_case_2 : g_law_case[2]? = some e_law_loads := rfl
@[simp] theorem g_law_case_3 : g_law_case[3]? = some e_law_shares := rfl
@[simp] theorem g_law_case_4 : g_law_case[4]? = some e_law_pick := rfl
def c_law_case : CS :=
  (.seq (.asg (.nm 1) (.call 0 (.cel 0 (.cons (.bin .Add (.cint 2) (.call 1 (.cel 0 (.cons (.cint 4) .nil)))) .nil)))) (.seq (.asgP 3 4 2 (.cons (.var 1) (.cons (.call 3 (.cel 0 (.cons (.var 1) .nil))) .nil))) (.gho 3 (.seq (.asgC 2 (.comp x_law_case_1 (.nm 7) (.var 3) .yes [7])) (.seq (.asg2 5 6 (.cons (.call 1 (.cel 0 (.cons (.cint 6) .nil))) (.cons (.call 1 (.cel 0 (.cons (.lenC 2) .nil))) .nil))) (.seq (.ite (.cmp .Eq (.var 5) (.cint 0)) (.gho 2 (.seq (.asg2 2 4 (.fre (.comp x_law_case_2 (.nm 8) (.var 2) .yes [8]) (.fre (.comp x_law_case_3 (.nm 8) (.var 2) .yes [8]) .nil))) .skip)) .skip) (.seq (.ite (.cmp .Eq (.var 5) (.cint 1)) (.seq (.setC 4 (.var 6) (.bin .Add (.idxC 4 (.var 6)) (.cint 1))) .skip) .skip) (.seq (.ite (.andc (.cmp .Eq (.var 5) (.cint 2)) (.one (.cmp .Gt (.idxC 2 (.var 6)) (.cint 0)))) (.seq (.setC 2 (.var 6) (.bin .Sub (.idxC 2 (.var 6)) (.cint 1))) .skip) .skip) (.seq (.ret (.tup (.cons (.var 1) (.cons (.tupC 2) (.cons (.tupC 4) .nil))))) .skip)))))))))
def e_law_case : DSem := run g_law_case fl 1 9 c_law_case
def y_law_rows_1 : CE :=
  (.cmp .Eq (.bin .BitAnd (.bin .RShift (.var 3) (.var 5)) (.cint 1)) (.cint 1))
def x_law_rows_2 : CE :=
  (.comp (.var 5) (.nm 5) (.rng1 (.var 0)) y_law_rows_1 [5])
def x_law_rows_3 : CE :=
  (.tup (.cons (.blt .len (.cons (.var 0) .nil)) (.cons (.var 0) .nil)))
def x_law_rows_4 : CE :=
  (.tup (.cons (.cstr "two") (.cons (.var 4) .nil)))
def y_law_rows_5 : CE :=
  (.andc (.cmp .Eq (.blt .len (.cons (.var 4) .nil)) (.cint 2)) (.one (.cmp .Eq (.var 0) (.cint 5))))
def x_law_rows_6 : CE :=
  (.tup (.cons (.cstr "part") (.cons (.var 4) .nil)))
def y_law_rows_7 : CE :=
  (.andc (.cmp .In (.cint 0) (.var 4)) (.one (.cmp .Lt (.blt .len (.cons (.var 4) .nil)) (.var 0))))
def g_law_rows : List DSem := [(fun _ _ => some (.d .non, []))]
@[simp] theorem g_law_rows_0 : g_law_rows[0]? = some (fun _ _ => some (.d .non, [])) := rfl
def c_law_rows : CS :=
  (.seq (.asg (.nm 1) (.comp x_law_rows_2 (.nm 3) (.rng1 (.bin .LShift (.cint 1) (.var 0))) .yes [3])) (.seq (.asg (.nm 1) (.sortK 0 (.var 1) x_law_rows_3 [])) (.seq (.asg (.nm 2) (.comp x_law_rows_4 (.nm 4) (.var 1) y_law_rows_5 [4])) (.seq (.ret (.bin .Add (.comp x_law_rows_6 (.nm 4) (.var 1) y_law_rows_7 [4]) (.var 2))) .skip))))
def e_law_rows : DSem := run g_law_rows fl 1 6 c_law_rows
def x_law_bounds_1 : CE :=
  (.idx (.var 0) (.var 3))
def x_law_bounds_2 : CE :=
  (.tup (.cons (.var 1) (.cons (.blt .tuple (.cons (.comp x_law_bounds_1 (.nm 3) (.var 2) .yes [3]) .nil)) .nil)))
def g_law_bounds : List DSem := [e_law_rows]
@[simp] theorem g_law_bounds_0 : g_law_bounds[0]? = some e_law_rows := rfl
def c_law_bounds : CS :=
  (.seq (.ret (.comp x_law_bounds_2 (.tp (.cons (.nm 1) (.cons (.nm 2) .nil))) (.call 0 (.cons (.blt .len (.cons (.var 0) .nil)) .nil)) .yes [1, 2])) .skip)
def e_law_bounds : DSem := run g_law_bounds fl 1 4 c_law_bounds
def y_law_bent_bound_1 : CE :=
  (.cmp .NotIn (.var 6) (.var 5))
def g_law_bent_bound : List DSem := [e_law_pick, e_law_bounds]
@[simp] theorem g_law_bent_bound_0 : g_law_bent_bound[0]? = some e_law_pick := rfl
@[simp] theorem g_law_bent_bound_1 : g_law_bent_bound[1]? = some e_law_bounds := rfl
def c_law_bent_bound : CS :=
  (.seq (.asg (.tp (.cons (.nm 4) (.cons (.nm 5) .nil))) (.var 2)) (.seq (.asg (.nm 3) (.lst (.cons (.var 2) (.cons (.var 2) (.cons (.var 2) (.cons (.tup (.cons (.var 4) (.cons (.rev (.var 5)) .nil))) (.cons (.tup (.cons (.var 4) (.cons (.bin .Add (.var 5) (.slH (.var 5) (.cint 1))) .nil))) (.cons (.lst (.cons (.var 4) (.cons (.var 5) .nil))) (.cons (.tup (.cons (.var 4) (.cons (.blt .list (.cons (.var 5) .nil)) .nil))) .nil))))))))) (.seq (.asg (.nm 3) (.bin .Add (.var 3) (.lst (.cons (.tup (.cons (.var 4) (.cons (.slL (.var 5) (.cint 1)) .nil))) .nil)))) (.seq (.asg (.nm 3) (.bin .Add (.var 3) (.lst (.cons (.tup (.cons (.cstr "two") (.cons (.var 5) .nil))) (.cons (.tup (.cons (.cstr "part") (.cons (.var 5) .nil))) (.cons (.tup (.cons (.mth .upper (.var 4) .nil) (.cons (.var 5) .nil))) (.cons (.var 5) (.cons (.tup (.cons (.var 4) .nil)) (.cons (.tup (.cons (.var 4) (.cons (.var 5) (.cons (.var 5) .nil)))) (.cons .cnon .nil)))))))))) (.seq (.asg (.nm 3) (.bin .Add (.var 3) (.lst (.cons (.tup (.cons (.var 4) (.cons (.var 1) .nil))) .nil)))) (.seq (.asg (.nm 3) (.bin .Add (.var 3) (.lst (.cons (.tup (.cons (.var 4) (.cons (.blt .tuple (.cons (.comp (.var 6) (.nm 6) (.var 1) y_law_bent_bound_1 [6]) .nil)) .nil))) (.cons (.tup (.cons (.var 4) (.cons (.tup .nil) .nil))) (.cons (.cstr "part") (.cons (.tup (.cons (.var 5) (.cons (.var 4) .nil))) .nil))))))) (.seq (.ret (.call 0 (.cel 0 (.cons (.bin .Add (.var 3) (.bin .Mult (.lst (.cons (.call 0 (.cel 0 (.cons (.call 1 (.cons (.var 1) .nil)) .nil))) .nil)) (.cint 8))) .nil)))) .skip)))))))
def e_law_bent_bound : DSem := run g_law_bent_bound fl 3 7 c_law_bent_bound
def b_law_lengths_1 : CS :=
  (.seq (.asg (.nm 7) (.cmp .NotEq (.cmp .In (.var 5) (.var 4)) (.cmp .In (.var 6) (.var 4)))) (.seq (.appC 2 (.ite (.var 7) (.cint 1) (.ite (.cmp .Eq (.var 3) (.cstr "two")) (.cint 2) (.cint 0)))) .skip))
def g_law_lengths : List DSem := [e_law_spans]
@[simp] theorem g_law_lengths_0 : g_law_lengths[0]? = some e_law_spans := rfl
def c_law_lengths : CS :=
  (.seq (.asg (.tp (.cons (.nm 3) (.cons (.nm 4) .nil))) (.var 1)) (.seq (.asgC 2 (.lst .nil)) (.seq (.for_ (.tp (.cons (.nm 5) (.cons (.nm 6) .nil))) (.call 0 (.cons (.var 0) .nil)) b_law_lengths_1) (.gho 2 (.seq (.ret (.var 2)) .skip)))))
def e_law_lengths : DSem := run g_law_lengths fl 2 8 c_law_lengths
def x_law_over_1 : CE :=
  (.bin .Mult (.var 5) (.bin .Sub (.var 6) (.var 7)))
def g_law_over : List DSem := [e_law_lengths]
@[simp] theorem g_law_over_0 : g_law_over[0]? = some e_law_lengths := rfl
def c_law_over : CS :=
  (.seq (.asg (.nm 4) (.call 0 (.cons (.var 0) (.cons (.var 1) .nil)))) (.seq (.ret (.blt .sum (.cons (.comp x_law_over_1 (.tp (.cons (.nm 5) (.cons (.nm 6) (.cons (.nm 7) .nil)))) (.zip3 (.var 4) (.var 2) (.var 3)) .yes [5, 6, 7]) .nil))) .skip))
def e_law_over : DSem := run g_law_over fl 4 8 c_law_over
def g_law_is_broken : List DSem := [e_law_bounds, e_law_over, e_law_rows]
@[simp] theorem g_law_is_broken_0 : g_law_is_broken[0]? = some e_law_bounds := rfl
@[simp] theorem g_law_is_broken_1 : g_law_is_broken[1]? = some e_law_over := rfl
@[simp] theorem g_law_is_broken_2 : g_law_is_broken[2]? = some e_law_rows := rfl
def c_law_is_broken : CS :=
  (.seq (.asg (.nm 4) (.call 0 (.cons (.var 0) .nil))) (.seq (.ite (.orc (.not (.isi .tuple (.var 3))) (.one (.cmp .NotIn (.var 3) (.var 4)))) (.seq (.ret (.cbl false)) .skip) .skip) (.seq (.ret (.cmp .Lt (.call 1 (.cons (.blt .len (.cons (.var 0) .nil)) (.cons (.idx (.call 2 (.cons (.blt .len (.cons (.var 0) .nil)) .nil)) (.mth .index (.var 4) (.cons (.var 3) .nil))) (.cons (.var 1) (.cons (.var 2) .nil))))) (.cint 0))) .skip)))
def e_law_is_broken : DSem := run g_law_is_broken fl 4 5 c_law_is_broken
def x_rows_below_1 : CE :=
  (.bin .Add (.var 3) (.lst (.cons (.var 2) .nil)))
def b_rows_below_2 : CS :=
  (.seq (.asg (.nm 1) (.bin .Add (.var 1) (.comp x_rows_below_1 (.nm 3) (.var 1) .yes [3]))) .skip)
def x_rows_below_3 : CE :=
  (.tup (.cons (.blt .len (.cons (.var 0) .nil)) (.cons (.var 0) .nil)))
def g_rows_below : List DSem := [(fun _ _ => some (.d .non, []))]
@[simp] theorem g_rows_below_0 : g_rows_below[0]? = some (fun _ _ => some (.d .non, [])) := rfl
def c_rows_below : CS :=
  (.seq (.asg (.nm 1) (.lst (.cons (.lst .nil) .nil))) (.seq (.for_ (.nm 2) (.rng1 (.var 0)) b_rows_below_2) (.seq (.ret (.sortK 0 (.var 1) x_rows_below_3 [])) .skip)))
def e_rows_below : DSem := run g_rows_below fl 1 4 c_rows_below
def x_indexed_bounds_1 : CE :=
  (.tup (.cons (.glob "PART" (.str "part")) (.cons (.var 3) .nil)))
def y_indexed_bounds_2 : CE :=
  (.andc (.cmp .In (.cint 0) (.var 3)) (.one (.cmp .Lt (.blt .len (.cons (.var 3) .nil)) (.var 0))))
def x_indexed_bounds_3 : CE :=
  (.tup (.cons (.glob "TWO" (.str "two")) (.cons (.var 3) .nil)))
def y_indexed_bounds_4 : CE :=
  (.andc (.cmp .Eq (.blt .len (.cons (.var 3) .nil)) (.cint 2)) (.one (.cmp .Eq (.var 0) (.glob "ALL_PLACES" (.int 5)))))
def g_indexed_bounds : List DSem := [e_rows_below]
@[simp] theorem g_indexed_bounds_0 : g_indexed_bounds[0]? = some e_rows_below := rfl
def c_indexed_bounds : CS :=
  (.seq (.asg (.nm 1) (.call 0 (.cons (.var 0) .nil))) (.seq (.asg (.nm 2) (.comp x_indexed_bounds_1 (.nm 3) (.var 1) y_indexed_bounds_2 [3])) (.seq (.ret (.bin .Add (.var 2) (.comp x_indexed_bounds_3 (.nm 3) (.var 1) y_indexed_bounds_4 [3]))) .skip)))
def e_indexed_bounds : DSem := run g_indexed_bounds fl 1 4 c_indexed_bounds
def g_p_len : List DSem := []
def c_p_len : CS :=
  (.seq (.ret (.blt .len (.cons (.att (.var 0) "spots") .nil))) .skip)
def e_p_len : DSem := run g_p_len fl 1 1 c_p_len
def x_named_1 : CE :=
  (.idx (.prp 0 (.var 0) "places") (.var 2))
def g_named : List DSem := [e_p_places]
@[simp] theorem g_named_0 : g_named[0]? = some e_p_places := rfl
def c_named : CS :=
  (.seq (.ret (.tup (.cons (.idx (.var 1) (.cint 0)) (.cons (.blt .tuple (.cons (.comp x_named_1 (.nm 2) (.idx (.var 1) (.cint 1)) .yes [2]) .nil)) .nil)))) .skip)
def e_named : DSem := run g_named fl 2 3 c_named
def g_length_of : List DSem := []
def c_length_of : CS :=
  (.seq (.asg (.tp (.cons (.nm 3) (.cons (.nm 4) .nil))) (.var 0)) (.seq (.ite (.cmp .NotEq (.cmp .In (.var 1) (.var 4)) (.cmp .In (.var 2) (.var 4))) (.seq (.ret (.cint 1)) .skip) .skip) (.seq (.ret (.ite (.andc (.cmp .Eq (.var 3) (.glob "TWO" (.str "two"))) (.one (.cmp .NotEq (.var 1) (.var 2)))) (.cint 2) (.cint 0))) .skip)))
def e_length_of : DSem := run g_length_of fl 3 5 c_length_of
def x_lengths_of_1 : CE :=
  (.call 0 (.cons (.var 1) (.cons (.var 2) (.cons (.var 3) .nil))))
def g_lengths_of : List DSem := [e_length_of]
@[simp] theorem g_lengths_of_0 : g_lengths_of[0]? = some e_length_of := rfl
def c_lengths_of : CS :=
  (.seq (.ret (.comp x_lengths_of_1 (.tp (.cons (.nm 2) (.cons (.nm 3) .nil))) (.var 0) .yes [2, 3])) .skip)
def e_lengths_of : DSem := run g_lengths_of fl 2 4 c_lengths_of
def b_tables_of_1 : CS :=
  (.seq (.appC 1 (.tup (.cons (.call 2 (.cons (.var 0) (.cons (.var 2) .nil))) (.cons (.call 3 (.cons (.prp 4 (.var 0) "spans") (.cons (.var 2) .nil))) .nil)))) .skip)
def g_tables_of : List DSem := [e_indexed_bounds, e_p_len, e_named, e_lengths_of, e_p_spans]
@[simp] theorem g_tables_of_0 : g_tables_of[0]? = some e_indexed_bounds := rfl
@[simp] theorem g_tables_of_1 : g_tables_of[1]? = some e_p_len := rfl
@[simp] theorem g_tables_of_2 : g_tables_of[2]? = some e_named := rfl
@[simp] theorem g_tables_of_3 : g_tables_of[3]? = some e_lengths_of := rfl
@[simp] theorem g_tables_of_4 : g_tables_of[4]? = some e_p_spans := rfl
def c_tables_of : CS :=
  (.seq (.asgC 1 (.lst .nil)) (.seq (.for_ (.nm 2) (.call 0 (.cons (.lenO 1 (.var 0)) .nil)) b_tables_of_1) (.gho 1 (.seq (.ret (.var 1)) .skip))))
def e_tables_of : DSem := run g_tables_of fl 1 3 c_tables_of
def g_is_known : List DSem := [e_tables_of]
@[simp] theorem g_is_known_0 : g_is_known[0]? = some e_tables_of := rfl
def c_is_known : CS :=
  (.seq (.ite (.orc (.not (.isi .tuple (.var 1))) (.orc (.cmp .NotEq (.blt .len (.cons (.var 1) .nil)) (.cint 2)) (.one (.not (.isi .tuple (.idx (.var 1) (.cint 1))))))) (.seq (.ret (.cbl false)) .skip) .skip) (.seq (.ret (.cmp .In (.var 1) (.comp (.var 2) (.tp (.cons (.nm 2) (.cons (.nm 3) .nil))) (.call 0 (.cons (.var 0) .nil)) .yes [2, 3]))) .skip))
def e_is_known : DSem := run g_is_known fl 2 4 c_is_known
def x_sum_along_1 : CE :=
  (.bin .Mult (.var 2) (.var 3))
def g_sum_along : List DSem := []
def c_sum_along : CS :=
  (.seq (.ret (.blt .sum (.cons (.comp x_sum_along_1 (.tp (.cons (.nm 2) (.cons (.nm 3) .nil))) (.zip2 (.var 1) (.var 0)) .yes [2, 3]) .nil))) .skip)
def e_sum_along : DSem := run g_sum_along fl 2 4 c_sum_along
def g_slack_of : List DSem := [e_sum_along]
@[simp] theorem g_slack_of_0 : g_slack_of[0]? = some e_sum_along := rfl
def c_slack_of : CS :=
  (.seq (.ret (.bin .Sub (.call 0 (.cons (.var 0) (.cons (.var 1) .nil))) (.call 0 (.cons (.var 0) (.cons (.var 2) .nil))))) .skip)
def e_slack_of : DSem := run g_slack_of fl 3 3 c_slack_of
def y_lengths_by_name_1 : CE :=
  (.cmp .Eq (.var 2) (.var 1))
def g_lengths_by_name : List DSem := [e_tables_of]
@[simp] theorem g_lengths_by_name_0 : g_lengths_by_name[0]? = some e_tables_of := rfl
def c_lengths_by_name : CS :=
  (.seq (.ret (.idx (.comp (.var 3) (.tp (.cons (.nm 2) (.cons (.nm 3) .nil))) (.call 0 (.cons (.var 0) .nil)) y_lengths_by_name_1 [2, 3]) (.cint 0))) .skip)
def e_lengths_by_name : DSem := run g_lengths_by_name fl 2 4 c_lengths_by_name
def g_is_broken : List DSem := [e_is_known, e_slack_of, e_lengths_by_name]
@[simp] theorem g_is_broken_0 : g_is_broken[0]? = some e_is_known := rfl
@[simp] theorem g_is_broken_1 : g_is_broken[1]? = some e_slack_of := rfl
@[simp] theorem g_is_broken_2 : g_is_broken[2]? = some e_lengths_by_name := rfl
def c_is_broken : CS :=
  (.seq (.ret (.andc (.call 0 (.cons (.var 0) (.cons (.var 3) .nil))) (.one (.cmp .Lt (.call 1 (.cons (.call 2 (.cons (.var 0) (.cons (.var 3) .nil))) (.cons (.var 1) (.cons (.var 2) .nil)))) (.cint 0))))) .skip)
def e_is_broken : DSem := run g_is_broken fl 4 4 c_is_broken
def g_is_shown : List DSem := [e_are_sent, e_is_broken]
@[simp] theorem g_is_shown_0 : g_is_shown[0]? = some e_are_sent := rfl
@[simp] theorem g_is_shown_1 : g_is_shown[1]? = some e_is_broken := rfl
def c_is_shown : CS :=
  (.seq (.ite (.cmp .Eq (.var 1) (.cstr "fits")) (.seq (.ret (.call 0 (.cons (.var 0) (.cons (.var 2) (.cons (.var 3) (.cons (.var 4) (.cons (.cint 2) .nil))))))) .skip) .skip) (.seq (.ite (.cmp .Eq (.var 1) (.cstr "wholes")) (.seq (.ret (.call 0 (.cons (.var 0) (.cons (.var 2) (.cons (.var 3) (.cons (.var 4) (.cons (.cint 1) .nil))))))) .skip) .skip) (.seq (.ite (.cmp .Eq (.var 1) (.cstr "broken")) (.seq (.ret (.call 1 (.cons (.var 0) (.cons (.var 2) (.cons (.var 3) (.cons (.var 4) .nil)))))) .skip) .skip) (.seq (.ret (.andc (.cmp .Eq (.var 1) (.cstr "no wholes")) (.one .nev))) .skip))))
def e_is_shown : DSem := run g_is_shown fl 5 5 c_is_shown
def g_accepts : List DSem := [e_read_posts, e_p_init, e_wrong_number, e_p_spans, e_is_shown]
@[simp] theorem g_accepts_0 : g_accepts[0]? = some e_read_posts := rfl
@[simp] theorem g_accepts_1 : g_accepts[1]? = some e_p_init := rfl
@[simp] theorem g_accepts_2 : g_accepts[2]? = some e_wrong_number := rfl
@[simp] theorem g_accepts_3 : g_accepts[3]? = some e_p_spans := rfl
@[simp] theorem g_accepts_4 : g_accepts[4]? = some e_is_shown := rfl
def c_accepts : CS :=
  (.seq (.ite (.orc (.not (.isi .tuple (.var 0))) (.one (.cmp .NotIn (.blt .len (.cons (.var 0) .nil)) (.tup (.cons (.cint 4) (.cons (.cint 6) .nil)))))) (.seq (.ret (.cbl false)) .skip) .skip) (.seq (.asg (.nm 2) (.call 0 (.cons (.idx (.var 0) (.cint 1)) .nil))) (.seq (.asg (.nm 3) (.ite (.cmp .Is (.var 2) .cnon) .cnon (.mk 1 (.cons (.var 2) .nil)))) (.seq (.ite (.orc (.cmp .Is (.var 3) .cnon) (.one (.cmp .NotEq (.call 2 (.cons (.idx (.var 0) (.cint 2)) (.cons (.blt .len (.cons (.prp 3 (.var 3) "spans") .nil)) (.cons (.glob "MOST_PARCELS" (.int 1000000000000000000000000000000)) .nil)))) (.tup .nil)))) (.seq (.ret (.cbl false)) .skip) .skip) (.seq (.ite (.cmp .In (.idx (.var 0) (.cint 0)) (.tup (.cons (.cstr "all") (.cons (.cstr "not all") .nil)))) (.seq (.ret (.andc (.cmp .Eq (.blt .len (.cons (.var 0) .nil)) (.cint 4)) (.one .nev))) .skip) .skip) (.seq (.ite (.cmp .NotEq (.call 2 (.cons (.idx (.var 0) (.cint 3)) (.cons (.blt .len (.cons (.prp 3 (.var 3) "spans") .nil)) (.cons (.glob "MOST_PARCELS" (.int 1000000000000000000000000000000)) .nil)))) (.tup .nil)) (.seq (.ret (.cbl false)) .skip) .skip) (.seq (.ite (.cmp .Eq (.blt .len (.cons (.var 0) .nil)) (.cint 6)) (.seq (.ret (.andc (.cmp .Eq (.idx (.var 0) (.cint 0)) (.cstr "factor")) (.one .nev))) .skip) .skip) (.seq (.ret (.call 4 (.cons (.var 3) (.cons (.idx (.var 0) (.cint 0)) (.cons (.idx (.var 0) (.cint 2)) (.cons (.idx (.var 0) (.cint 3)) (.cons (.var 1) .nil))))))) .skip))))))))
def e_accepts : DSem := run g_accepts fl 2 4 c_accepts
def x_law_short_1 : CE :=
  (.idx (.var 0) (.var 5))
def b_law_short_2 : CS :=
  (.seq (.ite (.cmp .Lt (.call 1 (.cons (.blt .len (.cons (.var 0) .nil)) (.cons (.var 4) (.cons (.var 1) (.cons (.var 2) .nil))))) (.cint 0)) (.seq (.appC 3 (.tup (.cons (.idx (.var 4) (.cint 0)) (.cons (.blt .tuple (.cons (.comp x_law_short_1 (.nm 5) (.idx (.var 4) (.cint 1)) .yes [5]) .nil)) .nil)))) .skip) .skip) .skip)
def g_law_short : List DSem := [e_law_rows, e_law_over]
@[simp] theorem g_law_short_0 : g_law_short[0]? = some e_law_rows := rfl
@[simp] theorem g_law_short_1 : g_law_short[1]? = some e_law_over := rfl
def c_law_short : CS :=
  (.seq (.asgC 3 (.lst .nil)) (.seq (.for_ (.nm 4) (.call 0 (.cons (.blt .len (.cons (.var 0) .nil)) .nil)) b_law_short_2) (.gho 3 (.seq (.ret (.var 3)) .skip))))
def e_law_short : DSem := run g_law_short fl 3 6 c_law_short
end SE

set_option Elab.async false
set_option linter.all false
set_option autoImplicit false
set_option maxRecDepth 100000
set_option maxHeartbeats 0
namespace K81
open SD hiding x_law_loads_1 b_law_loads_2 b_law_loads_3 g_law_loads g_law_loads_0 c_law_loads e_law_loads g_is_shown g_is_shown_0 c_is_shown e_is_shown g_accepts g_accepts_0 g_accepts_1 g_accepts_2 g_accepts_3 g_accepts_4 c_accepts e_accepts
open SE
open PySem L2 DL PySem.Spec PyProof.Rows
abbrev tp (i : Nat) : Stmt := PySem.Challenge.pw_fiveparcels_k81_whole_broken_bounds_judg.main.body.getD i (.Pass ⟨0, 0, 0, 0⟩)
def mt (i j : Nat) : Stmt := match tp i with
  | .ClassDef _ _ _ b _ _ _ _ _ _ _ => b.getD j (.Pass ⟨0, 0, 0, 0⟩)
  | s => s
def frees : List Str := ["abs", "all", "bool", "divmod", "enumerate", "int", "isinstance", "len", "list", "max", "min", "range", "repr", "sorted", "str", "sum", "tuple", "zip"]
def globs : List (Str × D) := [("MOST_PARCELS", .int 1000000000000000000000000000000), ("MOST_PLACES", .int 5), ("LONGEST_NAME", .int 8), ("LETTERS", .str "abcdefghijklmnopqrstuvwxyz"), ("DIGITS", .str "0123456789"), ("PART", .str "part"), ("ALL_PLACES", .int 5), ("TWO", .str "two")]
abbrev s_law_draw : Stmt := tp 67
def F_law_draw : Fx := { N := ["_law_flow_here", "_law_many", "_law_mixed", "_law_digit"], deps := [], frees := frees, globs := globs, lam := false }
theorem k_law_draw : chkSs F_law_draw (defScope s_law_draw) c_law_draw (defBody s_law_draw) = true := by kernel_rfl
abbrev s_law_pick : Stmt := tp 68
def F_law_pick : Fx := { N := ["_law_flow_here", "_law_things"], deps := [.fn "_law_draw"], frees := frees, globs := globs, lam := false }
theorem k_law_pick : chkSs F_law_pick (defScope s_law_pick) c_law_pick (defBody s_law_pick) = true := by kernel_rfl
abbrev s_law_names : Stmt := tp 69
def F_law_names : Fx := { N := ["_law_flow_here", "_law_many", "_law_found", "_law_at", "_law_name", "_law_more"], deps := [.fn "_law_draw", .fn "_law_pick"], frees := frees, globs := globs, lam := false }
theorem k_law_names : chkSs F_law_names (defScope s_law_names) c_law_names (defBody s_law_names) = true := by kernel_rfl
abbrev s_law_spans : Stmt := tp 70
def F_law_spans : Fx := { N := ["_law_many", "_law_found", "_law_one", "_law_other"], deps := [], frees := frees, globs := globs, lam := false }
theorem k_law_spans : chkSs F_law_spans (defScope s_law_spans) c_law_spans (defBody s_law_spans) = true := by kernel_rfl
abbrev s_law_loads : Stmt := tp 76
def F_law_loads : Fx := { N := ["_law_places", "_law_shares_here", "_law_spans_here", "_law_loads_here", "_law_parcels", "_law_route_here", "_law_many", "_law_row", "_law_k", "_law_at", "_law_span", "_law_place"], deps := [.fn "_law_spans"], frees := frees, globs := globs, lam := false }
theorem k_law_loads : chkSs F_law_loads (defScope s_law_loads) c_law_loads (defBody s_law_loads) = true := by kernel_rfl
abbrev s_law_route : Stmt := tp 75
def F_law_route : Fx := { N := ["_law_flow_here", "_law_places", "_law_at", "_law_left", "_law_found"], deps := [.fn "_law_draw"], frees := frees, globs := globs, lam := false }
theorem k_law_route : chkSs F_law_route (defScope s_law_route) c_law_route (defBody s_law_route) = true := by kernel_rfl
abbrev s_law_shares : Stmt := tp 77
def F_law_shares : Fx := { N := ["_law_flow_here", "_law_places", "_law_size", "_law_k"], deps := [.fn "_law_pick", .fn "_law_draw", .fn "_law_route"], frees := frees, globs := globs, lam := false }
theorem k_law_shares : chkSs F_law_shares (defScope s_law_shares) c_law_shares (defBody s_law_shares) = true := by kernel_rfl
abbrev s_law_case : Stmt := tp 78
def F_law_case : Fx := { N := ["_law_flow_here", "_law_places", "_law_roads", "_law_loads_here", "_law_parcels", "_law_way", "_law_at", "_law_load", "_law_road"], deps := [.fn "_law_names", .fn "_law_draw", .fnP "_law_loads", .fn "_law_shares", .fn "_law_pick"], frees := frees, globs := globs, lam := false }
theorem k_law_case : chkSs F_law_case (defScope s_law_case) c_law_case (defBody s_law_case) = true := by kernel_rfl
abbrev s_law_text : Stmt := tp 79
def F_law_text : Fx := { N := ["_law_places"], deps := [], frees := frees, globs := globs, lam := false }
theorem k_law_text : chkSs F_law_text (defScope s_law_text) c_law_text (defBody s_law_text) = true := by kernel_rfl
abbrev s_law_rows : Stmt := tp 71
def F_law_rows : Fx := { N := ["_law_many", "_law_rows_here", "_law_twos", "_law_bits", "_law_row", "_law_at"], deps := [.lamk], frees := frees, globs := globs, lam := true }
theorem k_law_rows : chkSs F_law_rows (defScope s_law_rows) c_law_rows (defBody s_law_rows) = true := by kernel_rfl
abbrev s_law_bounds : Stmt := tp 80
def F_law_bounds : Fx := { N := ["_law_places", "_law_word", "_law_row", "_law_at"], deps := [.fn "_law_rows"], frees := frees, globs := globs, lam := false }
theorem k_law_bounds : chkSs F_law_bounds (defScope s_law_bounds) c_law_bounds (defBody s_law_bounds) = true := by kernel_rfl
abbrev s_law_bent_bound : Stmt := tp 82
def F_law_bent_bound : Fx := { N := ["_law_flow_here", "_law_places", "_law_value", "_law_some", "_law_word", "_law_lot", "_law_place"], deps := [.fn "_law_pick", .fn "_law_bounds"], frees := frees, globs := globs, lam := false }
theorem k_law_bent_bound : chkSs F_law_bent_bound (defScope s_law_bent_bound) c_law_bent_bound (defBody s_law_bent_bound) = true := by kernel_rfl
abbrev s_law_lengths : Stmt := tp 72
def F_law_lengths : Fx := { N := ["_law_many", "_law_bound", "_law_found", "_law_word", "_law_row", "_law_one", "_law_other", "_law_across"], deps := [.fn "_law_spans"], frees := frees, globs := globs, lam := false }
theorem k_law_lengths : chkSs F_law_lengths (defScope s_law_lengths) c_law_lengths (defBody s_law_lengths) = true := by kernel_rfl
abbrev s_law_over : Stmt := tp 73
def F_law_over : Fx := { N := ["_law_many", "_law_bound", "_law_roads", "_law_parcels", "_law_lengths_here", "_law_by", "_law_road", "_law_wanted"], deps := [.fn "_law_lengths"], frees := frees, globs := globs, lam := false }
theorem k_law_over : chkSs F_law_over (defScope s_law_over) c_law_over (defBody s_law_over) = true := by kernel_rfl
abbrev s_law_is_broken : Stmt := tp 81
def F_law_is_broken : Fx := { N := ["_law_places", "_law_roads", "_law_parcels", "_law_value", "_law_bounds_here"], deps := [.fn "_law_bounds", .fn "_law_over", .fn "_law_rows"], frees := frees, globs := globs, lam := false }
theorem k_law_is_broken : chkSs F_law_is_broken (defScope s_law_is_broken) c_law_is_broken (defBody s_law_is_broken) = true := by kernel_rfl
abbrev s_is_name : Stmt := tp 14
def F_is_name : Fx := { N := ["value", "sign"], deps := [], frees := frees, globs := globs, lam := false }
theorem k_is_name : chkSs F_is_name (defScope s_is_name) c_is_name (defBody s_is_name) = true := by kernel_rfl
abbrev s_wrong_place : Stmt := tp 16
def F_wrong_place : Fx := { N := ["places", "at", "place"], deps := [.fn "is_name"], frees := frees, globs := globs, lam := false }
theorem k_wrong_place : chkSs F_wrong_place (defScope s_wrong_place) c_wrong_place (defBody s_wrong_place) = true := by kernel_rfl
abbrev s_read_posts : Stmt := tp 17
def F_read_posts : Fx := { N := ["text", "words", "places"], deps := [.fn "wrong_place"], frees := frees, globs := globs, lam := false }
theorem k_read_posts : chkSs F_read_posts (defScope s_read_posts) c_read_posts (defBody s_read_posts) = true := by kernel_rfl
abbrev s_spans_of : Stmt := tp 18
def F_spans_of : Fx := { N := ["many", "found", "one", "other"], deps := [], frees := frees, globs := globs, lam := false }
theorem k_spans_of : chkSs F_spans_of (defScope s_spans_of) c_spans_of (defBody s_spans_of) = true := by kernel_rfl
abbrev s_p_init : Stmt := mt 19 0
def F_p_init : Fx := { N := ["self", "places", "wrong"], deps := [.fn "wrong_place", .fn "spans_of"], frees := frees, globs := globs, lam := false }
abbrev s_is_integer : Stmt := tp 12
def F_is_integer : Fx := { N := ["value"], deps := [], frees := frees, globs := globs, lam := false }
theorem k_is_integer : chkSs F_is_integer (defScope s_is_integer) c_is_integer (defBody s_is_integer) = true := by kernel_rfl
abbrev s_is_within : Stmt := tp 13
def F_is_within : Fx := { N := ["value", "least", "most"], deps := [.fn "is_integer"], frees := frees, globs := globs, lam := false }
theorem k_is_within : chkSs F_is_within (defScope s_is_within) c_is_within (defBody s_is_within) = true := by kernel_rfl
abbrev s_wrong_number : Stmt := tp 20
def F_wrong_number : Fx := { N := ["value", "many", "most", "at", "number"], deps := [.fn "is_within"], frees := frees, globs := globs, lam := false }
theorem k_wrong_number : chkSs F_wrong_number (defScope s_wrong_number) c_wrong_number (defBody s_wrong_number) = true := by kernel_rfl
abbrev s_p_spans : Stmt := mt 19 4
def F_p_spans : Fx := { N := ["self"], deps := [], frees := frees, globs := globs, lam := false }
theorem k_p_spans : chkSs F_p_spans (defScope s_p_spans) c_p_spans (defBody s_p_spans) = true := by kernel_rfl
abbrev s_p_places : Stmt := mt 19 2
def F_p_places : Fx := { N := ["self"], deps := [], frees := frees, globs := globs, lam := false }
theorem k_p_places : chkSs F_p_places (defScope s_p_places) c_p_places (defBody s_p_places) = true := by kernel_rfl
abbrev s_is_route : Stmt := tp 42
def F_is_route : Fx := { N := ["posts", "value", "at", "place"], deps := [.prop "places"], frees := frees, globs := globs, lam := false }
theorem k_is_route : chkSs F_is_route (defScope s_is_route) c_is_route (defBody s_is_route) = true := by kernel_rfl
abbrev s_is_share : Stmt := tp 43
def F_is_share : Fx := { N := ["posts", "value"], deps := [.fn "is_route", .fn "is_integer"], frees := frees, globs := globs, lam := false }
theorem k_is_share : chkSs F_is_share (defScope s_is_share) c_is_share (defBody s_is_share) = true := by kernel_rfl
abbrev s_steps_of : Stmt := tp 41
def F_steps_of : Fx := { N := ["spans", "route", "found", "one", "other"], deps := [], frees := frees, globs := globs, lam := false }
theorem k_steps_of : chkSs F_steps_of (defScope s_steps_of) c_steps_of (defBody s_steps_of) = true := by kernel_rfl
abbrev s_are_sent : Stmt := tp 44
def F_are_sent : Fx := { N := ["posts", "roads", "parcels", "value", "parts", "left", "wanted", "route", "many", "row", "end", "step", "road", "number", "place", "share"], deps := [.fn "is_share", .prop "places", .prop "spans", .fn "steps_of"], frees := frees, globs := globs, lam := false }
theorem k_are_sent : chkSs F_are_sent (defScope s_are_sent) c_are_sent (defBody s_are_sent) = true := by kernel_rfl
abbrev s_rows_below : Stmt := tp 25
def F_rows_below : Fx := { N := ["many", "found", "at", "row"], deps := [.lamk], frees := frees, globs := globs, lam := true }
theorem k_rows_below : chkSs F_rows_below (defScope s_rows_below) c_rows_below (defBody s_rows_below) = true := by kernel_rfl
abbrev s_indexed_bounds : Stmt := tp 26
def F_indexed_bounds : Fx := { N := ["many", "rows", "found", "row"], deps := [.fn "rows_below"], frees := frees, globs := globs, lam := false }
theorem k_indexed_bounds : chkSs F_indexed_bounds (defScope s_indexed_bounds) c_indexed_bounds (defBody s_indexed_bounds) = true := by kernel_rfl
abbrev s_p_len : Stmt := mt 19 7
def F_p_len : Fx := { N := ["self"], deps := [], frees := frees, globs := globs, lam := false }
theorem k_p_len : chkSs F_p_len (defScope s_p_len) c_p_len (defBody s_p_len) = true := by kernel_rfl
abbrev s_named : Stmt := tp 31
def F_named : Fx := { N := ["posts", "bound", "at"], deps := [.prop "places"], frees := frees, globs := globs, lam := false }
theorem k_named : chkSs F_named (defScope s_named) c_named (defBody s_named) = true := by kernel_rfl
abbrev s_length_of : Stmt := tp 27
def F_length_of : Fx := { N := ["bound", "one", "other", "word", "row"], deps := [], frees := frees, globs := globs, lam := false }
theorem k_length_of : chkSs F_length_of (defScope s_length_of) c_length_of (defBody s_length_of) = true := by kernel_rfl
abbrev s_lengths_of : Stmt := tp 28
def F_lengths_of : Fx := { N := ["spans", "bound", "one", "other"], deps := [.fn "length_of"], frees := frees, globs := globs, lam := false }
theorem k_lengths_of : chkSs F_lengths_of (defScope s_lengths_of) c_lengths_of (defBody s_lengths_of) = true := by kernel_rfl
abbrev s_tables_of : Stmt := tp 32
def F_tables_of : Fx := { N := ["posts", "found", "bound"], deps := [.fn "indexed_bounds", .len, .fn "named", .fn "lengths_of", .prop "spans"], frees := frees, globs := globs, lam := false }
theorem k_tables_of : chkSs F_tables_of (defScope s_tables_of) c_tables_of (defBody s_tables_of) = true := by kernel_rfl
abbrev s_is_known : Stmt := tp 33
def F_is_known : Fx := { N := ["posts", "value", "bound", "lengths"], deps := [.fn "tables_of"], frees := frees, globs := globs, lam := false }
theorem k_is_known : chkSs F_is_known (defScope s_is_known) c_is_known (defBody s_is_known) = true := by kernel_rfl
abbrev s_sum_along : Stmt := tp 29
def F_sum_along : Fx := { N := ["lengths", "numbers", "number", "by"], deps := [], frees := frees, globs := globs, lam := false }
theorem k_sum_along : chkSs F_sum_along (defScope s_sum_along) c_sum_along (defBody s_sum_along) = true := by kernel_rfl
abbrev s_slack_of : Stmt := tp 30
def F_slack_of : Fx := { N := ["lengths", "roads", "parcels"], deps := [.fn "sum_along"], frees := frees, globs := globs, lam := false }
theorem k_slack_of : chkSs F_slack_of (defScope s_slack_of) c_slack_of (defBody s_slack_of) = true := by kernel_rfl
abbrev s_lengths_by_name : Stmt := tp 34
def F_lengths_by_name : Fx := { N := ["posts", "bound", "known", "lengths"], deps := [.fn "tables_of"], frees := frees, globs := globs, lam := false }
theorem k_lengths_by_name : chkSs F_lengths_by_name (defScope s_lengths_by_name) c_lengths_by_name (defBody s_lengths_by_name) = true := by kernel_rfl
abbrev s_is_broken : Stmt := tp 58
def F_is_broken : Fx := { N := ["posts", "roads", "parcels", "value"], deps := [.fn "is_known", .fn "slack_of", .fn "lengths_by_name"], frees := frees, globs := globs, lam := false }
theorem k_is_broken : chkSs F_is_broken (defScope s_is_broken) c_is_broken (defBody s_is_broken) = true := by kernel_rfl
abbrev s_is_shown : Stmt := tp 63
def F_is_shown : Fx := { N := ["posts", "word", "roads", "parcels", "certificate"], deps := [.fn "are_sent", .fn "is_broken"], frees := frees, globs := globs, lam := false }
theorem k_is_shown : chkSs F_is_shown (defScope s_is_shown) c_is_shown (defBody s_is_shown) = true := by kernel_rfl
abbrev s_accepts : Stmt := tp 64
def F_accepts : Fx := { N := ["claim", "certificate", "places", "posts"], deps := [.fn "read_posts", .mk "Posts", .fn "wrong_number", .prop "spans", .fn "is_shown"], frees := frees, globs := globs, lam := false }
theorem k_accepts : chkSs F_accepts (defScope s_accepts) c_accepts (defBody s_accepts) = true := by kernel_rfl
abbrev s_law_short : Stmt := tp 74
def F_law_short : Fx := { N := ["_law_places", "_law_roads", "_law_parcels", "_law_found", "_law_bound", "_law_at"], deps := [.fn "_law_rows", .fn "_law_over"], frees := frees, globs := globs, lam := false }
theorem k_law_short : chkSs F_law_short (defScope s_law_short) c_law_short (defBody s_law_short) = true := by kernel_rfl
abbrev s_law_right : Stmt := tp 84
def F_law_right : Fx := { N := ["_law_flow_here", "_law_claim", "_law_k", "_law_rows_here", "_law_wanted", "_law_places", "_law_roads", "_law_parcels", "_law_value", "_law_due", "_law_bound"], deps := [.fn "_law_case", .fn "_law_text", .fn "_law_bent_bound", .fn "_law_pick", .fn "_law_bounds", .fn "_law_is_broken", .tld "_law_got", .fn "accepts", .fn "_law_short"], frees := frees, globs := globs, lam := true }
def b_law_right_1 : CS :=
  (.seq (.asg (.nm 8) (.call 2 (.cel 0 (.cons (.var 5) (.cons (.call 3 (.cel 0 (.cons (.call 4 (.cons (.var 5) .nil)) .nil))) .nil))))) (.seq (.asg (.nm 9) (.call 5 (.cons (.var 5) (.cons (.var 6) (.cons (.var 7) (.cons (.var 8) .nil)))))) (.seq (.ite (.cmp .NotEq (.blt .repr (.cons (.lam 6 (.call 7 (.cons (.var 1) (.cons (.var 8) .nil)))) .nil)) (.blt .repr (.cons (.var 9) .nil))) (.seq (.ret (.cbl false)) .skip) .skip) .skip)))
def x_law_right_2 : CE :=
  (.lam 6 (.call 7 (.cons (.var 1) (.cons (.var 10) .nil))))
def x_law_right_3 : CE :=
  (.cmp .In (.var 10) (.var 4))
def g_law_right : List DSem := [e_law_case, e_law_text, e_law_bent_bound, e_law_pick, e_law_bounds, e_law_is_broken, (fun _ _ => some (.d .non, [])), e_accepts, e_law_short]
@[simp] theorem g_law_right_0 : g_law_right[0]? = some e_law_case := rfl
@[simp] theorem g_law_right_1 : g_law_right[1]? = some e_law_text := rfl
@[simp] theorem g_law_right_2 : g_law_right[2]? = some e_law_bent_bound := rfl
@[simp] theorem g_law_right_3 : g_law_right[3]? = some e_law_pick := rfl
@[simp] theorem g_law_right_4 : g_law_right[4]? = some e_law_bounds := rfl
@[simp] theorem g_law_right_5 : g_law_right[5]? = some e_law_is_broken := rfl
@[simp] theorem g_law_right_6 : g_law_right[6]? = some (fun _ _ => some (.d .non, [])) := rfl
@[simp] theorem g_law_right_7 : g_law_right[7]? = some e_accepts := rfl
@[simp] theorem g_law_right_8 : g_law_right[8]? = some e_law_short := rfl
def c_law_right : CS :=
  (.seq (.asg (.tp (.cons (.nm 5) (.cons (.nm 6) (.cons (.nm 7) .nil)))) (.call 0 (.cel 0 .nil))) (.seq (.asg (.nm 1) (.tup (.cons (.cstr "broken") (.cons (.call 1 (.cons (.var 5) .nil)) (.cons (.var 6) (.cons (.var 7) .nil)))))) (.seq (.for_ (.nm 2) (.rng1 (.cint 12)) b_law_right_1) (.seq (.asg (.nm 3) (.comp x_law_right_2 (.nm 10) (.call 4 (.cons (.var 5) .nil)) .yes [10])) (.seq (.asg (.nm 4) (.call 8 (.cons (.var 5) (.cons (.var 6) (.cons (.var 7) .nil))))) (.seq (.ret (.cmp .Eq (.var 3) (.comp x_law_right_3 (.nm 10) (.call 4 (.cons (.var 5) .nil)) .yes [10]))) .skip))))))
def e_law_right : DSem := run g_law_right fl 1 11 c_law_right
theorem k_law_right : chkSs F_law_right (defScope s_law_right) c_law_right (defBody s_law_right) = true := by kernel_rfl
abbrev s_law_flow : Stmt := tp 66
def F_law_flow : Fx := { N := ["_law_script", "_law_turn", "_law_mixed", "_law_number", "_law_great"], deps := [], frees := frees, globs := globs, lam := false }
theorem k_law_flow : chkSs F_law_flow (defScope s_law_flow) c_law_flow (defBody s_law_flow) = true := by kernel_rfl
abbrev s_law : Stmt := tp 85
def F_law : Fx := { N := ["_law_script", "_law_turn"], deps := [.fn "_law_right", .fnF "_law_flow"], frees := frees, globs := globs, lam := false }
def b_law_1 : CS :=
  (.seq (.ite (.not (.call 0 (.ccl 1 (.cons (.var 0) (.cons (.var 1) .nil)) .nil))) (.seq (.ret (.cbl false)) .skip) .skip) .skip)
def g_law : List DSem := [e_law_right, e_law_flow]
@[simp] theorem g_law_0 : g_law[0]? = some e_law_right := rfl
@[simp] theorem g_law_1 : g_law[1]? = some e_law_flow := rfl
def c_law : CS :=
  (.seq (.for_ (.nm 1) (.rng1 (.blt .max2 (.cons (.cint 2) (.cons (.blt .min2 (.cons (.blt .len (.cons (.var 0) .nil)) (.cons (.cint 5) .nil))) .nil)))) b_law_1) (.seq (.ret (.cbl true)) .skip))
def e_law : DSem := run g_law fl 1 2 c_law
theorem k_law : chkSs F_law (defScope s_law) c_law (defBody s_law) = true := by kernel_rfl
end K81

set_option Elab.async false
set_option linter.all false
set_option autoImplicit false
set_option maxRecDepth 100000
set_option maxHeartbeats 0
namespace K81
open SD hiding x_law_loads_1 b_law_loads_2 b_law_loads_3 g_law_loads g_law_loads_0 c_law_loads e_law_loads g_is_shown g_is_shown_0 c_is_shown e_is_shown g_accepts g_accepts_0 g_accepts_1 g_accepts_2 g_accepts_3 g_accepts_4 c_accepts e_accepts
open SE
open PySem L2 DL PySem.Spec PyProof.Rows
def d_law_draw : DP := ⟨fun K => He.ga K "_law_draw", "_law_draw", "_law_draw", defArgs s_law_draw, defBody s_law_draw, defScope s_law_draw, []⟩
def d_law_pick : DP := ⟨fun K => He.ga K "_law_pick", "_law_pick", "_law_pick", defArgs s_law_pick, defBody s_law_pick, defScope s_law_pick, []⟩
def d_law_names : DP := ⟨fun K => He.ga K "_law_names", "_law_names", "_law_names", defArgs s_law_names, defBody s_law_names, defScope s_law_names, []⟩
def d_law_spans : DP := ⟨fun K => He.ga K "_law_spans", "_law_spans", "_law_spans", defArgs s_law_spans, defBody s_law_spans, defScope s_law_spans, []⟩
def d_law_loads : DP := ⟨fun K => He.ga K "_law_loads", "_law_loads", "_law_loads", defArgs s_law_loads, defBody s_law_loads, defScope s_law_loads, []⟩
def d_law_route : DP := ⟨fun K => He.ga K "_law_route", "_law_route", "_law_route", defArgs s_law_route, defBody s_law_route, defScope s_law_route, []⟩
def d_law_shares : DP := ⟨fun K => He.ga K "_law_shares", "_law_shares", "_law_shares", defArgs s_law_shares, defBody s_law_shares, defScope s_law_shares, []⟩
def d_law_case : DP := ⟨fun K => He.ga K "_law_case", "_law_case", "_law_case", defArgs s_law_case, defBody s_law_case, defScope s_law_case, []⟩
def d_law_text : DP := ⟨fun K => He.ga K "_law_text", "_law_text", "_law_text", defArgs s_law_text, defBody s_law_text, defScope s_law_text, []⟩
def d_law_rows : DP := ⟨fun K => He.ga K "_law_rows", "_law_rows", "_law_rows", defArgs s_law_rows, defBody s_law_rows, defScope s_law_rows, []⟩
def d_law_bounds : DP := ⟨fun K => He.ga K "_law_bounds", "_law_bounds", "_law_bounds", defArgs s_law_bounds, defBody s_law_bounds, defScope s_law_bounds, []⟩
def d_law_bent_bound : DP := ⟨fun K => He.ga K "_law_bent_bound", "_law_bent_bound", "_law_bent_bound", defArgs s_law_bent_bound, defBody s_law_bent_bound, defScope s_law_bent_bound, []⟩
def d_law_lengths : DP := ⟨fun K => He.ga K "_law_lengths", "_law_lengths", "_law_lengths", defArgs s_law_lengths, defBody s_law_lengths, defScope s_law_lengths, []⟩
def d_law_over : DP := ⟨fun K => He.ga K "_law_over", "_law_over", "_law_over", defArgs s_law_over, defBody s_law_over, defScope s_law_over, []⟩
def d_law_is_broken : DP := ⟨fun K => He.ga K "_law_is_broken", "_law_is_broken", "_law_is_broken", defArgs s_law_is_broken, defBody s_law_is_broken, defScope s_law_is_broken, []⟩
def d_is_name : DP := ⟨fun K => He.ga K "is_name", "is_name", "is_name", defArgs s_is_name, defBody s_is_name, defScope s_is_name, []⟩
def d_wrong_place : DP := ⟨fun K => He.ga K "wrong_place", "wrong_place", "wrong_place", defArgs s_wrong_place, defBody s_wrong_place, defScope s_wrong_place, []⟩
def d_read_posts : DP := ⟨fun K => He.ga K "read_posts", "read_posts", "read_posts", defArgs s_read_posts, defBody s_read_posts, defScope s_read_posts, []⟩
def d_spans_of : DP := ⟨fun K => He.ga K "spans_of", "spans_of", "spans_of", defArgs s_spans_of, defBody s_spans_of, defScope s_spans_of, []⟩
def d_p_init : DP := ⟨fun K => He.ma K (He.ga K "Posts") "__init__", "__init__", "Posts.__init__", defArgs s_p_init, defBody s_p_init, defScope s_p_init, []⟩
def d_is_integer : DP := ⟨fun K => He.ga K "is_integer", "is_integer", "is_integer", defArgs s_is_integer, defBody s_is_integer, defScope s_is_integer, []⟩
def d_is_within : DP := ⟨fun K => He.ga K "is_within", "is_within", "is_within", defArgs s_is_within, defBody s_is_within, defScope s_is_within, []⟩
def d_wrong_number : DP := ⟨fun K => He.ga K "wrong_number", "wrong_number", "wrong_number", defArgs s_wrong_number, defBody s_wrong_number, defScope s_wrong_number, []⟩
def d_p_spans : DP := ⟨fun K => getOf K (He.ga K "Posts") "spans", "spans", "Posts.spans", defArgs s_p_spans, defBody s_p_spans, defScope s_p_spans, []⟩
def d_p_places : DP := ⟨fun K => getOf K (He.ga K "Posts") "places", "places", "Posts.places", defArgs s_p_places, defBody s_p_places, defScope s_p_places, []⟩
def d_is_route : DP := ⟨fun K => He.ga K "is_route", "is_route", "is_route", defArgs s_is_route, defBody s_is_route, defScope s_is_route, []⟩
def d_is_share : DP := ⟨fun K => He.ga K "is_share", "is_share", "is_share", defArgs s_is_share, defBody s_is_share, defScope s_is_share, []⟩
def d_steps_of : DP := ⟨fun K => He.ga K "steps_of", "steps_of", "steps_of", defArgs s_steps_of, defBody s_steps_of, defScope s_steps_of, []⟩
def d_are_sent : DP := ⟨fun K => He.ga K "are_sent", "are_sent", "are_sent", defArgs s_are_sent, defBody s_are_sent, defScope s_are_sent, []⟩
def d_rows_below : DP := ⟨fun K => He.ga K "rows_below", "rows_below", "rows_below", defArgs s_rows_below, defBody s_rows_below, defScope s_rows_below, []⟩
def d_indexed_bounds : DP := ⟨fun K => He.ga K "indexed_bounds", "indexed_bounds", "indexed_bounds", defArgs s_indexed_bounds, defBody s_indexed_bounds, defScope s_indexed_bounds, []⟩
def d_p_len : DP := ⟨fun K => He.ma K (He.ga K "Posts") "__len__", "__len__", "Posts.__len__", defArgs s_p_len, defBody s_p_len, defScope s_p_len, []⟩
def d_named : DP := ⟨fun K => He.ga K "named", "named", "named", defArgs s_named, defBody s_named, defScope s_named, []⟩
def d_length_of : DP := ⟨fun K => He.ga K "length_of", "length_of", "length_of", defArgs s_length_of, defBody s_length_of, defScope s_length_of, []⟩
def d_lengths_of : DP := ⟨fun K => He.ga K "lengths_of", "lengths_of", "lengths_of", defArgs s_lengths_of, defBody s_lengths_of, defScope s_lengths_of, []⟩
def d_tables_of : DP := ⟨fun K => He.ga K "tables_of", "tables_of", "tables_of", defArgs s_tables_of, defBody s_tables_of, defScope s_tables_of, []⟩
def d_is_known : DP := ⟨fun K => He.ga K "is_known", "is_known", "is_known", defArgs s_is_known, defBody s_is_known, defScope s_is_known, []⟩
def d_sum_along : DP := ⟨fun K => He.ga K "sum_along", "sum_along", "sum_along", defArgs s_sum_along, defBody s_sum_along, defScope s_sum_along, []⟩
def d_slack_of : DP := ⟨fun K => He.ga K "slack_of", "slack_of", "slack_of", defArgs s_slack_of, defBody s_slack_of, defScope s_slack_of, []⟩
def d_lengths_by_name : DP := ⟨fun K => He.ga K "lengths_by_name", "lengths_by_name", "lengths_by_name", defArgs s_lengths_by_name, defBody s_lengths_by_name, defScope s_lengths_by_name, []⟩
def d_is_broken : DP := ⟨fun K => He.ga K "is_broken", "is_broken", "is_broken", defArgs s_is_broken, defBody s_is_broken, defScope s_is_broken, []⟩
def d_is_shown : DP := ⟨fun K => He.ga K "is_shown", "is_shown", "is_shown", defArgs s_is_shown, defBody s_is_shown, defScope s_is_shown, []⟩
def d_accepts : DP := ⟨fun K => He.ga K "accepts", "accepts", "accepts", defArgs s_accepts, defBody s_accepts, defScope s_accepts, []⟩
def d_law_short : DP := ⟨fun K => He.ga K "_law_short", "_law_short", "_law_short", defArgs s_law_short, defBody s_law_short, defScope s_law_short, []⟩
def d_law_right : DP := ⟨fun K => He.ga K "_law_right", "_law_right", "_law_right", defArgs s_law_right, defBody s_law_right, defScope s_law_right, []⟩
def d_law_flow : DP := ⟨fun K => He.ga K "_law_flow", "_law_flow", "_law_flow", defArgs s_law_flow, defBody s_law_flow, defScope s_law_flow, []⟩
def d_law : DP := ⟨fun K => He.ga K "law", "law", "law", defArgs s_law, defBody s_law, defScope s_law, []⟩
abbrev s_got : Stmt := tp 83
def d_got : DP := ⟨fun K => He.ga K "_law_got", "_law_got", "_law_got", defArgs s_got, defBody s_got, defScope s_got, []⟩
def fn : List DP := [d_law_draw, d_law_pick, d_law_names, d_law_spans, d_law_loads, d_law_route, d_law_shares, d_law_case, d_law_text, d_law_rows, d_law_bounds, d_law_bent_bound, d_law_lengths, d_law_over, d_law_is_broken, d_is_name, d_wrong_place, d_read_posts, d_spans_of, d_p_init, d_is_integer, d_is_within, d_wrong_number, d_p_spans, d_p_places, d_is_route, d_is_share, d_steps_of, d_are_sent, d_rows_below, d_indexed_bounds, d_p_len, d_named, d_length_of, d_lengths_of, d_tables_of, d_is_known, d_sum_along, d_slack_of, d_lengths_by_name, d_is_broken, d_is_shown, d_accepts, d_law_short, d_law_right, d_law_flow, d_law, d_got]
def glos : List Str := ("_law_draw" :: "_law_pick" :: "_law_names" :: "_law_spans" :: "_law_loads" :: "_law_route" :: "_law_shares" :: "_law_case" :: "_law_text" :: "_law_rows" :: "_law_bounds" :: "_law_bent_bound" :: "_law_lengths" :: "_law_over" :: "_law_is_broken" :: "is_name" :: "wrong_place" :: "read_posts" :: "spans_of" :: "is_integer" :: "is_within" :: "wrong_number" :: "is_route" :: "is_share" :: "steps_of" :: "are_sent" :: "rows_below" :: "indexed_bounds" :: "named" :: "length_of" :: "lengths_of" :: "tables_of" :: "is_known" :: "sum_along" :: "slack_of" :: "lengths_by_name" :: "is_broken" :: "is_shown" :: "accepts" :: "_law_short" :: "_law_right" :: "_law_flow" :: "law" :: "_law_got" :: "Posts" :: [])
def fa : List He.Fa := faOf glos frees globs
def tf : List He.Defn := [("_law_rows", none), ("rows_below", none), ("_law_right", none)]
def exr (K : Frag) : Bool := clsB K (He.ga K "Posts") ["spots", "links"] && (mkB K (He.ga K "Posts") && (lenB K (He.ga K "Posts") && propB K (He.ga K "Posts") "places" && propB K (He.ga K "Posts") "spans" && decide ((tf.map fun p => (He.cT K p).2).Nodup)))
abbrev ROW : PySem.W.OpenRow := PySem.W.OpenLaw.row PySem.Challenge.rw_fiveparcels_k81_whole_broken_bounds_judg
abbrev qv : Program := PySem.W.view ROW.prog [85]
def names : List Str := (["WrongValue", "InvalidText", "InvalidPlaces", "WrongName", "NoAnswer", "MOST_PLACES", "MOST_PARCELS", "LETTERS", "DIGITS", "LONGEST_NAME", "is_integer", "is_within", "is_name", "wrong_place", "read_posts", "spans_of", "Posts", "wrong_number", "PART", "TWO", "ALL_PLACES", "rows_below", "indexed_bounds", "length_of", "lengths_of", "sum_along", "slack_of", "named", "tables_of", "is_known"] : List Str) ++ (["lengths_by_name", "odd_places", "choices_of", "less_by", "even_choices", "steps_of", "is_route", "is_share", "are_sent", "common", "left_of", "joined", "matched", "fewer", "across_pairs", "plus", "worst_for", "broken_all", "is_pair", "is_broken", "are_refusals", "is_factor", "have_totals", "is_totals_claim", "is_shown", "accepts", "_law_flow", "_law_draw", "_law_pick", "_law_names"] : List Str) ++ (["_law_spans", "_law_rows", "_law_lengths", "_law_over", "_law_short", "_law_route", "_law_loads", "_law_shares", "_law_case", "_law_text", "_law_bounds", "_law_is_broken", "_law_bent_bound", "_law_got", "_law_right"] : List Str)
abbrev hk : PySem.W.Hook := hookR 5 fa fn tf exr
def ob (s : PySem.W.SharedT) : AlR := obR 5 fa fn tf exr s
theorem ob_eq (s : PySem.W.SharedT) : ob s = hk.obs s.abs := obR_eq s
theorem hrun (w : World) : HandSHeadRun.RunEq ROW qv hk ob 16000 names w := by
  intro os
  kernel_rfl
end K81

set_option Elab.async false
set_option linter.all false
set_option autoImplicit false
set_option maxRecDepth 100000
set_option maxHeartbeats 4000000
namespace DL
open PySem L2
def turn (g : List DSem) (fl : Nat → List Str) (b : Nat) (tg : CT) (body : CS) : D → EnvR → S → Option (Out × EnvR × S) := fun x δ s => (asgT tg x δ).bind fun δ2 => ex g fl b body δ2 s
def cturn (g : List DSem) (fl : Nat → List Str) (elt : CE) (tg : CT) (cnd : CE) (own : List Nat) (δ : EnvR) : D → S → Option (Option D × S) := fun x s1 => (asgT tg x (wipeE δ own)).bind fun δ1 => (ev g fl cnd δ1 s1).bind fun c => match truthD c.1 with
        | some true => (ev g fl elt δ1 c.2).map fun r => (some r.1, r.2)
        | some false => some (none, c.2)
        | none => none
def wtest (g : List DSem) (fl : Nat → List Str) (t : CE) : EnvR → S → Option (Bool × S) := fun δ1 s1 => (ev g fl t δ1 s1).bind fun c => (truthD c.1).map fun k => (k, c.2)
section
variable (g : List DSem) (fl : Nat → List Str) (δ : EnvR) (s : S)
@[simp] theorem ev_var (i : Nat) : ev g fl (.var i) δ s = (atD δ i).map fun x => (x, s) := rfl
@[simp] theorem ev_glob (x : Str) (d : D) : ev g fl (.glob x d) δ s = some (d, s) := rfl
@[simp] theorem ev_cint (i : Int) : ev g fl (.cint i) δ s = some (.int i, s) := rfl
@[simp] theorem ev_cstr (i : Str) : ev g fl (.cstr i) δ s = some (.str i, s) := rfl
@[simp] theorem ev_cbl (i : Bool) : ev g fl (.cbl i) δ s = some (.bl i, s) := rfl
@[simp] theorem ev_cnon : ev g fl .cnon δ s = some (.non, s) := rfl
@[simp] theorem ev_emp : ev g fl .emp δ s = some (.emp, s) := rfl
@[simp] theorem ev_yes : ev g fl .yes δ s = some (.bl true, s) := rfl
@[simp] theorem ev_bin (op : Operator) (a b : CE) : ev g fl (.bin op a b) δ s = (ev g fl a δ s).bind fun p => (ev g fl b δ p.2).bind fun q => (binD op p.1 q.1).map fun z => (z, q.2) := rfl
@[simp] theorem ev_neg (a : CE) : ev g fl (.neg a) δ s = (ev g fl a δ s).bind fun p => p.1.isInt.map fun i => (.int (-i), p.2) := rfl
@[simp] theorem ev_cmp (op : CmpOp) (a b : CE) : ev g fl (.cmp op a b) δ s = (ev g fl a δ s).bind fun p => (ev g fl b δ p.2).bind fun q => (cmpD op p.1 q.1).map fun z => (z, q.2) := rfl
@[simp] theorem ev_chain (o1 o2 : CmpOp) (a b c : CE) : ev g fl (.chain o1 o2 a b c) δ s = (ev g fl a δ s).bind fun p => (ev g fl b δ p.2).bind fun q => match cmpD o1 p.1 q.1 with
    | some (.bl true) => (ev g fl c δ q.2).bind fun r => (cmpD o2 q.1 r.1).map fun z => (z, r.2)
    | some (.bl false) => some (.bl false, q.2)
    | _ => none := rfl
@[simp] theorem ev_one (a : CE) : ev g fl (.one a) δ s = ev g fl a δ s := rfl
@[simp] theorem ev_andc (a r : CE) : ev g fl (.andc a r) δ s = (ev g fl a δ s).bind fun p => match p.1 with
    | .bl true => ev g fl r δ p.2
    | .bl false => some (.bl false, p.2)
    | _ => none := rfl
@[simp] theorem ev_orc (a r : CE) : ev g fl (.orc a r) δ s = (ev g fl a δ s).bind fun p => match p.1 with
    | .bl true => some (.bl true, p.2)
    | .bl false => ev g fl r δ p.2
    | _ => none := rfl
@[simp] theorem ev_not (a : CE) : ev g fl (.not a) δ s = (ev g fl a δ s).bind fun p => match p.1 with
    | .bl b => some (.bl (!b), p.2)
    | _ => none := rfl
@[simp] theorem ev_ite (t a b : CE) : ev g fl (.ite t a b) δ s = (ev g fl t δ s).bind fun p => match truthD p.1 with
    | some true => ev g fl a δ p.2
    | some false => ev g fl b δ p.2
    | none => none := rfl
@[simp] theorem ev_tup (es : CA) : ev g fl (.tup es) δ s = (evA g fl es δ s).bind fun p => (dsOf p.1).bind fun xs => if xs.length ≤ lim then some (.tup xs, p.2) else none := rfl
@[simp] theorem ev_lst (es : CA) : ev g fl (.lst es) δ s = (evA g fl es δ s).bind fun p => (dsOf p.1).bind fun xs => if xs.length ≤ lim then some (.lst xs, p.2) else none := rfl
@[simp] theorem ev_call (j : Nat) (es : CA) : ev g fl (.call j es) δ s = (evA g fl es δ s).bind fun p => match g[j]? with
    | some f => cutOf s (f p.1 p.2)
    | none => none := rfl
@[simp] theorem ev_mk (j : Nat) (es : CA) : ev g fl (.mk j es) δ s = (evA g fl es δ s).bind fun p => match g[j]? with
    | some f => fstOf s (f p.1 p.2)
    | none => none := rfl
@[simp] theorem ev_blt (b : BI) (es : CA) : ev g fl (.blt b es) δ s = (evA g fl es δ s).bind fun p => (dsOf p.1).bind fun xs => (biD b xs).map fun z => (z, p.2) := rfl
@[simp] theorem ev_isi (t : TyN) (a : CE) : ev g fl (.isi t a) δ s = (ev g fl a δ s).map fun p => (.bl (isiD t p.1), p.2) := rfl
@[simp] theorem ev_nev : ev g fl .nev δ s = none := rfl
@[simp] theorem ev_mth (m : MI) (o : CE) (es : CA) : ev g fl (.mth m o es) δ s = (ev g fl o δ s).bind fun p => (evA g fl es δ p.2).bind fun q => (dsOf q.1).bind fun xs => (miD m p.1 xs).map fun z => (z, q.2) := rfl
@[simp] theorem ev_att (o : CE) (f : Str) : ev g fl (.att o f) δ s = (ev g fl o δ s).bind fun p => match p.1 with
    | .ins C xs => (((fl C).zip xs).lookup f).map fun z => (z, p.2)
    | _ => none := rfl
@[simp] theorem ev_prp (j : Nat) (o : CE) (f : Str) : ev g fl (.prp j o f) δ s = (ev g fl o δ s).bind fun p => match p.1, g[j]? with
    | .ins C xs, some f => fstOf s (f [.d (.ins C xs)] p.2)
    | _, _ => none := rfl
@[simp] theorem ev_lenO (j : Nat) (o : CE) : ev g fl (.lenO j o) δ s = (ev g fl o δ s).bind fun p => match p.1, g[j]? with
    | .ins C xs, some f => (fstOf s (f [.d (.ins C xs)] p.2)).bind fun r => match r.1 with
      | .int i => if 0 ≤ i ∧ i < 2 ^ 62 then some (.int i, r.2) else none
      | _ => none
    | _, _ => none := rfl
@[simp] theorem ev_idx (a b : CE) : ev g fl (.idx a b) δ s = (ev g fl a δ s).bind fun p => (ev g fl b δ p.2).bind fun q => (idxD p.1 q.1).map fun z => (z, q.2) := rfl
@[simp] theorem ev_slL (a lo : CE) : ev g fl (.slL a lo) δ s = (ev g fl a δ s).bind fun p => (ev g fl lo δ p.2).bind fun q => q.1.isInt.bind fun i => (sliceD p.1 (some i) none).map fun z => (z, q.2) := rfl
@[simp] theorem ev_slH (a hi : CE) : ev g fl (.slH a hi) δ s = (ev g fl a δ s).bind fun p => (ev g fl hi δ p.2).bind fun q => q.1.isInt.bind fun i => (sliceD p.1 none (some i)).map fun z => (z, q.2) := rfl
@[simp] theorem ev_rev (a : CE) : ev g fl (.rev a) δ s = (ev g fl a δ s).bind fun p => match p.1 with
    | .lst xs => some (.lst xs.reverse, p.2)
    | .tup xs => some (.tup xs.reverse, p.2)
    | _ => none := rfl
@[simp] theorem ev_zip2 (a b : CE) : ev g fl (.zip2 a b) δ s = (ev g fl a δ s).bind fun p => (ev g fl b δ p.2).bind fun q => match p.1, q.1 with
    | .lst xs, .lst ys => some (.lst (zipD xs ys), q.2)
    | .tup xs, .tup ys => some (.lst (zipD xs ys), q.2)
    | .lst xs, .tup ys => some (.lst (zipD xs ys), q.2)
    | .tup xs, .lst ys => some (.lst (zipD xs ys), q.2)
    | _, _ => none := rfl
@[simp] theorem ev_enm (a : CE) : ev g fl (.enm a) δ s = (ev g fl a δ s).bind fun p => match p.1 with
    | .lst xs => some (.lst (enumD 0 xs), p.2)
    | .tup xs => some (.lst (enumD 0 xs), p.2)
    | _ => none := rfl
@[simp] theorem ev_rng1 (a : CE) : ev g fl (.rng1 a) δ s = (ev g fl a δ s).bind fun p => match p.1 with
    | .int i => if -1000000 ≤ i ∧ i ≤ lim then some (.lst (rngD 0 i.toNat), p.2) else none
    | _ => none := rfl
@[simp] theorem ev_rng2 (a b : CE) : ev g fl (.rng2 a b) δ s = (ev g fl a δ s).bind fun p => (ev g fl b δ p.2).bind fun q => match p.1, q.1 with
    | .int i, .int j => if -1000000 ≤ i ∧ i ≤ lim ∧ -1000000 ≤ j ∧ j ≤ lim then some (.lst (rngD i (j - i).toNat), q.2) else none
    | _, _ => none := rfl
@[simp] theorem ev_comp (elt : CE) (tg : CT) (it cnd : CE) (own : List Nat) : ev g fl (.comp elt tg it cnd own) δ s = (ev g fl it δ s).bind fun p => (itemsD p.1).bind fun xs => if lim < xs.length then none else
      (compL (cturn g fl elt tg cnd own δ) xs p.2).map fun q => (.lst q.1, q.2) := rfl
@[simp] theorem ev_lam (j : Nat) (e : CE) : ev g fl (.lam j e) δ s = match g[j]? with
    | some _ => ev g fl e δ s
    | none => none := rfl
@[simp] theorem ev_lenSet (a : CE) : ev g fl (.lenSet a) δ s = (ev g fl a δ s).bind fun p => match p.1 with
    | .lst xs => (intsOf xs).bind fun ns => if ns.length ≤ 4000 then some (.int (dedupN ns : Nat), p.2) else none
    | _ => none := rfl
@[simp] theorem ev_lenC (i : Nat) : ev g fl (.lenC i) δ s = (atC δ i).bind fun k => match s[k]? with
    | some (.lst xs) => some (.int xs.length, s)
    | _ => none := rfl
@[simp] theorem ev_tupC (i : Nat) : ev g fl (.tupC i) δ s = (atC δ i).bind fun k => match s[k]? with
    | some (.lst xs) => some (.tup xs, s)
    | _ => none := rfl
@[simp] theorem ev_idxC (i : Nat) (e : CE) : ev g fl (.idxC i e) δ s = (atC δ i).bind fun k => (ev g fl e δ s).bind fun p => match p.2[k]? with
    | some (.lst xs) => (idxD (.lst xs) p.1).map fun z => (z, p.2)
    | _ => none := rfl
@[simp] theorem ev_inC (neg : Bool) (e : CE) (i : Nat) : ev g fl (.inC neg e i) δ s = (ev g fl e δ s).bind fun p => (atC δ i).bind fun k => match p.2[k]? with
    | some (.lst xs) => if shp 20 p.1 && shps 20 xs then some (.bl (if neg then !inD p.1 xs else inD p.1 xs), p.2) else none
    | _ => none := rfl
@[simp] theorem ev_popC (i : Nat) (e : CE) : ev g fl (.popC i e) δ s = (atC δ i).bind fun k => match s[k]? with
    | some (.lst _) => (ev g fl e δ s).bind fun p => (match p.2[k]?, p.1 with
      | some (.lst xs), .int j => if -(2 ^ 63) ≤ j ∧ j < 2 ^ 63 then (ixN xs.length j).bind fun m => (xs[m]?).map fun z => (z, p.2.set k (.lst (xs.eraseIdx m))) else none
      | _, _ => none)
    | _ => none := rfl
@[simp] theorem evA_nil : evA g fl .nil δ s = some ([], s) := rfl
@[simp] theorem evA_cons (e : CE) (r : CA) : evA g fl (.cons e r) δ s = (ev g fl e δ s).bind fun p => (evA g fl r δ p.2).map fun q => (.d p.1 :: q.1, q.2) := rfl
@[simp] theorem evA_cel (i : Nat) (r : CA) : evA g fl (.cel i r) δ s = (atC δ i).bind fun k => (evA g fl r δ s).map fun q => (.c k :: q.1, q.2) := rfl
@[simp] theorem evA_ccl (j : Nat) (es r : CA) : evA g fl (.ccl j es r) δ s = (evA g fl es δ s).bind fun p => match g[j]? with
    | some f => (fstOf p.2 (f p.1 p.2)).bind fun x => match x.1 with
      | .lst xs => (evA g fl r δ (x.2 ++ [.lst xs])).map fun q => (.c x.2.length :: q.1, q.2)
      | _ => none
    | none => none := rfl
@[simp] theorem evA_fre (e : CE) (r : CA) : evA g fl (.fre e r) δ s = (ev g fl e δ s).bind fun p => match p.1 with
    | .lst xs => (evA g fl r δ (p.2 ++ [.lst xs])).map fun q => (.c p.2.length :: q.1, q.2)
    | _ => none := rfl
variable (b : Nat)
@[simp] theorem ex_skip : ex g fl b .skip δ s = some (.nx, δ, s) := rfl
@[simp] theorem ex_pass : ex g fl b .pass δ s = some (.nx, δ, s) := rfl
@[simp] theorem ex_seq (a c : CS) : ex g fl b (.seq a c) δ s = (ex g fl b a δ s).bind fun p => match p.1 with
    | .nx => ex g fl b c p.2.1 p.2.2
    | o => some (o, p.2.1, p.2.2) := rfl
@[simp] theorem ex_gho (i : Nat) (r : CS) : ex g fl b (.gho i r) δ s = (atC δ i).bind fun k => match s[k]? with
    | some (.lst xs) => if b ≤ k ∧ k + 1 = s.length ∧ soleC k i δ = true then ex g fl b r (δ.set i (some (.d (.lst xs)))) (s.take k) else none
    | _ => none := rfl
@[simp] theorem ex_asg (tg : CT) (e : CE) : ex g fl b (.asg tg e) δ s = (ev g fl e δ s).bind fun p => (asgT tg p.1 δ).map fun δ' => (.nx, δ', p.2) := rfl
@[simp] theorem ex_asg2 (i j : Nat) (es : CA) : ex g fl b (.asg2 i j es) δ s = (evA g fl es δ s).bind fun p => match p.1 with
    | [x, y] => some (.nx, (δ.set i (some x)).set j (some y), p.2)
    | _ => none := rfl
@[simp] theorem ex_asgC (i : Nat) (e : CE) : ex g fl b (.asgC i e) δ s = (ev g fl e δ s).bind fun p => match p.1 with
    | .lst xs => some (.nx, δ.set i (some (.c p.2.length)), p.2 ++ [.lst xs])
    | _ => none := rfl
@[simp] theorem ex_setC (i : Nat) (ix e : CE) : ex g fl b (.setC i ix e) δ s = (ev g fl e δ s).bind fun q => (atC δ i).bind fun k => (ev g fl ix δ q.2).bind fun p => match p.2[k]?, p.1 with
    | some (.lst xs), .int j => (ixN xs.length j).map fun m => (.nx, δ, p.2.set k (.lst (xs.set m q.1)))
    | _, _ => none := rfl
@[simp] theorem ex_asgX (i : Nat) (ix : CE) (j : Nat) (e : CE) : ex g fl b (.asgX i ix j e) δ s = (ev g fl e δ s).bind fun q => (atC δ i).bind fun k => (ev g fl ix δ q.2).bind fun p => match p.2[k]?, p.1, q.1 with
    | some (.lst xs), .int m0, .tup [a, c] => (ixN xs.length m0).map fun m => (.nx, δ.set j (some (.d c)), p.2.set k (.lst (xs.set m a)))
    | _, _, _ => none := rfl
@[simp] theorem ex_appC (i : Nat) (e : CE) : ex g fl b (.appC i e) δ s = (atC δ i).bind fun k => match s[k]? with
    | some (.lst _) => (ev g fl e δ s).bind fun p => (match p.2[k]? with
      | some (.lst xs) => if xs.length < lim then some (.nx, δ, p.2.set k (.lst (xs ++ [p.1]))) else none
      | _ => none)
    | _ => none := rfl
@[simp] theorem ex_ite (t : CE) (a c : CS) : ex g fl b (.ite t a c) δ s = (ev g fl t δ s).bind fun p => match truthD p.1 with
    | some true => ex g fl b a δ p.2
    | some false => ex g fl b c δ p.2
    | none => none := rfl
@[simp] theorem ex_for (tg : CT) (it : CE) (body : CS) : ex g fl b (.for_ tg it body) δ s = (ev g fl it δ s).bind fun p => (itemsD p.1).bind fun xs => forL (turn g fl b tg body) xs δ p.2 := rfl
@[simp] theorem ex_whl (m t : CE) (body : CS) : ex g fl b (.whl m t body) δ s = (ev g fl m δ s).bind fun p => match p.1 with
    | .int n => whlL (wtest g fl t) (fun δ1 s1 => ex g fl b body δ1 s1) (n.natAbs + 1) δ s
    | _ => none := rfl
@[simp] theorem ex_ret (e : CE) : ex g fl b (.ret e) δ s = (ev g fl e δ s).map fun p => (.rt (.d p.1), δ, p.2) := rfl
@[simp] theorem ev_zip3 (a c d : CE) : ev g fl (.zip3 a c d) δ s = (ev g fl a δ s).bind fun p => (ev g fl c δ p.2).bind fun q => (ev g fl d δ q.2).bind fun r => match seqD p.1, seqD q.1, seqD r.1 with
    | some xs, some ys, some zs => some (.lst (zip3D xs ys zs), r.2)
    | _, _, _ => none := rfl
@[simp] theorem seqD_l (xs : List D) : seqD (.lst xs) = some xs := rfl
@[simp] theorem seqD_t (xs : List D) : seqD (.tup xs) = some xs := rfl
@[simp] theorem ex_asg3 (i j k : Nat) (es : CA) : ex g fl b (.asg3 i j k es) δ s = (evA g fl es δ s).bind fun p => match p.1 with
    | [x, y, z] => some (.nx, ((δ.set i (some x)).set j (some y)).set k (some z), p.2)
    | _ => none := rfl
@[simp] theorem ex_retP (i j : Nat) : ex g fl b (.retP i j) δ s = (atC δ i).bind fun k => (atC δ j).bind fun l => match s[k]?, s[l]? with
    | some (.lst xs), some (.lst ys) => if b ≤ k ∧ b ≤ l ∧ k ≠ l then some (.rp xs ys, δ, s) else none
    | _, _ => none := rfl
@[simp] theorem ex_asgP (i j dp : Nat) (as : CA) : ex g fl b (.asgP i j dp as) δ s = (evA g fl as δ s).bind fun p => match g[dp]? with
    | some f => (fstOf p.2 (f p.1 p.2)).bind fun x => match x.1 with
      | .tup [.lst xs, .lst ys] => some (.nx, (δ.set i (some (.c (x.2.length + 1)))).set j (some (.c x.2.length)), (x.2 ++ [.lst ys]) ++ [.lst xs])
      | _ => none
    | none => none := rfl
@[simp] theorem ex_retF (e : CE) : ex g fl b (.retF e) δ s = (ev g fl e δ s).bind fun p => match p.1 with
    | .lst xs => some (.rf xs, δ, p.2)
    | _ => none := rfl
@[simp] theorem ex_retN : ex g fl b .retN δ s = some (.rt (.d .non), δ, s) := rfl
@[simp] theorem asgT_nm (i : Nat) (d : D) : asgT (.nm i) d δ = some (δ.set i (some (.d d))) := rfl
@[simp] theorem asgT_tp (r : CT) (xs : List D) : asgT (.tp r) (.tup xs) δ = asgTs r xs δ := rfl
@[simp] theorem asgT_tpl (r : CT) (xs : List D) : asgT (.tp r) (.lst xs) δ = asgTs r xs δ := rfl
@[simp] theorem asgTs_nil : asgTs .nil [] δ = some δ := rfl
@[simp] theorem asgTs_cons (a r : CT) (x : D) (xs : List D) : asgTs (.cons a r) (x :: xs) δ = (asgT a x δ).bind fun δ' => asgTs r xs δ' := rfl
@[simp] theorem wipeE_nil : wipeE δ [] = δ := rfl
@[simp] theorem wipeE_cons (v : Nat) (vs : List Nat) : wipeE δ (v :: vs) = (wipeE δ vs).set v none := rfl
end
@[simp] theorem dsOf_nil : dsOf [] = some [] := rfl
@[simp] theorem dsOf_cons (x : D) (r : List R) : dsOf (.d x :: r) = (dsOf r).map (x :: ·) := rfl
@[simp] theorem fstOf_d (s s' : S) (d : D) : fstOf s (some (.d d, s')) = some (d, s') := rfl
@[simp] theorem cutOf_d {s s' : S} {d : D} (h : s'.length ≤ s.length) : cutOf s (some (.d d, s')) = some (d, s') := by
  show some (d, s'.take s.length) = _
  rw [List.take_of_length_le h]
theorem cutOf_t (s s' : S) (d : D) : cutOf s (some (.d d, s')) = some (d, s'.take s.length) := rfl
@[simp] theorem atD_zero (x : D) (r : EnvR) : atD (some (.d x) :: r) 0 = some x := rfl
@[simp] theorem atD_succ (a : Option R) (r : EnvR) (n : Nat) : atD (a :: r) (n + 1) = atD r n := rfl
@[simp] theorem atC_zero (x : Nat) (r : EnvR) : atC (some (.c x) :: r) 0 = some x := rfl
@[simp] theorem atC_succ (a : Option R) (r : EnvR) (n : Nat) : atC (a :: r) (n + 1) = atC r n := rfl
@[simp] theorem itemsD_l (xs : List D) : itemsD (.lst xs) = some xs := rfl
@[simp] theorem itemsD_t (xs : List D) : itemsD (.tup xs) = some xs := rfl
@[simp] theorem atI_zero {α : Type} (x : α) (xs : List α) : atI (x :: xs) 0 = some x := by
  unfold atI ixN
  rw [if_pos (by omega), if_pos (by simp)]
  rfl
@[simp] theorem isInt_i (i : Int) : D.isInt (.int i) = some i := rfl
@[simp] theorem b_add (i j : Int) : binD .Add (.int i) (.int j) = some (.int (i + j)) := rfl
@[simp] theorem b_sub (i j : Int) : binD .Sub (.int i) (.int j) = some (.int (i - j)) := rfl
theorem b_mul {i j : Int} (h : mulOk i j = true) : binD .Mult (.int i) (.int j) = some (.int (i * j)) := by
  show (if mulOk i j then _ else _) = _
  rw [if_pos h]
theorem b_mod {i j : Int} (h : 0 < j) : binD .Mod (.int i) (.int j) = some (.int (i % j)) := by
  show (if 0 < j then _ else _) = _
  rw [if_pos h]
theorem b_div {i j : Int} (h : 0 < j) (h2 : j < 2 ^ 64) : binD .FloorDiv (.int i) (.int j) = some (.int (i / j)) := by
  show (if 0 < j ∧ j.natAbs.log2 < 9000 then _ else _) = _
  have h3 : j.natAbs < 2 ^ 64 := by omega
  have h4 : j.natAbs.log2 < 64 := (Nat.log2_lt (by omega)).mpr h3
  have h5 : j.natAbs.log2 < 9000 := by omega
  rw [if_pos ⟨h, h5⟩]
theorem mul_l {i j : Int} (h1 : -(2 ^ 64) < i) (h2 : i < 2 ^ 64) : mulOk i j = true := by
  unfold mulOk
  rw [decide_eq_true (⟨h1, h2⟩ : -(2 ^ 64) < i ∧ i < 2 ^ 64)]
  rfl
theorem mul_r {i j : Int} (h1 : -(2 ^ 64) < j) (h2 : j < 2 ^ 64) : mulOk i j = true := by
  unfold mulOk
  rw [decide_eq_true (⟨h1, h2⟩ : -(2 ^ 64) < j ∧ j < 2 ^ 64), Bool.or_true]
  rfl
@[simp] theorem c_lt (i j : Int) : cmpD .Lt (.int i) (.int j) = some (.bl (decide (i < j))) := rfl
@[simp] theorem c_le (i j : Int) : cmpD .LtE (.int i) (.int j) = some (.bl (decide (i ≤ j))) := rfl
@[simp] theorem c_gt (i j : Int) : cmpD .Gt (.int i) (.int j) = some (.bl (decide (j < i))) := rfl
@[simp] theorem c_ge (i j : Int) : cmpD .GtE (.int i) (.int j) = some (.bl (decide (j ≤ i))) := rfl
@[simp] theorem c_eqi (i j : Int) : cmpD .Eq (.int i) (.int j) = some (.bl (i == j)) := rfl
@[simp] theorem c_nei (i j : Int) : cmpD .NotEq (.int i) (.int j) = some (.bl (!(i == j))) := rfl
@[simp] theorem c_eqs (i j : Str) : cmpD .Eq (.str i) (.str j) = some (.bl (i == j)) := rfl
@[simp] theorem c_nes (i j : Str) : cmpD .NotEq (.str i) (.str j) = some (.bl (!(i == j))) := rfl
@[simp] theorem t_bl (b : Bool) : truthD (.bl b) = some b := rfl
@[simp] theorem t_int (b : Int) : truthD (.int b) = some (b != 0) := rfl
@[simp] theorem bi_int (i : Int) : biD .int [.int i] = some (.int i) := rfl
@[simp] theorem bi_intb (i : Bool) : biD .int [.bl i] = some (.int (if i then 1 else 0)) := rfl
@[simp] theorem bi_len_t (xs : List D) : biD .len [.tup xs] = some (.int xs.length) := rfl
@[simp] theorem bi_len_l (xs : List D) : biD .len [.lst xs] = some (.int xs.length) := rfl
@[simp] theorem bi_tuple_l (xs : List D) : biD .tuple [.lst xs] = some (.tup xs) := rfl
@[simp] theorem bi_tuple_t (xs : List D) : biD .tuple [.tup xs] = some (.tup xs) := rfl
@[simp] theorem bi_list_l (xs : List D) : biD .list [.lst xs] = some (.lst xs) := rfl
@[simp] theorem bi_list_t (xs : List D) : biD .list [.tup xs] = some (.lst xs) := rfl
@[simp] theorem bi_min2 (i j : Int) : biD .min2 [.int i, .int j] = some (.int (if j < i then j else i)) := rfl
@[simp] theorem bi_max2 (i j : Int) : biD .max2 [.int i, .int j] = some (.int (if j > i then j else i)) := rfl
@[simp] theorem bi_abs (i : Int) : biD .abs [.int i] = some (.int (if i < 0 then -i else i)) := rfl
@[simp] theorem bi_repr (i : Bool) : biD .repr [.bl i] = some (.str (if i then "True" else "False")) := rfl
theorem bi_dm {i j : Int} (h : 0 < j) (h2 : j < 1073741824) : biD .divmod [.int i, .int j] = some (.tup [.int (i / j), .int (i % j)]) := by
  show (if 0 < j ∧ j < 1073741824 then _ else _) = _
  rw [if_pos ⟨h, h2⟩]
@[simp] theorem isiD_ii (i : Int) : isiD .int (.int i) = true := rfl
@[simp] theorem isiD_bi (i : Int) : isiD .bool (.int i) = false := rfl
@[simp] theorem isiD_ss (i : Str) : isiD .str (.str i) = true := rfl
@[simp] theorem isiD_tt (i : List D) : isiD .tuple (.tup i) = true := rfl
@[simp] theorem lim_eq : lim = 1000000 := rfl
theorem take_self {α : Type} {n : Nat} {xs : List α} (h : xs.length ≤ n) : xs.take n = xs := List.take_of_length_le h
theorem forL_inv {f : D → EnvR → S → Option (Out × EnvR × S)} (I : Nat → EnvR → S → Prop) : ∀ (xs : List D) (i : Nat) (δ : EnvR) (s : S), I i δ s → (∀ j x δ s, xs[j]? = some x → I (i + j) δ s → ∃ δ' s', f x δ s = some (.nx, δ', s') ∧ I (i + j + 1) δ' s') →
    ∃ δ' s', forL f xs δ s = some (.nx, δ', s') ∧ I (i + xs.length) δ' s'
  | [], i, δ, s, h, _ => ⟨δ, s, rfl, h⟩
  | x :: xs, i, δ, s, h, st => by
    obtain ⟨δ1, s1, e, h1⟩ := st 0 x δ s rfl h
    obtain ⟨δ2, s2, e2, h2⟩ := forL_inv I xs (i + 1) δ1 s1 h1 fun j y δ s hj hI => by
      have := st (j + 1) y δ s (by simpa using hj) (by rw [show i + (j + 1) = i + 1 + j by omega]; exact hI)
      rw [show i + (j + 1) + 1 = i + 1 + j + 1 by omega] at this
      exact this
    refine ⟨δ2, s2, ?_, by rw [List.length_cons, show i + (xs.length + 1) = i + 1 + xs.length by omega]; exact h2⟩
    unfold forL
    rw [e]
    exact e2
/-- an invariant that does not count -/
theorem forL_inv0 {f : D → EnvR → S → Option (Out × EnvR × S)} (I : EnvR → S → Prop) : ∀ (xs : List D) (δ : EnvR) (s : S), I δ s → (∀ x ∈ xs, ∀ δ s, I δ s → ∃ δ' s', f x δ s = some (.nx, δ', s') ∧ I δ' s') →
    ∃ δ' s', forL f xs δ s = some (.nx, δ', s') ∧ I δ' s' := fun xs δ s h st => by
  obtain ⟨δ', s', e, h'⟩ := forL_inv (fun _ => I) xs 0 δ s h fun j x δ s hj hI => st x (List.mem_of_getElem? hj) δ s hI
  exact ⟨δ', s', e, h'⟩
theorem compL_map {f : D → S → Option (Option D × S)} {g : D → D} : ∀ (xs : List D) (s : S), (∀ x ∈ xs, f x s = some (some (g x), s)) → compL f xs s = some (xs.map g, s)
  | [], s, _ => rfl
  | x :: xs, s, h => by
    unfold compL
    rw [h x List.mem_cons_self]
    show Option.map _ (compL f xs s) = _
    rw [compL_map xs s fun y hy => h y (List.mem_cons_of_mem _ hy)]
    rfl
theorem compL_maps {α : Type} {f : D → S → Option (Option D × S)} {t : α → D} {g : α → D} (xs : List α) (s : S) (h : ∀ x ∈ xs, f (t x) s = some (some (g x), s)) : compL f (xs.map t) s = some (xs.map g, s) := by
  induction xs with
  | nil => rfl
  | cons x xs ih =>
    unfold compL
    rw [List.map_cons]
    simp only [h x List.mem_cons_self, Option.bind_some, ih fun y hy => h y (List.mem_cons_of_mem _ hy)]
    rfl
/-- a comprehension that draws -/
theorem compL_inv {f : D → S → Option (Option D × S)} (J : S → Prop) (P : D → Prop) : ∀ (xs : List D) (s : S), J s → (∀ x ∈ xs, ∀ s, J s → ∃ y s', f x s = some (some y, s') ∧ J s' ∧ P y) →
    ∃ ys s', compL f xs s = some (ys, s') ∧ J s' ∧ ys.length = xs.length ∧ ∀ y ∈ ys, P y
  | [], s, h, _ => ⟨[], s, rfl, h, rfl, by simp⟩
  | x :: xs, s, h, st => by
    obtain ⟨y, s1, e, h1, hp⟩ := st x List.mem_cons_self s h
    obtain ⟨ys, s2, e2, h2, hl, hq⟩ := compL_inv J P xs s1 h1 fun x hx => st x (List.mem_cons_of_mem _ hx)
    refine ⟨y :: ys, s2, ?_, h2, by simp [hl], ?_⟩
    · unfold compL
      rw [e]
      show Option.map _ (compL f xs s1) = _
      rw [e2]
      rfl
    · intro z hz
      rcases List.mem_cons.mp hz with rfl | hz
      · exact hp
      · exact hq z hz
theorem intsOf_map : ∀ ns : List Int, intsOf (ns.map .int) = some ns
  | [] => rfl
  | n :: ns => by
    show (intsOf (ns.map .int)).map _ = _
    rw [intsOf_map ns]
    rfl
theorem blsOf_map : ∀ ns : List Bool, blsOf (ns.map .bl) = some ns
  | [] => rfl
  | n :: ns => by
    show (blsOf (ns.map .bl)).map _ = _
    rw [blsOf_map ns]
    rfl
theorem strsOf_map : ∀ ns : List Str, strsOf (ns.map .str) = some ns
  | [] => rfl
  | n :: ns => by
    show (strsOf (ns.map .str)).map _ = _
    rw [strsOf_map ns]
    rfl
end DL

set_option Elab.async false
set_option linter.all false
set_option autoImplicit false
set_option maxRecDepth 100000
set_option maxHeartbeats 1000000
namespace SD
open PySem L2 DL
/-- a flow of draws -/
structure Fl where
  a : Int
  b : Int
  c : Int
  h : 0 ≤ a
def Fl.cell (f : Fl) : Cell := .lst [.int f.a, .int f.b, .int f.c]
@[simp] theorem take1 {α : Type} (x y : α) (t : List α) : (x :: t).take ((y :: t).length) = x :: t := by simp
@[simp] theorem take2 {α : Type} (x y : α) (t : List α) : (x :: t).take (t.length + 1) = x :: t := by simp
@[simp] theorem take3 {α : Type} (x : α) (t u : List α) : (x :: (t ++ u)).take (t.length + 1) = x :: t := by simp

theorem v_draw (m : Int) (hm : 0 < m) (hm2 : m < 1073741824) (f : Fl) (t : S) :
    ∃ r f', e_law_draw [.c 0, .d (.int m)] (f.cell :: t) = some (.d (.int r), Fl.cell f' :: t) ∧ 0 ≤ r ∧ r < m := by
  obtain ⟨a, b, c, ha⟩ := f
  have m1 : ∀ x : Int, mulOk x (b % 20011 + 30029) = true := fun x => mul_r (by omega) (by omega)
  have m2 : ∀ x : Int, mulOk 77723 x = true := fun x => mul_l (by omega) (by omega)
  have i0 : ∀ x y z : D, idxD (.lst [x, y, z]) (.int 0) = some x := fun _ _ _ => rfl
  have i1 : ∀ x y z : D, idxD (.lst [x, y, z]) (.int 1) = some y := fun _ _ _ => rfl
  have i2 : ∀ x y z : D, idxD (.lst [x, y, z]) (.int 2) = some z := fun _ _ _ => rfl
  have n0 : ixN 3 0 = some 0 := rfl
  have n1 : ixN 3 1 = some 1 := rfl
  have n2 : ixN 3 2 = some 2 := rfl
  by_cases h : 0 < a
  · refine ⟨a % m, ⟨a / m, (b * (b % 20011 + 30029) + 77723 * (c + 1) + 3) % 2147483587, c + 1, Int.ediv_nonneg ha (by omega)⟩, ?_, Int.emod_nonneg _ (by omega), Int.emod_lt_of_pos _ hm⟩
    simp [e_law_draw, DL.run, c_law_draw, Fl.cell, i0, i1, i2, n0, n1, n2, h, b_mul, m1, m2, b_mod, bi_dm hm hm2]
  · refine ⟨(b * (b % 20011 + 30029) + 77723 * (c + 1) + 3) % 2147483587 / 256 % m, ⟨a, (b * (b % 20011 + 30029) + 77723 * (c + 1) + 3) % 2147483587, c + 1, ha⟩, ?_, Int.emod_nonneg _ (by omega), Int.emod_lt_of_pos _ hm⟩
    simp [e_law_draw, DL.run, c_law_draw, Fl.cell, i0, i1, i2, n0, n1, n2, h, b_mul, m1, m2, b_mod, b_div, hm]

theorem idx_lt {xs : List D} {i : Int} (h0 : 0 ≤ i) (h1 : i < xs.length) : ∃ x, atI xs i = some x ∧ x ∈ xs ∧ xs[i.toNat]? = some x := by
  have hi : i.toNat < xs.length := by omega
  refine ⟨xs[i.toNat], ?_, List.getElem_mem hi, by simp [hi]⟩
  unfold atI ixN
  rw [if_pos h0, if_pos h1]
  simp [hi]
@[simp] theorem idxD_l (xs : List D) (i : Int) : idxD (.lst xs) (.int i) = atI xs i := rfl
@[simp] theorem idxD_t (xs : List D) (i : Int) : idxD (.tup xs) (.int i) = atI xs i := rfl

theorem v_pick (xs : List D) (h0 : xs ≠ []) (h1 : xs.length < 1000000) (f : Fl) (t : S) :
    ∃ x f', e_law_pick [.c 0, .d (.lst xs)] (f.cell :: t) = some (.d x, Fl.cell f' :: t) ∧ x ∈ xs := by
  have hl : 0 < xs.length := List.length_pos_iff.mpr h0
  obtain ⟨r, f', e, r0, r1⟩ := v_draw xs.length (by omega) (by omega) f t
  obtain ⟨x, ex, mx, _⟩ := idx_lt r0 r1
  refine ⟨x, f', ?_, mx⟩
  simp [e_law_pick, DL.run, c_law_pick, e, ex]

def isIn : D → Bool
  | .int _ => true
  | _ => false
@[simp] theorem isIn_int (i : Int) : isIn (.int i) = true := rfl
theorem v_is_integer (v : D) (s : S) : e_is_integer [.d v] s = some (.d (.bl (isIn v)), s) := by
  cases v <;> simp [e_is_integer, DL.run, c_is_integer, isiD, isIn]
theorem v_is_within (i lo hi : Int) (s : S) : e_is_within [.d (.int i), .d (.int lo), .d (.int hi)] s = some (.d (.bl (decide (lo ≤ i ∧ i ≤ hi))), s) := by
  by_cases h : lo ≤ i <;> simp [e_is_within, DL.run, c_is_within, v_is_integer, h]
theorem v_is_within_not {v : D} (h : isIn v = false) (lo hi : D) (s : S) : e_is_within [.d v, .d lo, .d hi] s = some (.d (.bl false), s) := by
  simp [e_is_within, DL.run, c_is_within, v_is_integer, h]

def spansN (n : Nat) : List (Nat × Nat) := (List.range n).flatMap fun i => ((List.range n).drop (i + 1)).map fun j => (i, j)
def pD2 (p : Nat × Nat) : D := .tup [.int p.1, .int p.2]
def spansD (n : Nat) : List D := (spansN n).map pD2
theorem v_spans_of {n : Nat} (h0 : 2 ≤ n) (h1 : n ≤ 5) (s : S) : e_spans_of [.d (.int n)] s = some (.d (.tup (spansD n)), s) := by
  have e : ∀ a s', (ex g_spans_of fl s.length c_spans_of [some (.d (.int n)), none, none, none] s = some (.rt (.d a), s', s)) → e_spans_of [.d (.int n)] s = some (.d a, s) := fun a s' e => by
    simp [e_spans_of, DL.run, e]
  have h : n = 2 ∨ n = 3 ∨ n = 4 ∨ n = 5 := by omega
  rcases h with rfl | rfl | rfl | rfl
  · exact e _ [some (.d (.int 2)), some (.d (.lst (spansD 2))), some (.d (.int 1)), none] (by kernel_rfl)
  · exact e _ [some (.d (.int 3)), some (.d (.lst (spansD 3))), some (.d (.int 2)), none] (by kernel_rfl)
  · exact e _ [some (.d (.int 4)), some (.d (.lst (spansD 4))), some (.d (.int 3)), none] (by kernel_rfl)
  · exact e _ [some (.d (.int 5)), some (.d (.lst (spansD 5))), some (.d (.int 4)), none] (by kernel_rfl)
theorem v_law_spans {n : Nat} (h0 : 2 ≤ n) (h1 : n ≤ 5) (s : S) : e_law_spans [.d (.int n)] s = some (.d (.lst (spansD n)), s) := by
  have e : ∀ a s', (ex g_law_spans fl s.length c_law_spans [some (.d (.int n)), none, none, none] s = some (.rt (.d a), s', s)) → e_law_spans [.d (.int n)] s = some (.d a, s) := fun a s' e => by
    simp [e_law_spans, DL.run, e]
  have h : n = 2 ∨ n = 3 ∨ n = 4 ∨ n = 5 := by omega
  rcases h with rfl | rfl | rfl | rfl
  · exact e _ [some (.d (.int 2)), some (.d (.lst (spansD 2))), some (.d (.int 1)), none] (by kernel_rfl)
  · exact e _ [some (.d (.int 3)), some (.d (.lst (spansD 3))), some (.d (.int 2)), none] (by kernel_rfl)
  · exact e _ [some (.d (.int 4)), some (.d (.lst (spansD 4))), some (.d (.int 3)), none] (by kernel_rfl)
  · exact e _ [some (.d (.int 5)), some (.d (.lst (spansD 5))), some (.d (.int 4)), none] (by kernel_rfl)
end SD

set_option Elab.async false
set_option linter.all false
set_option autoImplicit false
set_option maxRecDepth 100000
set_option maxHeartbeats 1000000
namespace SD
open PySem L2 DL
def okl (c : Nat) : Bool := decide (97 ≤ c ∧ c ≤ 122)
def okc (c : Nat) : Bool := okl c || decide (48 ≤ c ∧ c ≤ 57)
abbrev lettersS : Str := "abcdefghijklmnopqrstuvwxyz"
abbrev digitsS : Str := "0123456789"
theorem let_mem (c : Nat) : decide (c ∈ lettersS.cps.toList) = okl c := by
  have : lettersS.cps.toList = (List.range 26).map (· + 97) := by decide +kernel
  rw [this]
  unfold okl
  apply decide_eq_decide.mpr
  simp only [List.mem_map, List.mem_range]
  constructor
  · rintro ⟨a, h, rfl⟩; omega
  · intro h; exact ⟨c - 97, by omega, by omega⟩
theorem dig_mem (c : Nat) : decide (c ∈ digitsS.cps.toList) = decide (48 ≤ c ∧ c ≤ 57) := by
  have : digitsS.cps.toList = (List.range 10).map (· + 48) := by decide +kernel
  rw [this]
  apply decide_eq_decide.mpr
  simp only [List.mem_map, List.mem_range]
  constructor
  · rintro ⟨a, h, rfl⟩; omega
  · intro h; exact ⟨c - 48, by omega, by omega⟩
theorem c_in_let (c : Nat) : cmpD .In (.str ⟨#[c]⟩) (.str lettersS) = some (.bl (okl c)) := by
  show some (D.bl (!(Builtin.Str.occurrences lettersS ⟨#[c]⟩ 0 lettersS.length 1).isEmpty)) = _
  rw [StrLaws.found_one, let_mem]
theorem c_in_dig (c : Nat) : cmpD .In (.str ⟨#[c]⟩) (.str digitsS) = some (.bl (decide (48 ≤ c ∧ c ≤ 57))) := by
  show some (D.bl (!(Builtin.Str.occurrences digitsS ⟨#[c]⟩ 0 digitsS.length 1).isEmpty)) = _
  rw [StrLaws.found_one, dig_mem]
def isNm (x : Str) : Bool := match x.cps.toList with
  | [] => false
  | c :: r => decide (r.length ≤ 7) && (okl c && (c :: r).all okc)
theorem v_is_name (x : Str) (h : x.length ≤ 1000000) (s : S) : e_is_name [.d (.str x)] s = some (.d (.bl (isNm x)), s) := by
  have hl : biD .len [.str x] = some (.int x.length) := by
    show (if x.length ≤ 1000000 then _ else _) = _
    rw [if_pos h]
  have hlen : x.length = x.cps.toList.length := rfl
  unfold isNm
  cases hx : x.cps.toList with
  | nil =>
    rw [hx] at hlen
    simp [e_is_name, DL.run, c_is_name, hl, hlen]
  | cons c r =>
    rw [hx] at hlen
    have hi : idxD (.str x) (.int 0) = some (.str ⟨#[c]⟩) := by
      show (if x.length ≤ 1000000 then (atI x.cps.toList 0).map _ else none) = _
      rw [if_pos h, hx]
      simp
    by_cases h8 : r.length ≤ 7
    · have q : (x.length : Int) ≤ 8 := by rw [hlen]; simp; omega
      have q1 : (1 : Int) ≤ x.length := by rw [hlen]; simp; omega
      have hcomp : ∀ δ : EnvR, δ.length = 2 → compL (cturn g_is_name fl x_is_name_1 (.nm 1) .yes [1] δ) (chars x) s = some ((c :: r).map fun c => D.bl (okc c), s) := by
        intro δ hδ
        unfold chars
        rw [hx]
        refine compL_maps (c :: r) s fun y hy => ?_
        obtain ⟨a, b, rfl⟩ : ∃ a b, δ = [a, b] := by
          match δ, hδ with
          | [a, b], _ => exact ⟨a, b, rfl⟩
        unfold okc
        cases hy2 : okl y <;> simp [cturn, x_is_name_1, c_in_let, c_in_dig, hy2]
      have hn : (chars x).length = r.length + 1 := by unfold chars; rw [hx]; simp
      have hit : itemsD (.str x) = some (chars x) := rfl
      have hall : biD .all [.lst ((c :: r).map fun c => D.bl (okc c))] = some (.bl ((c :: r).all okc)) := by
        show (blsOf _).map _ = _
        have : (c :: r).map (fun c => D.bl (okc c)) = ((c :: r).map okc).map D.bl := by simp
        rw [this, blsOf_map]
        simp
      have q7 : ¬ 1000000 < (chars x).length := by rw [hn]; omega
      generalize (c :: r).map (fun c => D.bl (okc c)) = L at hcomp hall
      cases hc : okl c
      · simp [e_is_name, DL.run, c_is_name, hl, q, q1, hi, c_in_let, hc]
      · simp [e_is_name, DL.run, c_is_name, hl, q, q1, hi, c_in_let, hc, hit, hcomp, hall, h8, q7]
    · have q : ¬ (x.length : Int) ≤ 8 := by rw [hlen]; simp; omega
      have q1 : (1 : Int) ≤ x.length := by rw [hlen]; simp; omega
      simp [e_is_name, DL.run, c_is_name, hl, q, q1, h8]
end SD

set_option Elab.async false
set_option linter.all false
set_option autoImplicit false
set_option maxRecDepth 100000
set_option maxHeartbeats 1000000
namespace DL
open PySem L2
@[simp] theorem shp_str (n : Nat) (x : Str) : shp n (.str x) = true := by unfold shp; rfl
@[simp] theorem shp_int (n : Nat) (x : Int) : shp n (.int x) = true := by unfold shp; rfl
@[simp] theorem shp_bl (n : Nat) (x : Bool) : shp n (.bl x) = true := by unfold shp; rfl
@[simp] theorem shp_non (n : Nat) : shp n .non = true := by unfold shp; rfl
@[simp] theorem shps_nil (n : Nat) : shps n [] = true := by unfold shps; rfl
@[simp] theorem shps_cons (n : Nat) (x : D) (xs : List D) : shps n (x :: xs) = (shp n x && shps n xs) := by rw [shps]
theorem shps_all (n : Nat) : ∀ xs : List D, shps n xs = xs.all (shp n)
  | [] => by simp
  | x :: xs => by simp [shps_all n xs]
@[simp] theorem shp_tp (n : Nat) (xs : List D) : shp (n + 1) (.tup xs) = shps n xs := by rw [shp]
@[simp] theorem shp_ls (n : Nat) (xs : List D) : shp (n + 1) (.lst xs) = shps n xs := by rw [shp]
@[simp] theorem shps_strs (n : Nat) (xs : List Str) : shps n (xs.map .str) = true := by
  rw [shps_all, List.all_map]
  exact List.all_eq_true.mpr fun x _ => shp_str n x
@[simp] theorem shps_ints (n : Nat) (xs : List Int) : shps n (xs.map .int) = true := by
  rw [shps_all, List.all_map]
  exact List.all_eq_true.mpr fun x _ => shp_int n x
@[simp] theorem eqD_ss (x y : Str) : eqD (.str x) (.str y) = (x == y) := by rw [eqD]
@[simp] theorem eqD_ii (x y : Int) : eqD (.int x) (.int y) = (x == y) := by rw [eqD]
@[simp] theorem eqD_bb (x y : Bool) : eqD (.bl x) (.bl y) = (x == y) := by rw [eqD]
@[simp] theorem eqD_tt (x y : List D) : eqD (.tup x) (.tup y) = eqDs x y := by rw [eqD]
@[simp] theorem eqD_ll (x y : List D) : eqD (.lst x) (.lst y) = eqDs x y := by rw [eqD]
@[simp] theorem eqDs_nn : eqDs [] [] = true := by rw [eqDs]
@[simp] theorem eqDs_cn (x : D) (xs : List D) : eqDs (x :: xs) [] = false := by rw [eqDs] <;> simp
@[simp] theorem eqDs_nc (x : D) (xs : List D) : eqDs [] (x :: xs) = false := by rw [eqDs] <;> simp
@[simp] theorem eqDs_cc (x y : D) (xs ys : List D) : eqDs (x :: xs) (y :: ys) = (eqD x y && eqDs xs ys) := by rw [eqDs]
def isStr : D → Option Str
  | .str x => some x
  | _ => none
theorem str_beq (x y : Str) : (x == y) = decide (x = y) := rfl
theorem inD_strs (d : D) (xs : List Str) : inD d (xs.map .str) = (match d with | .str x => decide (x ∈ xs) | _ => false) := by
  induction xs with
  | nil => cases d <;> simp [inD]
  | cons y ys ih =>
    rw [List.map_cons, inD, ih]
    cases d <;> simp [eqD, eq_comm, str_beq]
theorem indexL_strs (x : Str) : ∀ (xs : List Str) (n : Nat), x ∈ xs → indexL (.str x) n (xs.map .str) = some (n + xs.idxOf x)
  | [], _, h => by cases h
  | y :: ys, n, h => by
    rw [List.map_cons, indexL, eqD_ss]
    by_cases e : y = x
    · subst e; simp
    · have hy : x ∈ ys := by
        rcases List.mem_cons.mp h with r | r
        · exact absurd r.symm e
        · exact r
      have e2 : (y == x) = false := by simpa using e
      rw [if_neg (by simp [e]), indexL_strs x ys (n + 1) hy, List.idxOf_cons, e2]
      simp
      omega
theorem cutL_take {α : Type} (xs : List α) (k : Nat) : cutL xs none (some (k : Int)) = xs.take k := by
  unfold cutL
  rw [HT.sIx_none, HT.sIx_nat]
  simp
theorem cutL_drop {α : Type} (xs : List α) (k : Nat) : cutL xs (some (k : Int)) none = xs.drop k := by
  unfold cutL
  rw [HT.sIx_none, HT.sIx_nat]
  by_cases h : k ≤ xs.length
  · rw [Nat.min_eq_left h, List.take_of_length_le (by simp)]
  · rw [Nat.min_eq_right (by omega), List.drop_eq_nil_of_le (Nat.le_refl _), List.drop_eq_nil_of_le (by omega)]
    simp
theorem enumD_get : ∀ (xs : List D) (n j : Nat) (y : D), (enumD n xs)[j]? = some y → ∃ x, xs[j]? = some x ∧ y = .tup [.int ((n + j : Nat) : Int), x]
  | [], _, _, _, h => by simp [enumD] at h
  | x :: xs, n, 0, y, h => by simp [enumD] at h; exact ⟨x, rfl, h.symm⟩
  | x :: xs, n, j + 1, y, h => by
    obtain ⟨z, h1, h2⟩ := enumD_get xs (n + 1) j y (by simpa [enumD] using h)
    exact ⟨z, by simpa using h1, by rw [h2, show n + 1 + j = n + (j + 1) by omega]⟩
@[simp] theorem enumD_len : ∀ (xs : List D) (n : Nat), (enumD n xs).length = xs.length
  | [], _ => rfl
  | _ :: xs, n => by rw [enumD, List.length_cons, enumD_len xs, List.length_cons]
/-- a loop that may return from a turn, over a store that stays -/
def findR (p : Nat → D → Option D) : Nat → List D → Option D
  | _, [] => none
  | k, x :: xs => match p k x with
    | some r => some r
    | none => findR p (k + 1) xs
theorem forL_find {f : D → EnvR → S → Option (Out × EnvR × S)} {s : S} (I : EnvR → Prop) (p : Nat → D → Option D) : ∀ (xs : List D) (k : Nat) (δ : EnvR), I δ → (∀ j x δ, xs[j]? = some x → I δ → ∃ δ', f x δ s = some (match p (k + j) x with | some r => .rt (.d r) | none => .nx, δ', s) ∧ I δ') →
    ∃ δ', forL f xs δ s = some (match findR p k xs with | some r => .rt (.d r) | none => .nx, δ', s) ∧ I δ'
  | [], k, δ, h, _ => ⟨δ, rfl, h⟩
  | x :: xs, k, δ, h, st => by
    obtain ⟨δ1, e, h1⟩ := st 0 x δ rfl h
    cases hp : p k x with
    | some r =>
      refine ⟨δ1, ?_, h1⟩
      have e' : f x δ s = some (.rt (.d r), δ1, s) := by rw [e, show k + 0 = k from rfl, hp]
      unfold forL findR
      rw [e', hp]
      rfl
    | none =>
      have e' : f x δ s = some (.nx, δ1, s) := by rw [e, show k + 0 = k from rfl, hp]
      obtain ⟨δ2, e2, h2⟩ := forL_find I p xs (k + 1) δ1 h1 fun j y δ hj hI => by
        have := st (j + 1) y δ (by simpa using hj) hI
        rw [show k + (j + 1) = k + 1 + j by omega] at this
        exact this
      refine ⟨δ2, ?_, h2⟩
      unfold forL findR
      rw [e', hp]
      exact e2
end DL
namespace SD
open PySem L2 DL
def tS (xs : List Str) : D := .tup (xs.map .str)
def tI (xs : List Int) : D := .tup (xs.map .int)
def wrongF (all : List Str) : Nat → List Str → Option Nat
  | _, [] => none
  | k, x :: r => if (!isNm x || decide (x ∈ all.take k) || decide (5 ≤ k)) = true then some k else wrongF all (k + 1) r
def optI : Option Nat → D
  | none => .non
  | some k => .int k
theorem v_wrong_place (pl : List Str) (hl : ∀ x ∈ pl, x.length ≤ 1000000) (s : S) : e_wrong_place [.d (tS pl)] s = some (.d (optI (wrongF pl 0 pl)), s) := by
  have key : ∀ j1 j2, ∃ δ', forL (turn g_wrong_place fl s.length (.tp (.cons (.nm 1) (.cons (.nm 2) .nil))) b_wrong_place_1) (enumD 0 (pl.map .str)) [some (.d (tS pl)), j1, j2] s =
      some (match findR (fun k x => match x with | .tup [_, .str y] => if (!isNm y || decide (y ∈ pl.take k) || decide (5 ≤ k)) = true then some (.int k) else none | _ => none) 0 (enumD 0 (pl.map .str)) with | some r => .rt (.d r) | none => .nx, δ', s) ∧ ∃ j1 j2, δ' = [some (.d (tS pl)), j1, j2] := by
    intro j1 j2
    refine forL_find (fun δ => ∃ j1 j2, δ = [some (.d (tS pl)), j1, j2]) _ _ 0 _ ⟨_, _, rfl⟩ ?_
    rintro j x δ hj ⟨j1, j2, rfl⟩
    obtain ⟨x, hx, rfl⟩ := enumD_get _ _ _ _ hj
    rw [List.getElem?_map] at hx
    obtain ⟨y, hy, rfl⟩ := Option.map_eq_some_iff.mp hx
    have hm := hl y (List.mem_of_getElem? hy)
    refine ⟨[some (.d (tS pl)), some (.d (.int ((0 + j : Nat) : Int))), some (.d (.str y))], ?_, _, _, rfl⟩
    have h3 : sliceD (tS pl) none (some (j : Int)) = some (.tup ((pl.map .str).take j)) := by
      show some (D.tup (cutL _ _ _)) = _
      rw [cutL_take]
    have h4 : cmpD .In (.str y) (.tup ((pl.map .str).take j)) = some (.bl (decide (y ∈ pl.take j))) := by
      show (if shp 20 (.str y) && shps 20 _ then some (D.bl (inD _ _)) else none) = _
      rw [← List.map_take, inD_strs, shps_strs]
      simp
    cases h1 : isNm y
    · simp [turn, b_wrong_place_1, v_is_name y hm, h1]
    · by_cases h2 : y ∈ pl.take j
      · simp [turn, b_wrong_place_1, v_is_name y hm, h1, h3, h4, h2]
      · by_cases h5 : 5 ≤ j
        · have : (5 : Int) ≤ j := by omega
          simp [turn, b_wrong_place_1, v_is_name y hm, h1, h3, h4, h2, h5, this]
        · have : ¬ (5 : Int) ≤ j := by omega
          simp [turn, b_wrong_place_1, v_is_name y hm, h1, h3, h4, h2, h5, this]
  have fr : ∀ (l : List Str) (k : Nat), findR (fun k x => match x with | .tup [_, .str y] => if (!isNm y || decide (y ∈ pl.take k) || decide (5 ≤ k)) = true then some (.int k) else none | _ => none) k (enumD k (l.map .str)) = (wrongF pl k l).map fun k => D.int (k : Int) := by
    intro l
    induction l with
    | nil => intro k; rfl
    | cons x l ih =>
      intro k
      rw [List.map_cons, enumD, findR, wrongF]
      by_cases h : (!isNm x || decide (x ∈ pl.take k) || decide (5 ≤ k)) = true
      · simp only [h, if_true]; rfl
      · simp only [h, if_false, Bool.false_eq_true]; exact ih (k + 1)
  obtain ⟨δ', e, j1, j2, rfl⟩ := key none none
  rw [fr pl 0] at e
  unfold tS at e ⊢
  cases hw : wrongF pl 0 pl <;> rw [hw] at e <;> simp [e_wrong_place, DL.run, c_wrong_place, e, optI]
end SD

set_option Elab.async false
set_option linter.all false
set_option autoImplicit false
set_option maxRecDepth 100000
set_option maxHeartbeats 1000000
namespace SD
open PySem L2 DL
/-- places of posts -/
structure PlOk (pl : List Str) : Prop where
  lo : 2 ≤ pl.length
  hi : pl.length ≤ 5
  nd : pl.Nodup
  nm : ∀ x ∈ pl, isNm x = true
theorem nm_len {x : Str} (h : isNm x = true) : x.length ≤ 8 := by
  have hlen : x.length = x.cps.toList.length := rfl
  unfold isNm at h
  cases hx : x.cps.toList with
  | nil => rw [hx] at h; cases h
  | cons c r =>
    rw [hx] at h hlen
    simp at h
    rw [hlen]; simp; omega
theorem nm_space {x : Str} (h : isNm x = true) : 32 ∉ x.cps.toList := by
  unfold isNm at h
  cases hx : x.cps.toList with
  | nil => simp
  | cons c r =>
    rw [hx] at h
    simp only [Bool.and_eq_true] at h
    intro hm
    have := List.all_eq_true.mp h.2.2 32 hm
    simp [okc, okl] at this
theorem wrongF_none {all : List Str} (nd : all.Nodup) (nm : ∀ x ∈ all, isNm x = true) (h5 : all.length ≤ 5) : ∀ (k : Nat) (r : List Str), all.drop k = r → wrongF all k r = none
  | _, [], _ => rfl
  | k, x :: r, h => by
    have hk : k < all.length := by
      by_cases q : k < all.length
      · exact q
      · rw [List.drop_eq_nil_of_le (by omega)] at h; cases h
    have hx : all[k] = x := by
      have := List.drop_eq_getElem_cons hk
      rw [h] at this
      exact (List.cons.inj this).1.symm
    have h1 : isNm x = true := nm x (hx ▸ List.getElem_mem hk)
    have h2 : x ∉ all.take k := by
      intro hm
      obtain ⟨i, hi, he⟩ := List.getElem_of_mem hm
      rw [List.getElem_take] at he
      have hik : i < k := by simp at hi; omega
      have := (List.nodup_iff_pairwise_ne.mp nd)
      have := List.pairwise_iff_getElem.mp this i k (by omega) hk hik
      exact this (he.trans hx.symm)
    rw [wrongF, h1]
    simp only [Bool.not_true, Bool.false_or, h2, decide_false]
    rw [if_neg (by simp; omega)]
    exact wrongF_none nd nm h5 (k + 1) r (by rw [← List.drop_drop, h]; rfl)
theorem PlOk.wrong {pl : List Str} (h : PlOk pl) : wrongF pl 0 pl = none := wrongF_none h.nd h.nm h.hi 0 pl rfl

abbrev postsS : Str := "posts"
abbrev spaceS : Str := " "
def textOf (pl : List Str) : Str := Txt.join spaceS (postsS :: pl)
theorem sum_len {k : Nat} : ∀ {xs : List Str}, (∀ x ∈ xs, x.length ≤ k) → (xs.map (·.length)).sum ≤ k * xs.length
  | [], _ => by simp
  | x :: xs, h => by
    have h1 := h x List.mem_cons_self
    have h2 := sum_len fun y hy => h y (List.mem_cons_of_mem x hy)
    simp only [List.map_cons, List.sum_cons, List.length_cons, Nat.mul_add]
    omega
theorem v_law_text {pl : List Str} (h : PlOk pl) (s : S) : e_law_text [.d (tS pl)] s = some (.d (.str (textOf pl)), s) := by
  have h1 := sum_len fun x hx => nm_len (h.nm x hx)
  have h2 := h.hi
  have e1 : binD .Add (.tup [.str postsS]) (tS pl) = some (.tup ((postsS :: pl).map .str)) := by
    show (if 1 + (pl.map D.str).length ≤ 1000000 then some (D.tup ([D.str postsS] ++ pl.map .str)) else none) = _
    rw [if_pos (by simp; omega)]
    rfl
  have e2 : miD .join (.str spaceS) [.tup ((postsS :: pl).map .str)] = some (.str (textOf pl)) := by
    show (strsOf _).bind _ = _
    rw [strsOf_map, Option.bind_some]
    have a : ((postsS :: pl).map (·.length)).sum = 5 + (pl.map (·.length)).sum := rfl
    have b : Str.length spaceS = 1 := rfl
    rw [if_pos ?_]
    · rfl
    · rw [a, b]; simp; omega
  simp only [List.map_cons] at e1 e2
  simp [e_law_text, DL.run, c_law_text, e1, e2]
theorem text_len {pl : List Str} (h : PlOk pl) : (textOf pl).length ≤ 60 := by
  have h1 := sum_len fun x hx => nm_len (h.nm x hx)
  have h2 := h.hi
  unfold textOf
  rw [TL.join_eq]
  have := StrLaws.join_length_le spaceS (postsS :: pl)
  have a : ((postsS :: pl).map (·.length)).sum = 5 + (pl.map (·.length)).sum := rfl
  have b : Str.length spaceS = 1 := rfl
  rw [a, b] at this
  simp at this
  omega
theorem split_text {pl : List Str} (h : PlOk pl) : Txt.split (textOf pl) spaceS = postsS :: pl := by
  unfold textOf
  refine TL.split_join (s := 32) (S := []) rfl (by decide +kernel) (by simp) fun p hp => ?_
  rcases List.mem_cons.mp hp with rfl | hp
  · decide +kernel
  · exact nm_space (h.nm p hp)
@[simp] theorem str_isi (x : Str) : isiD .str (.str x) = true := rfl
theorem v_read_posts {pl : List Str} (h : PlOk pl) (s : S) : e_read_posts [.d (.str (textOf pl))] s = some (.d (tS pl), s) := by
  have h1 := text_len h
  have e1 : miD .split (.str (textOf pl)) [.str spaceS] = some (.lst (.str postsS :: pl.map .str)) := by
    show (if Str.length spaceS ≠ 0 ∧ (textOf pl).length + 2 ≤ lim then _ else _) = _
    rw [if_pos ⟨by decide, by simp; omega⟩, split_text h]
    rfl
  have e2 : sliceD (.lst (.str postsS :: pl.map .str)) (some 1) none = some (.lst (pl.map .str)) := by
    show some (D.lst (cutL _ (some ((1 : Nat) : Int)) none)) = _
    rw [cutL_drop]
    rfl
  have e4 : cmpD .Is .non .non = some (.bl true) := rfl
  have hw := v_wrong_place pl (fun x hx => by have := nm_len (h.nm x hx); omega) s
  rw [h.wrong] at hw
  have hl := h.lo
  have : (1 : Int) < pl.length := by omega
  unfold tS at hw ⊢
  simp [e_read_posts, DL.run, c_read_posts, e1, e2, e4, hw, optI, this]
def postsD (pl : List Str) : D := .ins 0 [tS pl, .tup (spansD pl.length)]
theorem v_init {pl : List Str} (h : PlOk pl) (s : S) : e_p_init [.d (tS pl)] s = some (.d (postsD pl), s) := by
  have hw := v_wrong_place pl (fun x hx => by have := nm_len (h.nm x hx); omega) s
  rw [h.wrong] at hw
  have hl := h.lo
  have : ¬ (pl.length : Int) < 2 := by omega
  have e4 : cmpD .IsNot .non .non = some (.bl false) := rfl
  have hs := v_spans_of h.lo h.hi s
  unfold postsD
  unfold tS at hw ⊢
  simp [e_p_init, initD, i1, i2, i3, i5, this, hw, optI, e4, hs]
theorem v_spans (pl : List Str) (s : S) : e_p_spans [.d (postsD pl)] s = some (.d (.tup (spansD pl.length)), s) := by
  have : ((["spots", "links"] : List Str).zip [tS pl, .tup (spansD pl.length)]).lookup ("links" : Str) = some (D.tup (spansD pl.length)) := rfl
  simp only [List.zip_cons_cons, List.zip_nil_left] at this
  simp [e_p_spans, DL.run, c_p_spans, postsD, fl, this]
theorem v_places (pl : List Str) (s : S) : e_p_places [.d (postsD pl)] s = some (.d (tS pl), s) := by
  have : ((["spots", "links"] : List Str).zip [tS pl, .tup (spansD pl.length)]).lookup ("spots" : Str) = some (tS pl) := rfl
  simp only [List.zip_cons_cons, List.zip_nil_left] at this
  simp [e_p_places, DL.run, c_p_places, postsD, fl, this]

def okN (most : Int) : D → Bool
  | .int i => decide (0 ≤ i ∧ i ≤ most)
  | _ => false
def wrongN (v : D) (m : Int) (most : Int) : D := match v with
  | .tup xs => if xs.length = m then (match xs.findIdx? (fun x => !okN most x) with
    | none => .tup []
    | some k => .tup [.int k]) else .tup [.non]
  | _ => .tup [.non]
theorem v_within (v : D) (most : Int) (s : S) : e_is_within [.d v, .d (.int 0), .d (.int most)] s = some (.d (.bl (okN most v)), s) := by
  cases v with
  | int i => exact v_is_within i 0 most s
  | _ => exact v_is_within_not rfl _ _ s
theorem findR_enum (P : D → Bool) (F : Nat → D) : ∀ (xs : List D) (k : Nat), findR (fun k x => match x with | .tup [_, y] => if P y = true then some (F k) else none | _ => none) k (enumD k xs) = (xs.findIdx? P).map fun j => F (k + j)
  | [], k => rfl
  | x :: xs, k => by
    rw [enumD, findR, List.findIdx?_cons]
    by_cases h : P x = true
    · simp [h]
    · simp only [h, if_false, Bool.false_eq_true]
      rw [findR_enum P F xs (k + 1)]
      cases xs.findIdx? P <;> simp
      congr 1; omega
theorem v_wrong_number (v : D) (m most : Int) (s : S) : e_wrong_number [.d v, .d (.int m), .d (.int most)] s = some (.d (wrongN v m most), s) := by
  have hnt : isiD .tuple v = false → e_wrong_number [.d v, .d (.int m), .d (.int most)] s = some (.d (.tup [.non]), s) := fun h => by
    simp [e_wrong_number, DL.run, c_wrong_number, h]
  cases v with
  | tup xs =>
    by_cases hl : (xs.length : Int) = m
    · have key : ∃ δ', forL (turn g_wrong_number fl s.length (.tp (.cons (.nm 3) (.cons (.nm 4) .nil))) b_wrong_number_1) (enumD 0 xs) [some (.d (.tup xs)), some (.d (.int m)), some (.d (.int most)), none, none] s =
          some (match findR (fun k x => match x with | .tup [_, y] => if (!okN most y) = true then some (.tup [.int k]) else none | _ => none) 0 (enumD 0 xs) with | some r => .rt (.d r) | none => .nx, δ', s) ∧ ∃ j1 j2, δ' = [some (.d (.tup xs)), some (.d (.int m)), some (.d (.int most)), j1, j2] := by
        refine forL_find (fun δ => ∃ j1 j2, δ = [some (.d (.tup xs)), some (.d (.int m)), some (.d (.int most)), j1, j2]) _ _ 0 _ ⟨_, _, rfl⟩ ?_
        rintro j x δ hj ⟨j1, j2, rfl⟩
        obtain ⟨x, hx, rfl⟩ := enumD_get _ _ _ _ hj
        refine ⟨[some (.d (.tup xs)), some (.d (.int m)), some (.d (.int most)), some (.d (.int ((0 + j : Nat) : Int))), some (.d x)], ?_, _, _, rfl⟩
        cases h1 : okN most x
        · simp [turn, b_wrong_number_1, v_within, h1]
        · simp [turn, b_wrong_number_1, v_within, h1]
      obtain ⟨δ', e, j1, j2, rfl⟩ := key
      rw [findR_enum (fun y => !okN most y) (fun k => .tup [.int k]) xs 0] at e
      unfold wrongN
      simp only [if_pos hl]
      cases hw : xs.findIdx? (fun y => !okN most y) <;> rw [hw] at e <;> simp [e_wrong_number, DL.run, c_wrong_number, hl, e]
    · have : ((xs.length : Int) == m) = false := by simpa using hl
      unfold wrongN
      simp only [if_neg hl]
      simp [e_wrong_number, DL.run, c_wrong_number, this]
  | _ => exact hnt rfl
/-- numbers that are roads or parcels -/
def NOk (n : Nat) (ns : List Int) : Prop := ns.length = (spansN n).length ∧ ∀ i ∈ ns, 0 ≤ i ∧ i ≤ 1000000000000000000000000000000
theorem wrongN_ok {n : Nat} {ns : List Int} (h : NOk n ns) : wrongN (tI ns) ((spansD n).length : Nat) 1000000000000000000000000000000 = .tup [] := by
  unfold wrongN tI
  have hl : (spansD n).length = (spansN n).length := by unfold spansD; simp
  simp only [List.length_map, hl, h.1]
  have : (ns.map D.int).findIdx? (fun x => !okN 1000000000000000000000000000000 x) = none := by
    rw [List.findIdx?_eq_none_iff]
    intro x hx
    obtain ⟨i, hi, rfl⟩ := List.mem_map.mp hx
    have := h.2 i hi
    simp [okN, this]
  rw [this]
  simp
end SD

set_option Elab.async false
set_option linter.all false
set_option autoImplicit false
set_option maxRecDepth 100000
set_option maxHeartbeats 1000000
namespace DL
open PySem L2
theorem bi_all {α : Type} (P : α → Bool) (xs : List α) : biD .all [.lst (xs.map fun x => D.bl (P x))] = some (.bl (xs.all P)) := by
  show (blsOf _).map _ = _
  have : xs.map (fun x => D.bl (P x)) = (xs.map P).map D.bl := by simp
  rw [this, blsOf_map]
  simp
@[simp] theorem st_get (s : S) (c : Cell) (t : S) : (s ++ c :: t)[s.length]? = some c := by simp
@[simp] theorem st_get1 (s : S) (c c1 : Cell) (t : S) : (s ++ c :: c1 :: t)[s.length + 1]? = some c1 := by simp
@[simp] theorem st_set (s : S) (c x : Cell) (t : S) : (s ++ c :: t).set s.length x = s ++ x :: t := by simp
@[simp] theorem st_set1 (s : S) (c c1 x : Cell) (t : S) : (s ++ c :: c1 :: t).set (s.length + 1) x = s ++ c :: x :: t := by
  rw [List.set_append_right _ _ (by omega)]
  simp
@[simp] theorem st_take (s t : S) : (s ++ t).take s.length = s := by simp
@[simp] theorem st_take1 (s : S) (c : Cell) (t : S) : (s ++ c :: t).take (s.length + 1) = s ++ [c] := by
  rw [List.take_append, List.take_of_length_le (by omega)]
  simp
theorem ixN_nat {n k : Nat} (h : k < n) : ixN n (k : Int) = some k := by
  unfold ixN
  rw [if_pos (by omega), if_pos (by omega)]
  simp
theorem atI_nat {α : Type} {xs : List α} {k : Nat} (h : k < xs.length) : atI xs (k : Int) = some xs[k] := by
  unfold atI
  rw [ixN_nat h]
  simp [h]
theorem atI_neg1 {α : Type} {xs : List α} (h : xs ≠ []) : atI xs (-1) = some (xs.getLast h) := by
  have h0 := List.length_pos_iff.mpr h
  unfold atI ixN
  rw [if_neg (by omega), if_pos (by omega)]
  have : (-1 + (xs.length : Int)).toNat = xs.length - 1 := by omega
  simp [this, List.getLast_eq_getElem, h0]
@[simp] theorem atI_one {α : Type} (x y : α) (xs : List α) : atI (x :: y :: xs) 1 = some y := by
  have := atI_nat (xs := x :: y :: xs) (k := 1) (by simp)
  simpa using this
@[simp] theorem shp_cnv (xs : List D) (n : Nat) : shps n (xs.take 0) = true := by simp
theorem shps_take {n : Nat} {xs : List D} (h : shps n xs = true) (k : Nat) : shps n (xs.take k) = true := by
  rw [shps_all] at h ⊢
  exact List.all_eq_true.mpr fun x hx => List.all_eq_true.mp h x (List.mem_of_mem_take hx)
theorem shps_mem {n : Nat} {xs : List D} (h : shps n xs = true) {x : D} (hx : x ∈ xs) : shp n x = true := by
  rw [shps_all] at h
  exact List.all_eq_true.mp h x hx
theorem c_in_t {x : D} {ys : List D} (h : shp 20 x = true) (h2 : shps 20 ys = true) (ns : ∀ z, x = .str z → True) : cmpD .In x (.tup ys) = some (.bl (inD x ys)) := by
  cases x <;> simp [cmpD, h, h2]
theorem c_nin_t {x : D} {ys : List D} (h : shp 20 x = true) (h2 : shps 20 ys = true) : cmpD .NotIn x (.tup ys) = some (.bl (!inD x ys)) := by
  cases x <;> simp [cmpD, h, h2]
theorem all_take_nodup {α : Type} [DecidableEq α] (all : List α) : ∀ (k : Nat) (r : List α), all.drop k = r → (r.zipIdx k).all (fun p => decide (p.1 ∉ all.take p.2)) = true → (all.take k).Nodup → all.Nodup
  | k, [], h, _, nd => by
    have : all.take k = all := List.take_of_length_le (by
      by_cases q : k < all.length
      · have := List.drop_eq_getElem_cons q; rw [h] at this; cases this
      · omega)
    rwa [this] at nd
  | k, x :: r, h, ha, nd => by
    have q : k < all.length := by
      by_cases q : k < all.length
      · exact q
      · rw [List.drop_eq_nil_of_le (by omega)] at h; cases h
    have e := List.drop_eq_getElem_cons q
    rw [h] at e
    obtain ⟨e1, e2⟩ := List.cons.inj e
    simp only [List.zipIdx_cons, List.all_cons, Bool.and_eq_true, decide_eq_true_eq] at ha
    refine all_take_nodup all (k + 1) r e2.symm ha.2 ?_
    rw [List.take_succ_eq_append_getElem q, ← e1]
    rw [List.nodup_append]
    refine ⟨nd, by simp, ?_⟩
    intro a h1 b h2
    simp at h2
    subst h2
    intro h3
    subst h3
    exact ha.1 h1
theorem nodup_all_take {α : Type} [DecidableEq α] {all : List α} (nd : all.Nodup) : (all.zipIdx 0).all (fun p => decide (p.1 ∉ all.take p.2)) = true := by
  refine List.all_eq_true.mpr fun p hp => ?_
  obtain ⟨x, k⟩ := p
  have := List.mem_zipIdx hp
  simp at this
  obtain ⟨hk, hx⟩ := this
  simp only [decide_eq_true_eq]
  intro hm
  obtain ⟨i, hi, he⟩ := List.getElem_of_mem hm
  rw [List.getElem_take] at he
  have hik : i < k := by simp at hi; omega
  exact List.pairwise_iff_getElem.mp (List.nodup_iff_pairwise_ne.mp nd) i k (by omega) hk hik (he.trans hx)
theorem all_take_iff {α : Type} [DecidableEq α] (all : List α) : (all.zipIdx 0).all (fun p => decide (p.1 ∉ all.take p.2)) = decide all.Nodup := by
  by_cases h : all.Nodup
  · rw [nodup_all_take h]; simp [h]
  · have : ¬ (all.zipIdx 0).all (fun p => decide (p.1 ∉ all.take p.2)) = true := fun q => h (all_take_nodup all 0 all rfl q (by simp))
    simp only [Bool.not_eq_true] at this
    rw [this]; simp [h]
end DL
namespace SD
open PySem L2 DL
def ixOf (pl : List Str) : D → Option Nat
  | .str x => if x ∈ pl then some (pl.idxOf x) else none
  | _ => none
def rowOf (pl : List Str) : List D → Option (List Nat)
  | [] => some []
  | d :: r => (ixOf pl d).bind fun i => (rowOf pl r).map (i :: ·)
theorem rowOf_some {pl : List Str} : ∀ {r : List D} {row : List Nat}, rowOf pl r = some row → ∃ xs : List Str, r = xs.map .str ∧ (∀ x ∈ xs, x ∈ pl) ∧ row = xs.map (pl.idxOf ·)
  | [], row, h => by cases h; exact ⟨[], rfl, by simp, rfl⟩
  | d :: r, row, h => by
    unfold rowOf at h
    obtain ⟨i, hi, h⟩ := Option.bind_eq_some_iff.mp h
    obtain ⟨row', hr, rfl⟩ := Option.map_eq_some_iff.mp h
    obtain ⟨xs, rfl, h1, rfl⟩ := rowOf_some hr
    cases d <;> simp [ixOf] at hi
    rename_i x
    obtain ⟨hx, rfl⟩ := hi
    exact ⟨x :: xs, rfl, fun y hy => by rcases List.mem_cons.mp hy with rfl | hy; exact hx; exact h1 y hy, rfl⟩
theorem rowOf_map {pl : List Str} : ∀ {xs : List Str}, (∀ x ∈ xs, x ∈ pl) → rowOf pl (xs.map .str) = some (xs.map (pl.idxOf ·))
  | [], _ => rfl
  | x :: xs, h => by
    rw [List.map_cons, rowOf, rowOf_map fun y hy => h y (List.mem_cons_of_mem x hy)]
    simp [ixOf, h x List.mem_cons_self]
theorem rowOf_all {pl : List Str} : ∀ (r : List D), (r.all fun d => inD d (pl.map .str)) = (rowOf pl r).isSome
  | [] => rfl
  | d :: r => by
    rw [List.all_cons, rowOf_all r, rowOf, inD_strs]
    cases d <;> simp [ixOf]
    rename_i x
    by_cases h : x ∈ pl <;> simp [h]
theorem idx_inj {pl : List Str} {a b : Str} (ha : a ∈ pl) (hb : b ∈ pl) (h : pl.idxOf a = pl.idxOf b) : a = b := by
  have h1 := List.idxOf_lt_length_of_mem ha
  have h2 := List.idxOf_lt_length_of_mem hb
  have e1 : pl[pl.idxOf a] = a := List.getElem_idxOf h1
  have e2 : pl[pl.idxOf b] = b := List.getElem_idxOf h2
  rw [← e1, ← e2]
  simp [h]
theorem nodup_map_idx {pl : List Str} : ∀ {xs : List Str}, (∀ x ∈ xs, x ∈ pl) → ((xs.map (pl.idxOf ·)).Nodup ↔ xs.Nodup)
  | [], _ => by simp
  | x :: xs, h => by
    rw [List.map_cons, List.nodup_cons, List.nodup_cons, nodup_map_idx fun y hy => h y (List.mem_cons_of_mem x hy)]
    refine and_congr_left fun _ => not_congr ⟨fun hm => ?_, fun hm => List.mem_map.mpr ⟨x, hm, rfl⟩⟩
    obtain ⟨y, hy, e⟩ := List.mem_map.mp hm
    exact idx_inj (h y (List.mem_cons_of_mem x hy)) (h x List.mem_cons_self) e ▸ hy
def isRoute (pl : List Str) (r : List D) : Bool := decide (2 ≤ r.length) && (match rowOf pl r with
  | some row => decide row.Nodup
  | none => false)
theorem enum_zip (xs : List D) (n : Nat) : enumD n xs = (xs.zipIdx n).map fun p => .tup [.int p.2, p.1] := by
  induction xs generalizing n with
  | nil => rfl
  | cons x xs ih => rw [enumD, ih, List.zipIdx_cons, List.map_cons]
theorem v_is_route (pl : List Str) (r : List D) (h1 : shps 20 r = true) (h2 : r.length ≤ 4000) (s : S) : e_is_route [.d (postsD pl), .d (.tup r)] s = some (.d (.bl (isRoute pl r)), s) := by
  by_cases hl : 2 ≤ r.length
  · have hl' : (2 : Int) ≤ r.length := by omega
    have hlim : ¬ 1000000 < r.length := by omega
    have c1 : ∀ δ : EnvR, δ = [some (.d (postsD pl)), some (.d (.tup r)), none, none] → compL (cturn g_is_route fl x_is_route_1 (.nm 3) .yes [3] δ) r s = some (r.map fun d => .bl (inD d (pl.map .str)), s) := by
      rintro δ rfl
      refine compL_map r s fun d hd => ?_
      have hc := c_in_t (shps_mem h1 hd) (shps_strs 20 pl) fun _ _ => trivial
      have hp : ∀ s, e_p_places [.d (postsD pl)] s = some (.d (.tup (pl.map .str)), s) := v_places pl
      unfold postsD at hp ⊢
      simp [cturn, x_is_route_1, hp, hc]
    have a1 := bi_all (fun d => inD d (pl.map .str)) r
    rw [rowOf_all] at a1
    generalize r.map (fun d => D.bl (inD d (pl.map .str))) = L at c1 a1
    cases hr : rowOf pl r with
    | none =>
      rw [hr] at a1
      simp [e_is_route, DL.run, c_is_route, hl', hlim, c1, a1, isRoute, hr]
    | some row =>
      rw [hr] at a1
      obtain ⟨xs, rfl, hx, rfl⟩ := rowOf_some hr
      have c2 : ∀ δ : EnvR, δ = [some (.d (postsD pl)), some (.d (.tup (xs.map .str))), none, none] → compL (cturn g_is_route fl x_is_route_2 (.tp (.cons (.nm 2) (.cons (.nm 3) .nil))) .yes [2, 3] δ) (enumD 0 (xs.map .str)) s = some ((xs.zipIdx 0).map fun p => .bl (decide (p.1 ∉ xs.take p.2)), s) := by
        rintro δ rfl
        rw [enum_zip, List.zipIdx_map, List.map_map]
        refine compL_maps (xs.zipIdx 0) s fun p hp => ?_
        obtain ⟨x, k⟩ := p
        have e1 : sliceD (.tup (xs.map .str)) none (some (k : Int)) = some (.tup ((xs.take k).map .str)) := by
          show some (D.tup (cutL _ _ _)) = _
          rw [cutL_take, List.map_take]
        have e2 := c_nin_t (x := .str x) (ys := (xs.take k).map .str) (shp_str _ _) (shps_strs _ _)
        rw [inD_strs] at e2
        generalize D.tup ((xs.take k).map .str) = T at e1 e2
        generalize D.tup (xs.map .str) = T2 at e1
        simp [cturn, x_is_route_2, e1, e2]
      have a2 := bi_all (fun p : Str × Nat => decide (p.1 ∉ xs.take p.2)) (xs.zipIdx 0)
      rw [all_take_iff] at a2
      generalize ((xs.zipIdx 0).map fun p => D.bl (decide (p.1 ∉ xs.take p.2))) = L2 at c2 a2
      have hn : decide (xs.map (pl.idxOf ·)).Nodup = decide xs.Nodup := decide_eq_decide.mpr (nodup_map_idx hx)
      have hlim2 : ¬ 1000000 < (xs.map D.str).length := hlim
      have hl3 : 2 ≤ (xs.map D.str).length := hl
      generalize xs.map D.str = T at *
      simp [e_is_route, DL.run, c_is_route, hl', hlim, c1, a1, isRoute, hr, hn, c2, a2, hl3]
  · have hl' : ¬ (2 : Int) ≤ r.length := by omega
    simp [e_is_route, DL.run, c_is_route, hl', isRoute, hl]
theorem v_is_route_not (p : D) {v : D} (h : isiD .tuple v = false) (s : S) : e_is_route [.d p, .d v] s = some (.d (.bl false), s) := by
  simp [e_is_route, DL.run, c_is_route, h]
end SD

set_option Elab.async false
set_option linter.all false
set_option autoImplicit false
set_option maxRecDepth 100000
set_option maxHeartbeats 1000000
namespace DL
open PySem L2
/-- a slot that holds no cell -/
def jd (o : Option D) : Option R := o.map .d
@[simp] theorem isC_jd (k : Nat) (o : Option D) : isC k (jd o) = false := by cases o <;> rfl
@[simp] theorem isC_none (k : Nat) : isC k none = false := rfl
@[simp] theorem isC_d (k : Nat) (x : D) : isC k (some (.d x)) = false := rfl
@[simp] theorem isC_c (k j : Nat) : isC k (some (.c j)) = (j == k) := rfl
@[simp] theorem ex_jd (x : D) : (∃ o, some (R.d x) = jd o) = True := by simp; exact ⟨some x, rfl⟩
@[simp] theorem ex_jd' (x : Option D) : (∃ o, jd x = jd o) = True := by simp; exact ⟨x, rfl⟩
@[simp] theorem ex_jdn : (∃ o, none = jd o) = True := by simp; exact ⟨none, rfl⟩
theorem none_jd : (none : Option R) = jd none := rfl
theorem soleC_eq (k i : Nat) (δ : EnvR) : soleC k i δ = !((δ.set i none).any (isC k)) := rfl
/-- a loop; α says where it is; none: it returns r -/
theorem forL_fold {α : Type} {f : D → EnvR → S → Option (Out × EnvR × S)} (r : R) (K : S → Prop) (I : α → EnvR → S → Prop) (st : α → D → Option α) : ∀ (xs : List D) (a : α) (δ : EnvR) (s : S), I a δ s →
    (∀ x ∈ xs, ∀ a δ s, I a δ s → (∀ a', st a x = some a' → ∃ δ' s', f x δ s = some (.nx, δ', s') ∧ I a' δ' s') ∧ (st a x = none → ∃ δ' s', f x δ s = some (.rt r, δ', s') ∧ K s')) →
    (∀ a', xs.foldlM st a = some a' → ∃ δ' s', forL f xs δ s = some (.nx, δ', s') ∧ I a' δ' s') ∧ (xs.foldlM st a = none → ∃ δ' s', forL f xs δ s = some (.rt r, δ', s') ∧ K s')
  | [], a, δ, s, h, _ => ⟨fun a' e => by cases e; exact ⟨δ, s, rfl, h⟩, fun e => by cases e⟩
  | x :: xs, a, δ, s, h, step => by
    obtain ⟨h1, h0⟩ := step x List.mem_cons_self a δ s h
    rw [List.foldlM_cons]
    cases hs : st a x with
    | none =>
      obtain ⟨δ', s', e, h2⟩ := h0 hs
      exact ⟨fun a' e => (by cases e), fun _ => ⟨δ', s', by unfold forL; rw [e]; rfl, h2⟩⟩
    | some a' =>
      obtain ⟨δ', s', e, h2⟩ := h1 a' hs
      have hf : forL f (x :: xs) δ s = forL f xs δ' s' := by
        rw [forL, e]; rfl
      rw [hf]
      exact forL_fold r K I st xs a' δ' s' h2 fun y hy => step y (List.mem_cons_of_mem x hy)
theorem forL_foldl {α : Type} {f : D → EnvR → S → Option (Out × EnvR × S)} (I : α → EnvR → S → Prop) (st : α → D → α) : ∀ (xs : List D) (a : α) (δ : EnvR) (s : S), I a δ s →
    (∀ x ∈ xs, ∀ a δ s, I a δ s → ∃ δ' s', f x δ s = some (.nx, δ', s') ∧ I (st a x) δ' s') → ∃ δ' s', forL f xs δ s = some (.nx, δ', s') ∧ I (xs.foldl st a) δ' s'
  | [], a, δ, s, h, _ => ⟨δ, s, rfl, h⟩
  | x :: xs, a, δ, s, h, step => by
    obtain ⟨δ1, s1, e, h1⟩ := step x List.mem_cons_self a δ s h
    obtain ⟨δ2, s2, e2, h2⟩ := forL_foldl I st xs _ δ1 s1 h1 fun y hy => step y (List.mem_cons_of_mem x hy)
    exact ⟨δ2, s2, by unfold forL; rw [e]; exact e2, h2⟩
/-- over typed elements -/
theorem forL_folds {α β : Type} {t : β → D} {f : D → EnvR → S → Option (Out × EnvR × S)} (I : α → EnvR → S → Prop) (st : α → β → α) (xs : List β) (a : α) (δ : EnvR) (s : S) (h : I a δ s)
    (step : ∀ x ∈ xs, ∀ a δ s, I a δ s → ∃ δ' s', f (t x) δ s = some (.nx, δ', s') ∧ I (st a x) δ' s') : ∃ δ' s', forL f (xs.map t) δ s = some (.nx, δ', s') ∧ I (xs.foldl st a) δ' s' := by
  induction xs generalizing a δ s with
  | nil => exact ⟨δ, s, rfl, h⟩
  | cons x xs ih =>
    obtain ⟨δ1, s1, e, h1⟩ := step x List.mem_cons_self a δ s h
    obtain ⟨δ2, s2, e2, h2⟩ := ih _ δ1 s1 h1 fun y hy => step y (List.mem_cons_of_mem x hy)
    exact ⟨δ2, s2, by rw [List.map_cons]; unfold forL; rw [e]; exact e2, h2⟩
/-- a loop whose turns append to the last cell -/
theorem forL_app {β : Type} {t g : β → D} {f : D → EnvR → S → Option (Out × EnvR × S)} {s : S} (J : EnvR → Prop) : ∀ (xs : List β) (acc : List D) (δ : EnvR), J δ → acc.length + xs.length ≤ 1000000 →
    (∀ x ∈ xs, ∀ acc δ, J δ → acc.length < 1000000 → ∃ δ', f (t x) δ (s ++ [.lst acc]) = some (.nx, δ', s ++ [.lst (acc ++ [g x])]) ∧ J δ') → ∃ δ', forL f (xs.map t) δ (s ++ [.lst acc]) = some (.nx, δ', s ++ [.lst (acc ++ xs.map g)]) ∧ J δ'
  | [], acc, δ, h, _, _ => ⟨δ, by simp [forL], h⟩
  | x :: xs, acc, δ, h, hl, step => by
    rw [List.length_cons] at hl
    obtain ⟨δ1, e, h1⟩ := step x List.mem_cons_self acc δ h (by omega)
    obtain ⟨δ2, e2, h2⟩ := forL_app J xs (acc ++ [g x]) δ1 h1 (by simp; omega) fun y hy => step y (List.mem_cons_of_mem x hy)
    refine ⟨δ2, ?_, h2⟩
    rw [List.map_cons, forL, e]
    show forL f _ _ _ = _
    rw [e2]
    simp
theorem zipD_map {α β : Type} (f : α → D) (g : β → D) : ∀ (xs : List α) (ys : List β), zipD (xs.map f) (ys.map g) = (xs.zip ys).map fun p => .tup [f p.1, g p.2]
  | [], _ => by simp [zipD]
  | _ :: _, [] => by simp [zipD]
  | x :: xs, y :: ys => by
    rw [List.map_cons, List.map_cons, zipD, zipD_map f g xs ys]
    rfl
theorem indexL_map {α : Type} [BEq α] [LawfulBEq α] (t : α → D) (ht : ∀ a b, eqD (t a) (t b) = (a == b)) (x : α) : ∀ (xs : List α) (n : Nat), x ∈ xs → indexL (t x) n (xs.map t) = some (n + xs.idxOf x)
  | [], _, h => by cases h
  | y :: ys, n, h => by
    rw [List.map_cons, indexL, ht]
    by_cases e : y = x
    · subst e; simp
    · have hy : x ∈ ys := by
        rcases List.mem_cons.mp h with r | r
        · exact absurd r.symm e
        · exact r
      have e2 : (y == x) = false := by simpa using e
      rw [if_neg (by simp [e]), indexL_map t ht x ys (n + 1) hy, List.idxOf_cons, e2]
      simp
      omega
theorem foldmin_ge (ns : List Int) : ∀ n : Int, decide (0 ≤ ns.foldl (fun a b => if b < a then b else a) n) = (decide (0 ≤ n) && ns.all (fun i => decide (0 ≤ i))) := by
  induction ns with
  | nil => intro n; rw [List.all_nil, Bool.and_true]; rfl
  | cons k ns ih =>
    intro n
    rw [List.foldl_cons, List.all_cons, ih]
    by_cases h : k < n
    · rw [if_pos h, ← Bool.and_assoc]
      congr 1
      by_cases h2 : 0 ≤ k
      · simp [h2]; omega
      · simp [h2]
    · rw [if_neg h, ← Bool.and_assoc]
      congr 1
      by_cases h2 : 0 ≤ n
      · simp [h2]; omega
      · simp [h2]
theorem minL_ge {ns : List Int} (h : ns ≠ []) : ∃ m, minL ns = some m ∧ decide (0 ≤ m) = ns.all (fun i => decide (0 ≤ i)) := by
  cases ns with
  | nil => exact absurd rfl h
  | cons n ns => exact ⟨_, rfl, by rw [List.all_cons, foldmin_ge]⟩
end DL
namespace SD
open PySem L2 DL
def shareOf (pl : List Str) : D → Option (List Nat × Int)
  | .tup [.tup r, .int m] => (rowOf pl r).bind fun row => if 2 ≤ r.length ∧ row.Nodup ∧ 1 ≤ m then some (row, m) else none
  | _ => none
/-- what a value must be like so that no limit of the model is met -/
def ShOk (v : D) : Prop := ∀ r m, v = .tup [.tup r, m] → shps 20 r = true ∧ r.length ≤ 4000
theorem v_is_share (pl : List Str) (v : D) (h : ShOk v) (s : S) : e_is_share [.d (postsD pl), .d v] s = some (.d (.bl (shareOf pl v).isSome), s) := by
  have hnt : isiD .tuple v = false → e_is_share [.d (postsD pl), .d v] s = some (.d (.bl false), s) := fun h => by
    simp [e_is_share, DL.run, c_is_share, h]
  cases v with
  | tup xs =>
    match xs, h with
    | [a, b], h =>
      have a0 : isiD .tuple a = false → e_is_share [.d (postsD pl), .d (.tup [a, b])] s = some (.d (.bl false), s) := fun h => by
        simp [e_is_share, DL.run, c_is_share, v_is_route_not _ h]
      cases a with
      | tup r =>
        obtain ⟨h1, h2⟩ := h r b rfl
        have e1 := v_is_route pl r h1 h2
        cases hr : isRoute pl r with
        | false =>
          have e0 : shareOf pl (.tup [.tup r, b]) = none := by
            unfold isRoute at hr
            cases b <;> simp [shareOf]
            intro row hrow h3 h4
            rw [hrow] at hr
            simp [h3, h4] at hr
          simp [e_is_share, DL.run, c_is_share, e1, hr, e0]
        | true =>
          cases b with
          | int m =>
            have e0 : (shareOf pl (.tup [.tup r, .int m])).isSome = decide (1 ≤ m) := by
              unfold isRoute at hr
              unfold shareOf
              cases hrow : rowOf pl r with
              | none => rw [hrow] at hr; simp at hr
              | some row =>
                rw [hrow] at hr
                simp at hr
                by_cases hm : 1 ≤ m <;> simp [hr, hm, hrow]
            simp [e_is_share, DL.run, c_is_share, e1, hr, e0, v_is_integer, isIn]
          | _ => simp [e_is_share, DL.run, c_is_share, e1, hr, shareOf, v_is_integer, isIn]
      | _ => exact a0 rfl
    | [], _ => simp [e_is_share, DL.run, c_is_share, shareOf]
    | [_], _ => simp [e_is_share, DL.run, c_is_share, shareOf]
    | a :: b :: c :: r, _ =>
      have : (((a :: b :: c :: r).length : Int) == 2) = false := by simp; omega
      have e0 : shareOf pl (.tup (a :: b :: c :: r)) = none := by unfold shareOf; simp
      generalize a :: b :: c :: r = L at this e0
      simp [e_is_share, DL.run, c_is_share, this, e0]
  | _ => exact hnt rfl

def spanIx (n i j : Nat) : Nat := (spansN n).idxOf (i, j)
theorem pD2_eq (a b : Nat × Nat) : eqD (pD2 a) (pD2 b) = (a == b) := by
  obtain ⟨a1, a2⟩ := a
  obtain ⟨b1, b2⟩ := b
  simp only [pD2, eqD_tt, eqDs_cc, eqD_ii, eqDs_nn, Bool.and_true]
  show _ = ((a1 == b1) && (a2 == b2))
  rw [Bool.eq_iff_iff]
  simp
  omega
theorem span_mem {n i j : Nat} (h : i < j) (h2 : j < n) : (i, j) ∈ spansN n := by
  unfold spansN
  refine List.mem_flatMap.mpr ⟨i, List.mem_range.mpr (by omega), List.mem_map.mpr ⟨j, ?_, rfl⟩⟩
  rw [List.mem_drop_iff_getElem]
  exact ⟨j - (i + 1), by simp; omega, by simp; omega⟩
theorem shp_pair (n : Nat) (p : Nat × Nat) : shp (n + 1) (pD2 p) = true := by simp [pD2]
theorem shps_spans (n k : Nat) : shps (k + 1) (spansD n) = true := by
  rw [shps_all]
  refine List.all_eq_true.mpr fun x hx => ?_
  obtain ⟨p, _, rfl⟩ := List.mem_map.mp hx
  exact shp_pair k p
theorem index_span {n a b : Nat} (ha : a < n) (hb : b < n) (hne : a ≠ b) :
    miD .index (.tup (spansD n)) [.tup [.int ((min a b : Nat) : Int), .int ((max a b : Nat) : Int)]] = some (.int (spanIx n (min a b) (max a b) : Nat)) ∧
    miD .index (.lst (spansD n)) [.tup [.int ((min a b : Nat) : Int), .int ((max a b : Nat) : Int)]] = some (.int (spanIx n (min a b) (max a b) : Nat)) := by
  have hm : (min a b, max a b) ∈ spansN n := span_mem (by omega) (by omega)
  have e := indexL_map pD2 pD2_eq (min a b, max a b) (spansN n) 0 hm
  have e1 : shp 20 (.tup [.int ((min a b : Nat) : Int), .int ((max a b : Nat) : Int)]) = true := by simp
  constructor
  · show (if shps 20 (spansD n) && shp 20 _ then _ else _) = _
    rw [shps_spans, e1]
    show (indexL (pD2 (min a b, max a b)) 0 ((spansN n).map pD2)).map _ = _
    rw [e]
    simp [spanIx]
  · show (if shps 20 (spansD n) && shp 20 _ then _ else _) = _
    rw [shps_spans, e1]
    show (indexL (pD2 (min a b, max a b)) 0 ((spansN n).map pD2)).map _ = _
    rw [e]
    simp [spanIx]
theorem min_cast (a b : Nat) : (if (b : Int) < a then (b : Int) else a) = ((min a b : Nat) : Int) := by
  split <;> omega
theorem max_cast (a b : Nat) : (if (b : Int) > a then (b : Int) else a) = ((max a b : Nat) : Int) := by
  split <;> omega
theorem min_cast' (a b : Nat) : (if b < a then (b : Int) else a) = ((min a b : Nat) : Int) := by
  split <;> omega
theorem max_cast' (a b : Nat) : (if a < b then (b : Int) else a) = ((max a b : Nat) : Int) := by
  split <;> omega
def natD (i : Nat) : D := .int (i : Int)
def rowD (row : List Nat) : D := .lst (row.map natD)
def stepsN (n : Nat) (row : List Nat) : List Nat := (row.zip row.tail).map fun p => spanIx n (min p.1 p.2) (max p.1 p.2)
def endN (n : Nat) (row : List Nat) : Nat := spanIx n (min (row.headD 0) (row.getLastD 0)) (max (row.headD 0) (row.getLastD 0))
/-- a route by indexes -/
def RowOk (n : Nat) (row : List Nat) : Prop := 2 ≤ row.length ∧ row.Nodup ∧ ∀ i ∈ row, i < n
theorem RowOk.zip {n : Nat} {row : List Nat} (h : RowOk n row) {p : Nat × Nat} (hp : p ∈ row.zip row.tail) : p.1 < n ∧ p.2 < n ∧ p.1 ≠ p.2 := by
  obtain ⟨i, hi, he⟩ := List.getElem_of_mem hp
  rw [List.getElem_zip] at he
  subst he
  simp at hi
  have hi2 : i < row.length := by omega
  refine ⟨h.2.2 _ (List.getElem_mem hi2), h.2.2 _ (List.mem_of_mem_tail (List.getElem_mem (by simp; omega))), ?_⟩
  show row[i] ≠ row.tail[i]'(by simp; omega)
  rw [List.getElem_tail]
  exact List.pairwise_iff_getElem.mp (List.nodup_iff_pairwise_ne.mp h.2.1) i (i + 1) hi2 (by omega) (by omega)
theorem v_steps_of {n : Nat} {row : List Nat} (h : RowOk n row) (hl : row.length ≤ 4000) (s : S) : e_steps_of [.d (.tup (spansD n)), .d (rowD row)] s = some (.d (rowD (stepsN n row)), s) := by
  have e1 : sliceD (rowD row) (some 1) none = some (rowD row.tail) := by
    show some (D.lst (cutL _ (some ((1 : Nat) : Int)) none)) = _
    rw [cutL_drop]
    simp [rowD, List.map_tail]
  have e2 : zipD (row.map natD) (row.tail.map natD) = (row.zip row.tail).map fun p => .tup [natD p.1, natD p.2] := zipD_map natD natD row row.tail
  obtain ⟨δ', e, j1, j2, rfl⟩ := forL_app (s := s) (t := fun p : Nat × Nat => D.tup [natD p.1, natD p.2]) (g := fun p => natD (spanIx n (min p.1 p.2) (max p.1 p.2))) (f := turn g_steps_of fl s.length (.tp (.cons (.nm 3) (.cons (.nm 4) .nil))) b_steps_of_1)
    (fun δ => ∃ j1 j2, δ = [some (.d (.tup (spansD n))), some (.d (rowD row)), some (.c s.length), jd j1, jd j2]) (row.zip row.tail) [] [some (.d (.tup (spansD n))), some (.d (rowD row)), some (.c s.length), none, none] ⟨none, none, rfl⟩ (by simp; omega) (by
      rintro p hp acc δ ⟨j1, j2, rfl⟩ ha
      obtain ⟨h1, h2, h3⟩ := h.zip hp
      have hs := (index_span h1 h2 h3).1
      simp [turn, b_steps_of_1, natD, min_cast', max_cast', hs, ha])
  have e3 : rowD (stepsN n row) = .lst ((row.zip row.tail).map fun p => natD (spanIx n (min p.1 p.2) (max p.1 p.2))) := by
    unfold rowD stepsN
    rw [List.map_map]
    rfl
  rw [e3]
  unfold rowD at e1 e ⊢
  rw [List.nil_append] at e
  rw [List.map_tail] at e1 e2
  simp [e_steps_of, DL.run, c_steps_of, e1, e2, e, soleC_eq]
end SD

set_option Elab.async false
set_option linter.all false
set_option autoImplicit false
set_option maxRecDepth 100000
set_option maxHeartbeats 4000000
namespace SD
open PySem L2 DL
theorem shareOf_some {pl : List Str} {sh : D} {q : List Nat × Int} (h : shareOf pl sh = some q) : ∃ xs : List Str, sh = .tup [.tup (xs.map .str), .int q.2] ∧ (∀ x ∈ xs, x ∈ pl) ∧ q.1 = xs.map (pl.idxOf ·) ∧ RowOk pl.length q.1 ∧ 1 ≤ q.2 := by
  unfold shareOf at h
  split at h
  · obtain ⟨row, hr, h⟩ := Option.bind_eq_some_iff.mp h
    split at h
    · rename_i hc
      cases h
      obtain ⟨xs, rfl, hx, rfl⟩ := rowOf_some hr
      refine ⟨xs, rfl, hx, rfl, ⟨by simpa using hc.1, hc.2.1, fun i hi => ?_⟩, hc.2.2⟩
      obtain ⟨x, hx2, rfl⟩ := List.mem_map.mp hi
      exact List.idxOf_lt_length_of_mem (hx x hx2)
    · cases h
  · cases h
def sharesOf (pl : List Str) : List D → Option (List (List Nat × Int))
  | [] => some []
  | d :: r => (shareOf pl d).bind fun q => (sharesOf pl r).map (q :: ·)
theorem sharesOf_all {pl : List Str} : ∀ (r : List D), (r.all fun d => (shareOf pl d).isSome) = (sharesOf pl r).isSome
  | [] => rfl
  | d :: r => by
    rw [List.all_cons, sharesOf_all r, sharesOf]
    cases shareOf pl d <;> simp
def subAt (ns : List Int) (k : Nat) (m : Int) : List Int := ns.set k (ns.getD k 0 - m)
def applyS (n : Nat) (st : List Int × List Int) (sh : List Nat × Int) : List Int × List Int := ((stepsN n sh.1).foldl (fun l k => subAt l k sh.2) st.1, subAt st.2 (endN n sh.1) sh.2)
def judge (pl : List Str) (roads parcels : List Int) (parts : Int) (v : D) : Bool := match v with
  | .tup shs => match sharesOf pl shs with
    | some L =>
      let st := L.foldl (applyS pl.length) (roads.map (parts * ·), parcels.map (parts * ·))
      st.1.all (fun i => decide (0 ≤ i)) && st.2.all (fun i => i == 0)
    | none => false
  | _ => false
theorem judge_none {pl : List Str} {roads parcels : List Int} {parts : Int} {shs : List D} (h : sharesOf pl shs = none) : judge pl roads parcels parts (.tup shs) = false := by
  unfold judge
  simp only [h]
theorem judge_some {pl : List Str} {roads parcels : List Int} {parts : Int} {shs : List D} {L : List (List Nat × Int)} (h : sharesOf pl shs = some L) : judge pl roads parcels parts (.tup shs) =
    ((L.foldl (applyS pl.length) (roads.map (parts * ·), parcels.map (parts * ·))).1.all (fun i => decide (0 ≤ i)) && (L.foldl (applyS pl.length) (roads.map (parts * ·), parcels.map (parts * ·))).2.all (fun i => i == 0)) := by
  unfold judge
  simp only [h]
theorem span_lt {n i j : Nat} (h : i < j) (h2 : j < n) : spanIx n i j < (spansN n).length := List.idxOf_lt_length_of_mem (span_mem h h2)
theorem steps_lt {n : Nat} {row : List Nat} (h : RowOk n row) {k : Nat} (hk : k ∈ stepsN n row) : k < (spansN n).length := by
  obtain ⟨p, hp, rfl⟩ := List.mem_map.mp hk
  obtain ⟨h1, h2, h3⟩ := h.zip hp
  exact span_lt (by omega) (by omega)
theorem RowOk.ends {n : Nat} {row : List Nat} (h : RowOk n row) : row.headD 0 < n ∧ row.getLastD 0 < n ∧ row.headD 0 ≠ row.getLastD 0 := by
  obtain ⟨h1, h2, h3⟩ := h
  match row, h1 with
  | a :: b :: r, _ =>
    refine ⟨h3 a (by simp), ?_, ?_⟩
    · rw [List.getLastD_eq_getLast?, List.getLast?_eq_some_getLast (List.cons_ne_nil _ _)]
      exact h3 _ (List.getLast_mem (List.cons_ne_nil _ _))
    · rw [List.getLastD_eq_getLast?, List.getLast?_eq_some_getLast (by simp), List.getLast_cons (by simp)]
      show a ≠ (b :: r).getLast _
      intro e
      have := (List.nodup_cons.mp h2).1
      exact this (e ▸ List.getLast_mem _)
theorem end_lt {n : Nat} {row : List Nat} (h : RowOk n row) : endN n row < (spansN n).length := by
  obtain ⟨h1, h2, h3⟩ := h.ends
  exact span_lt (by omega) (by omega)
theorem row_first {n : Nat} {row : List Nat} (h : RowOk n row) : idxD (rowD row) (.int 0) = some (natD (row.headD 0)) ∧ idxD (rowD row) (.int (-1)) = some (natD (row.getLastD 0)) := by
  match row, h.1 with
  | a :: r, _ =>
    constructor
    · show atI (natD a :: r.map natD) 0 = _
      rw [atI_zero]; rfl
    · show atI ((a :: r).map natD) (-1) = _
      rw [atI_neg1 (by simp), List.getLast_map, List.getLastD_eq_getLast?, List.getLast?_eq_some_getLast (by simp)]
      rfl
theorem index_str {pl : List Str} {x : Str} (h : x ∈ pl) : miD .index (.tup (pl.map .str)) [.str x] = some (natD (pl.idxOf x)) := by
  show (if shps 20 (pl.map D.str) && shp 20 (.str x) then _ else _) = _
  rw [shps_strs, shp_str, indexL_strs x pl 0 h]
  simp [natD]
theorem subAt_len (ns : List Int) (k : Nat) (m : Int) : (subAt ns k m).length = ns.length := by simp [subAt]
theorem set_sub {ns : List Int} {k : Nat} (h : k < ns.length) (m : Int) : (ns.map D.int).set k (.int (ns[k] - m)) = (subAt ns k m).map D.int := by
  unfold subAt
  rw [List.map_set]
  congr 3
  simp [h]
abbrev δsent (P R1 R2 V : D) (parts : Int) (b : Nat) (o7 o8 o9 o10 o11 o12 o13 o14 o15 : Option R) : EnvR := [some (.d P), some (.d R1), some (.d R2), some (.d V), some (.d (.int parts)), some (.c b), some (.c (b + 1)), o7, o8, o9, o10, o11, o12, o13, o14, o15]
theorem sent_inner {s : S} {P R1 R2 V : D} {parts : Int} {N : Nat} {m : Int} {w : Cell} (ks : List Nat) (hk : ∀ k ∈ ks, k < N) (l : List Int) (hl : l.length = N) (o7 o9 o10 o12 o13 o14 o15 : Option R) (o11 : Option D) :
    ∃ δ' s', forL (turn g_are_sent fl s.length (.nm 11) b_are_sent_5) (ks.map natD) (δsent P R1 R2 V parts s.length o7 (some (.d (.int m))) o9 o10 (jd o11) o12 o13 o14 o15) (s ++ [.lst (l.map .int), w]) = some (.nx, δ', s') ∧
      ((∃ o11, δ' = δsent P R1 R2 V parts s.length o7 (some (.d (.int m))) o9 o10 (jd o11) o12 o13 o14 o15) ∧ s' = s ++ [.lst ((ks.foldl (fun l k => subAt l k m) l).map .int), w] ∧ (ks.foldl (fun l k => subAt l k m) l).length = N) := by
  refine forL_folds (fun (l : List Int) δ' s' => (∃ o11, δ' = δsent P R1 R2 V parts s.length o7 (some (.d (.int m))) o9 o10 (jd o11) o12 o13 o14 o15) ∧ s' = s ++ [.lst (l.map .int), w] ∧ l.length = N) (fun l k => subAt l k m) ks l _ _ ⟨⟨o11, rfl⟩, rfl, hl⟩ ?_
  rintro k hk2 l δ s' ⟨⟨o11, rfl⟩, rfl, hl⟩
  have h1 : k < l.length := hl ▸ hk k hk2
  have h2 := set_sub h1 m
  have e1 : ixN N (k : Int) = some k := ixN_nat (hk k hk2)
  have e2 : atI (l.map D.int) (k : Int) = some (.int l[k]) := by
    rw [atI_nat (by simpa using h1)]; simp
  generalize hq : (subAt l k m).map D.int = Q at h2
  simp [turn, b_are_sent_5, natD, e1, e2, hq, h2, subAt_len, hl]
theorem sent_turn {s : S} {pl : List Str} {R1 R2 V : D} {parts : Int} {N : Nat} (hN : N = (spansN pl.length).length) {sh : D} {q : List Nat × Int} (hq : shareOf pl sh = some q) (hlen : q.1.length ≤ 4000)
    (l w : List Int) (hl : l.length = N) (hw : w.length = N) (o7 o8 o9 o10 o11 o12 o13 o14 o15 : Option D) :
    ∃ δ' s', turn g_are_sent fl s.length (.tp (.cons (.nm 7) (.cons (.nm 8) .nil))) b_are_sent_6 sh (δsent (postsD pl) R1 R2 V parts s.length (jd o7) (jd o8) (jd o9) (jd o10) (jd o11) (jd o12) (jd o13) (jd o14) (jd o15)) (s ++ [.lst (l.map .int), .lst (w.map .int)]) = some (.nx, δ', s') ∧
      ((∃ o7 o8 o9 o10 o11 o12 o13 o14 o15, δ' = δsent (postsD pl) R1 R2 V parts s.length (jd o7) (jd o8) (jd o9) (jd o10) (jd o11) (jd o12) (jd o13) (jd o14) (jd o15)) ∧ s' = s ++ [.lst ((applyS pl.length (l, w) q).1.map .int), .lst ((applyS pl.length (l, w) q).2.map .int)] ∧ (applyS pl.length (l, w) q).1.length = N ∧ (applyS pl.length (l, w) q).2.length = N) := by
  obtain ⟨xs, rfl, hx, hrow, hok, h1⟩ := shareOf_some hq
  obtain ⟨row, m⟩ := q
  dsimp only at *
  have hp : ∀ s, e_p_places [.d (postsD pl)] s = some (.d (.tup (pl.map .str)), s) := v_places pl
  have hsp := v_spans pl
  have c1 : ∀ st, compL (cturn g_are_sent fl x_are_sent_4 (.nm 14) .yes [14] (δsent (postsD pl) R1 R2 V parts s.length (some (.d (.tup (xs.map .str)))) (some (.d (.int m))) (jd o9) (jd o10) (jd o11) (jd o12) (jd o13) (jd o14) (jd o15))) (xs.map .str) st = some (row.map natD, st) := by
    intro st
    subst hrow
    rw [List.map_map]
    refine compL_maps xs st fun x hx2 => ?_
    have := index_str (hx x hx2)
    unfold postsD at hp ⊢
    simp [cturn, x_are_sent_4, hp, this]
  obtain ⟨f1, f2⟩ := row_first hok
  obtain ⟨n1, n2, n3⟩ := hok.ends
  have hix := (index_span n1 n2 n3).1
  have he := end_lt hok
  have hst := v_steps_of hok hlen
  have hwe : endN pl.length row < w.length := by omega
  have g1 : ixN N (endN pl.length row : Int) = some (endN pl.length row)   := hw ▸ ixN_nat hwe
  have g2 : atI (w.map D.int) (endN pl.length row : Int) = some (.int w[endN pl.length row]) := by
    rw [atI_nat (by simpa using hwe)]; simp
  have g3 := set_sub hwe m
  have lenx : ¬ 1000000 < xs.length := by
    have : row.length = xs.length := by rw [hrow]; simp
    omega
  obtain ⟨δ', s', ei, ⟨⟨o11', rfl⟩, rfl, hl'⟩⟩ := sent_inner (s := s) (P := postsD pl) (R1 := R1) (R2 := R2) (V := V) (parts := parts) (N := N) (m := m) (w := .lst ((subAt w (endN pl.length row) m).map .int)) (stepsN pl.length row) (fun k hk => hN ▸ steps_lt hok hk) l hl (some (.d (.tup (xs.map .str)))) (some (.d (rowD row))) (some (.d (natD (endN pl.length row)))) (jd o12) (jd o13) (jd o14) (jd o15) o11
  have hixe : endN pl.length row = spanIx pl.length (min (row.headD 0) (row.getLastD 0)) (max (row.headD 0) (row.getLastD 0)) := rfl
  rw [← hixe] at hix
  refine ⟨_, _, ?_, ⟨⟨some (.tup (xs.map .str)), some (.int m), some (rowD row), some (natD (endN pl.length row)), o11', o12, o13, o14, o15, rfl⟩, rfl, hl', by simp [applyS, subAt_len, hw]⟩⟩
  generalize hE : endN pl.length row = E at *
  generalize hA : row.headD 0 = A at *
  generalize hB : row.getLastD 0 = B at *
  have xlen : (xs.map D.str).length = xs.length := by simp
  unfold applyS
  generalize xs.map D.str = X at *
  generalize hQ : (subAt w E m).map D.int = Q at *
  unfold postsD rowD δsent natD at *
  generalize (stepsN pl.length row).foldl (fun l k => subAt l k m) l = L' at *
  simp [turn, b_are_sent_6, c1, xlen, lenx, f1, f2, hp, hsp, natD, min_cast', max_cast', hix, g1, g2, g3, hst, ei, hw]
  exact ⟨⟨rfl, rfl, rfl, rfl⟩, by rw [hE, hQ]⟩
theorem sent_loop {s : S} {pl : List Str} {R1 R2 V : D} {parts : Int} {N : Nat} (hN : N = (spansN pl.length).length) : ∀ (shs : List D) (L : List (List Nat × Int)), sharesOf pl shs = some L → (∀ d ∈ shs, ShOk d) → ∀ (l w : List Int) (hl : l.length = N) (hw : w.length = N) (o7 o8 o9 o10 o11 o12 o13 o14 o15 : Option D),
    ∃ δ' s', forL (turn g_are_sent fl s.length (.tp (.cons (.nm 7) (.cons (.nm 8) .nil))) b_are_sent_6) shs (δsent (postsD pl) R1 R2 V parts s.length (jd o7) (jd o8) (jd o9) (jd o10) (jd o11) (jd o12) (jd o13) (jd o14) (jd o15)) (s ++ [.lst (l.map .int), .lst (w.map .int)]) = some (.nx, δ', s') ∧
      ((∃ o7 o8 o9 o10 o11 o12 o13 o14 o15, δ' = δsent (postsD pl) R1 R2 V parts s.length (jd o7) (jd o8) (jd o9) (jd o10) (jd o11) (jd o12) (jd o13) (jd o14) (jd o15)) ∧ s' = s ++ [.lst ((L.foldl (applyS pl.length) (l, w)).1.map .int), .lst ((L.foldl (applyS pl.length) (l, w)).2.map .int)] ∧ (L.foldl (applyS pl.length) (l, w)).1.length = N ∧ (L.foldl (applyS pl.length) (l, w)).2.length = N)
  | [], L, h, _, l, w, hl, hw, o7, o8, o9, o10, o11, o12, o13, o14, o15 => by
    cases h
    exact ⟨_, _, rfl, ⟨_, _, _, _, _, _, _, _, _, rfl⟩, rfl, hl, hw⟩
  | sh :: shs, L, h, hs, l, w, hl, hw, o7, o8, o9, o10, o11, o12, o13, o14, o15 => by
    unfold sharesOf at h
    obtain ⟨q, hq, h⟩ := Option.bind_eq_some_iff.mp h
    obtain ⟨L', hL, rfl⟩ := Option.map_eq_some_iff.mp h
    have hlen : q.1.length ≤ 4000 := by
      obtain ⟨xs, hx, _, hrow, _⟩ := shareOf_some hq
      have := (hs sh List.mem_cons_self _ _ hx).2
      rw [hrow]; simpa using this
    obtain ⟨δ1, s1, e, ⟨p7, p8, p9, p10, p11, p12, p13, p14, p15, rfl⟩, rfl, h1, h2⟩ := sent_turn (s := s) (R1 := R1) (R2 := R2) (V := V) (parts := parts) hN hq hlen l w hl hw o7 o8 o9 o10 o11 o12 o13 o14 o15
    obtain ⟨δ2, s2, e2, h3⟩ := sent_loop (s := s) (R1 := R1) (R2 := R2) (V := V) (parts := parts) hN shs L' hL (fun d hd => hs d (List.mem_cons_of_mem _ hd)) _ _ h1 h2 p7 p8 p9 p10 p11 p12 p13 p14 p15
    exact ⟨δ2, s2, by unfold forL; rw [e]; exact e2, h3⟩
/-- what a value must be like as a certificate so that no limit of the model is met -/
def VOk (v : D) : Prop := ∀ shs, v = .tup shs → shs.length ≤ 1000 ∧ ∀ d ∈ shs, ShOk d
theorem comp_mul {g : List DSem} {x : CE} {i j : Nat} {δ : EnvR} {k : Int} {s : S} (ns : List Int) (h : ∀ n : Int, cturn g fl x (.nm i) .yes [i] δ (.int n) s = some (some (.int (k * n)), s)) : compL (cturn g fl x (.nm i) .yes [i] δ) (ns.map .int) s = some ((ns.map (k * ·)).map .int, s) := by
  rw [List.map_map]
  exact compL_maps ns s fun n _ => h n
theorem v_are_sent {pl : List Str} {roads parcels : List Int} (hp : PlOk pl) (hr : roads.length = (spansN pl.length).length) (hq : parcels.length = (spansN pl.length).length) {parts : Int} (h1 : 1 ≤ parts) (h2 : parts ≤ 2) {v : D} (hv : VOk v) (s : S) :
    e_are_sent [.d (postsD pl), .d (tI roads), .d (tI parcels), .d v, .d (.int parts)] s = some (.d (.bl (judge pl roads parcels parts v)), s) := by
  have hnt : isiD .tuple v = false → e_are_sent [.d (postsD pl), .d (tI roads), .d (tI parcels), .d v, .d (.int parts)] s = some (.d (.bl false), s) := fun h => by
    simp [e_are_sent, DL.run, c_are_sent, h]
  have hspn : (spansN pl.length).length ≤ 10 ∧ 0 < (spansN pl.length).length := by
    have a := hp.lo
    have b := hp.hi
    have : pl.length = 2 ∨ pl.length = 3 ∨ pl.length = 4 ∨ pl.length = 5 := by omega
    rcases this with e | e | e | e <;> rw [e] <;> decide
  cases v with
  | tup shs =>
    obtain ⟨hsl, hsh⟩ := hv shs rfl
    have lim0 : ¬ 1000000 < shs.length := by omega
    have lim1 : ¬ 1000000 < roads.length := by omega
    have lim2 : ¬ 1000000 < parcels.length := by omega
    have c1 : ∀ δ : EnvR, δ[0]? = some (some (.d (postsD pl))) → δ.length = 16 → compL (cturn g_are_sent fl x_are_sent_1 (.nm 15) .yes [15] δ) shs s = some (shs.map fun d => .bl (shareOf pl d).isSome, s) := by
      intro δ h0 hl
      refine compL_map shs s fun d hd => ?_
      have e := v_is_share pl d (hsh d hd)
      match δ, hl with
      | [a0, a1, a2, a3, a4, a5, a6, a7, a8, a9, a10, a11, a12, a13, a14, a15], _ =>
        simp at h0
        subst h0
        simp [cturn, x_are_sent_1, e]
    have a1 := bi_all (fun d => (shareOf pl d).isSome) shs
    rw [sharesOf_all] at a1
    generalize shs.map (fun d => D.bl (shareOf pl d).isSome) = A at c1 a1
    cases hL : sharesOf pl shs with
    | none =>
      rw [hL] at a1
      rw [judge_none hL]
      simp [e_are_sent, DL.run, c_are_sent, lim0, c1, a1]
    | some L =>
      rw [hL] at a1
      have c2 : ∀ (δ : EnvR) st, δ[4]? = some (some (.d (.int parts))) → δ.length = 16 → compL (cturn g_are_sent fl x_are_sent_2 (.nm 12) .yes [12] δ) (roads.map .int) st = some ((roads.map (parts * ·)).map .int, st) := by
        intro δ st h0 hl
        refine comp_mul (j := 12) roads fun n => ?_
        match δ, hl with
        | [a0, a1, a2, a3, a4, a5, a6, a7, a8, a9, a10, a11, a12, a13, a14, a15], _ =>
          simp at h0
          subst h0
          have := mul_l (i := parts) (j := n) (by omega) (by omega)
          simp [cturn, x_are_sent_2, b_mul this]
      have c3 : ∀ (δ : EnvR) st, δ[4]? = some (some (.d (.int parts))) → δ.length = 16 → compL (cturn g_are_sent fl x_are_sent_3 (.nm 13) .yes [13] δ) (parcels.map .int) st = some ((parcels.map (parts * ·)).map .int, st) := by
        intro δ st h0 hl
        refine comp_mul (j := 13) parcels fun n => ?_
        match δ, hl with
        | [a0, a1, a2, a3, a4, a5, a6, a7, a8, a9, a10, a11, a12, a13, a14, a15], _ =>
          simp at h0
          subst h0
          have := mul_l (i := parts) (j := n) (by omega) (by omega)
          simp [cturn, x_are_sent_3, b_mul this]
      obtain ⟨δ', s', el, ⟨p7, p8, p9, p10, p11, p12, p13, p14, p15, rfl⟩, rfl, hl1, hl2⟩ := sent_loop (s := s) (R1 := tI roads) (R2 := tI parcels) (V := .tup shs) (parts := parts) rfl shs L hL hsh (roads.map (parts * ·)) (parcels.map (parts * ·)) (by simpa using hr) (by simpa using hq) none none none none none none none none none
      rw [judge_some hL]
      generalize L.foldl (applyS pl.length) (roads.map (parts * ·), parcels.map (parts * ·)) = st at *
      obtain ⟨l, w⟩ := st
      dsimp only at *
      generalize (roads.map (parts * ·)).map D.int = RM at *
      generalize (parcels.map (parts * ·)).map D.int = PM at *
      have hne : l ≠ [] := by intro e; rw [e] at hl1; simp at hl1; omega
      obtain ⟨m, hm1, hm2⟩ := minL_ge hne
      have hmin : biD .min1 [.lst (l.map D.int)] = some (.int m) := by
        show (intsOf _).bind _ = _
        rw [intsOf_map, Option.bind_some, hm1]; rfl
      have lim3 : ¬ 1000000 < (w.map D.int).length := by simp; omega
      have c4 : ∀ (δ : EnvR) st, δ.length = 16 → compL (cturn g_are_sent fl x_are_sent_7 (.nm 13) .yes [13] δ) (w.map .int) st = some (w.map fun i => .bl (i == 0), st) := by
        intro δ st hl
        refine compL_maps w st fun n _ => ?_
        match δ, hl with
        | [a0, a1, a2, a3, a4, a5, a6, a7, a8, a9, a10, a11, a12, a13, a14, a15], _ =>
          simp [cturn, x_are_sent_7]
      have a4 := bi_all (fun i : Int => i == 0) w
      generalize (w.map fun i => D.bl (i == 0)) = B at *
      have jn : jd none = none := rfl
      rw [jn] at el
      unfold δsent at el
      unfold tI at el ⊢
      rw [← hm2]
      generalize l.map D.int = LD at *
      generalize w.map D.int = WD at *
      cases hd : decide (0 ≤ m)
      · have := of_decide_eq_false hd
        simp [e_are_sent, DL.run, c_are_sent, lim0, lim1, lim2, lim3, c1, a1, c2, c3, el, soleC_eq, hmin, this, c4, a4]
      · have := of_decide_eq_true hd
        simp [e_are_sent, DL.run, c_are_sent, lim0, lim1, lim2, lim3, c1, a1, c2, c3, el, soleC_eq, hmin, this, c4, a4]
  | _ => exact hnt rfl
end SD

set_option Elab.async false
set_option linter.all false
set_option autoImplicit false
set_option maxRecDepth 100000
set_option maxHeartbeats 4000000
namespace DL
open PySem L2
theorem rngD_map : ∀ (n : Nat) (lo : Int), rngD lo n = (List.range n).map fun k => .int (lo + (k : Int))
  | 0, lo => rfl
  | n + 1, lo => by
    rw [rngD, rngD_map n, List.range_succ_eq_map, List.map_cons, List.map_map]
    congr 1
    · simp
    · apply List.map_congr_left
      intro k _
      show D.int _ = D.int _
      congr 1
      simp only [Function.comp_apply, Nat.succ_eq_add_one, Int.natCast_add, Int.cast_ofNat_Int]
      omega
theorem range_getD (ns : List Int) : (List.range ns.length).map (fun i => ns.getD i 0) = ns := by
  apply List.ext_getElem
  · simp
  · intro i h1 h2
    simp
    rw [List.getElem?_eq_getElem h2]; rfl
theorem dedup_len : ∀ (ns acc : List Int), (ns.foldl PyProof.Rows.step_dedup acc).length ≤ acc.length + ns.length ∧ (acc.Nodup → ((ns.foldl PyProof.Rows.step_dedup acc).length = acc.length + ns.length ↔ (acc ++ ns).Nodup))
  | [], acc => by simp
  | n :: ns, acc => by
    rw [List.foldl_cons]
    by_cases h : n ∈ acc
    · have e : PyProof.Rows.step_dedup acc n = acc := by
        unfold PyProof.Rows.step_dedup
        rw [if_pos (by simpa using h)]
      rw [e]
      obtain ⟨h1, h2⟩ := dedup_len ns acc
      refine ⟨by simp; omega, fun nd => ⟨fun q => by simp at q; omega, fun q => ?_⟩⟩
      rw [List.nodup_append] at q
      exact absurd rfl (q.2.2 n h n (by simp))
    · have e : PyProof.Rows.step_dedup acc n = acc ++ [n] := by
        unfold PyProof.Rows.step_dedup
        rw [if_neg (by simpa using h)]
      rw [e]
      obtain ⟨h1, h2⟩ := dedup_len ns (acc ++ [n])
      refine ⟨by simp at h1 ⊢; omega, fun nd => ?_⟩
      have nd2 : (acc ++ [n]).Nodup := by
        rw [List.nodup_append]
        refine ⟨nd, by simp, fun a ha b hb => ?_⟩
        simp at hb
        subst hb
        intro e; subst e; exact h ha
      have := h2 nd2
      rw [List.append_assoc] at this
      simp only [List.length_append, List.length_cons, List.length_nil, List.cons_append, List.nil_append] at this ⊢
      rw [← this]
      omega
theorem dedupN_lt (ns : List Int) : decide (dedupN ns < ns.length) = !decide ns.Nodup := by
  have e : dedupN ns = (ns.foldl PyProof.Rows.step_dedup []).length := by
    unfold dedupN PyProof.Rows.firstMet
    rw [range_getD]
  rw [e]
  obtain ⟨h1, h2⟩ := dedup_len ns []
  have := h2 List.nodup_nil
  rw [List.nil_append] at this
  by_cases nd : ns.Nodup
  · simp [nd, this.mpr nd]
  · have h3 : ¬ (ns.foldl PyProof.Rows.step_dedup []).length = [].length + ns.length := fun q => nd (this.mp q)
    simp [nd]
    simp at h1 h3
    omega
theorem intsOf_nat (row : List Nat) : intsOf (row.map fun i : Nat => D.int (i : Int)) = some (row.map fun i : Nat => (i : Int)) := by
  have : row.map (fun i : Nat => D.int (i : Int)) = (row.map fun i : Nat => (i : Int)).map .int := by simp
  rw [this, intsOf_map]
theorem inD_nats (k : Nat) (xs : List Nat) : inD (.int (k : Int)) (xs.map fun i : Nat => D.int (i : Int)) = decide (k ∈ xs) := by
  induction xs with
  | nil => simp [inD]
  | cons y ys ih =>
    rw [List.map_cons, inD, ih, eqD_ii]
    by_cases h : y = k
    · simp [h]
    · have h2 : ((y : Int) == (k : Int)) = false := by simp; omega
      have h3 : ¬ k = y := fun e => h e.symm
      simp [h2, h3]
end DL
namespace SD
open PySem L2 DL
theorem nodup_cast (row : List Nat) : decide (row.map fun i : Nat => (i : Int)).Nodup = decide row.Nodup := by
  apply decide_eq_decide.mpr
  induction row with
  | nil => simp
  | cons x xs ih =>
    rw [List.map_cons, List.nodup_cons, List.nodup_cons, ih]
    refine and_congr_left fun _ => not_congr ⟨fun h => ?_, fun h => List.mem_map.mpr ⟨x, h, rfl⟩⟩
    obtain ⟨y, hy, e⟩ := List.mem_map.mp h
    have : y = x := by omega
    exact this ▸ hy
/-- numbers less m at some places -/
def upd (ns : List Int) (P : Nat → Bool) (m : Int) : List Int := (ns.zipIdx 0).map fun p => p.1 - m * (if P p.2 then 1 else 0)
theorem upd_len (ns : List Int) (P : Nat → Bool) (m : Int) : (upd ns P m).length = ns.length := by simp [upd]
theorem upd_get {ns : List Int} {P : Nat → Bool} {m : Int} {i : Nat} (h : i < ns.length) : (upd ns P m)[i]'(by rw [upd_len]; exact h) = ns[i] - m * (if P i then 1 else 0) := by
  simp [upd]
theorem subAt_get {ns : List Int} {k : Nat} {m : Int} {i : Nat} (h : i < ns.length) : (subAt ns k m)[i]'(by rw [subAt_len]; exact h) = if i = k then ns[i] - m else ns[i] := by
  simp only [subAt, List.getElem_set]
  by_cases e : k = i
  · subst e
    simp [h]
  · rw [if_neg e, if_neg fun h => e h.symm]
theorem upd_one {ns : List Int} {k : Nat} {m : Int} : upd ns (fun i => decide (i = k)) m = subAt ns k m := by
  apply List.ext_getElem
  · rw [upd_len, subAt_len]
  · intro i h1 h2
    have h : i < ns.length := by rw [upd_len] at h1; exact h1
    rw [upd_get h, subAt_get h]
    by_cases e : i = k <;> simp [e]
theorem upd_many {m : Int} : ∀ (ks : List Nat) (ns : List Int), ks.Nodup → upd ns (fun i => decide (i ∈ ks)) m = ks.foldl (fun l k => subAt l k m) ns
  | [], ns, _ => by
    apply List.ext_getElem
    · rw [upd_len]; rfl
    · intro i h1 h2
      have h : i < ns.length := h2
      rw [upd_get h]; simp
  | k :: ks, ns, nd => by
    rw [List.foldl_cons, ← upd_many ks _ (List.nodup_cons.mp nd).2]
    apply List.ext_getElem
    · rw [upd_len, upd_len, subAt_len]
    · intro i h1 h2
      have h : i < ns.length := by rw [upd_len] at h1; exact h1
      rw [upd_get h, upd_get (by rw [subAt_len]; exact h), subAt_get h]
      by_cases e : i = k
      · subst e
        simp [(List.nodup_cons.mp nd).1]
      · simp [e]
theorem spanIx_inj {n : Nat} {p q : Nat × Nat} (hp : p ∈ spansN n) (hq : q ∈ spansN n) (h : (spansN n).idxOf p = (spansN n).idxOf q) : p = q := by
  have h1 := List.idxOf_lt_length_of_mem hp
  have h2 := List.idxOf_lt_length_of_mem hq
  have e1 : (spansN n)[(spansN n).idxOf p] = p := List.getElem_idxOf h1
  have e2 : (spansN n)[(spansN n).idxOf q] = q := List.getElem_idxOf h2
  rw [← e1, ← e2]
  simp [h]
theorem steps_nodup {n : Nat} : ∀ {row : List Nat}, row.Nodup → (∀ i ∈ row, i < n) → (stepsN n row).Nodup
  | [], _, _ => by simp [stepsN]
  | [a], _, _ => by simp [stepsN]
  | a :: b :: r, nd, hlt => by
    have ih := steps_nodup (row := b :: r) (List.nodup_cons.mp nd).2 fun i hi => hlt i (List.mem_cons_of_mem a hi)
    have e : stepsN n (a :: b :: r) = spanIx n (min a b) (max a b) :: stepsN n (b :: r) := rfl
    rw [e, List.nodup_cons]
    refine ⟨fun hm => ?_, ih⟩
    obtain ⟨p, hp, he⟩ := List.mem_map.mp hm
    have hab : a ≠ b := fun h => (List.nodup_cons.mp nd).1 (h ▸ List.mem_cons_self)
    have p1 : p.1 ∈ b :: r := (List.of_mem_zip hp).1
    have p2 : p.2 ∈ b :: r := List.mem_of_mem_tail (List.of_mem_zip hp).2
    have ha : a ∉ b :: r := (List.nodup_cons.mp nd).1
    have l1 := hlt a (by simp)
    have l2 := hlt b (by simp)
    have l3 := hlt p.1 (List.mem_cons_of_mem a p1)
    have l4 := hlt p.2 (List.mem_cons_of_mem a p2)
    have hpe : p.1 ≠ p.2 := by
      intro q
      have hz : RowOk n (b :: r) ∨ (b :: r).length < 2 := by
        by_cases hl : 2 ≤ (b :: r).length
        · exact .inl ⟨hl, (List.nodup_cons.mp nd).2, fun i hi => hlt i (List.mem_cons_of_mem a hi)⟩
        · exact .inr (by omega)
      rcases hz with hz | hz
      · exact (hz.zip hp).2.2 q
      · have : r = [] := by
          simp at hz; exact List.eq_nil_of_length_eq_zero (by omega)
        subst this
        simp at hp
    have := spanIx_inj (span_mem (n := n) (i := min p.1 p.2) (j := max p.1 p.2) (by omega) (by omega)) (span_mem (n := n) (i := min a b) (j := max a b) (by omega) (by omega)) he
    have a1 : min p.1 p.2 = min a b := congrArg Prod.fst this
    have a2 : max p.1 p.2 = max a b := congrArg Prod.snd this
    have : a = p.1 ∨ a = p.2 := by omega
    rcases this with h | h
    · exact ha (h ▸ p1)
    · exact ha (h ▸ p2)
end SD

set_option Elab.async false
set_option linter.all false
set_option autoImplicit false
set_option maxRecDepth 100000
set_option maxHeartbeats 4000000
namespace SD
open PySem L2 DL
abbrev δright (PL R1 R2 V : D) (parts : Int) (SP : D) (o6 o7 o8 o9 o10 o11 o12 o13 o14 o15 o16 : Option R) : EnvR := [some (.d PL), some (.d R1), some (.d R2), some (.d V), some (.d (.int parts)), some (.d SP), o6, o7, o8, o9, o10, o11, o12, o13, o14, o15, o16]
abbrev tR (s : S) := turn g_law_right_dispatch fl s.length (.nm 6) b_law_right_dispatch_8
section
variable {s : S} {pl : List Str} {R1 R2 V : D} {parts : Int} {l w : List Int} {o6 o9 o10 o11 o12 o13 o14 o15 o16 : Option R}
/-- a value that is no pair of a long enough tuple -/
theorem rd_no1 {d : D} {L W : D} (h : ∀ r b, d = .tup [.tup r, b] → r.length < 2) :
    ∃ δ' s', tR s d (δright (tS pl) R1 R2 V parts (.lst (spansD pl.length)) o6 (some (.d L)) (some (.d W)) o9 o10 o11 o12 o13 o14 o15 o16) s = some (.rt (.d (.bl false)), δ', s') ∧ s' = s := by
  have hnt : isiD .tuple d = false → ∃ δ' s', tR s d (δright (tS pl) R1 R2 V parts (.lst (spansD pl.length)) o6 (some (.d L)) (some (.d W)) o9 o10 o11 o12 o13 o14 o15 o16) s = some (.rt (.d (.bl false)), δ', s') ∧ s' = s := fun h => by
    simp [turn, b_law_right_dispatch_8, h]
  cases d with
  | tup xs =>
    match xs, h with
    | [a, b], h =>
      have hna : isiD .tuple a = false → ∃ δ' s', tR s (.tup [a, b]) (δright (tS pl) R1 R2 V parts (.lst (spansD pl.length)) o6 (some (.d L)) (some (.d W)) o9 o10 o11 o12 o13 o14 o15 o16) s = some (.rt (.d (.bl false)), δ', s') ∧ s' = s := fun h => by
        simp [turn, b_law_right_dispatch_8, h]
      cases a with
      | tup r =>
        have := h r b rfl
        have h2 : (r.length : Int) < 2 := by omega
        simp [turn, b_law_right_dispatch_8, h2]
      | _ => exact hna rfl
    | [], _ => simp [turn, b_law_right_dispatch_8]
    | [_], _ => simp [turn, b_law_right_dispatch_8]
    | a :: b :: c :: r, _ =>
      have : (((a :: b :: c :: r).length : Int) == 2) = false := by simp; omega
      generalize a :: b :: c :: r = L at this
      simp [turn, b_law_right_dispatch_8, this]
  | _ => exact hnt rfl
/-- the second part is no integer from 1 on -/
theorem rd_no2 {r : List D} {b : D} {L W : D} (hr : 2 ≤ r.length) (h : ∀ m, b = .int m → m < 1) :
    ∃ δ' s', tR s (.tup [.tup r, b]) (δright (tS pl) R1 R2 V parts (.lst (spansD pl.length)) o6 (some (.d L)) (some (.d W)) o9 o10 o11 o12 o13 o14 o15 o16) s = some (.rt (.d (.bl false)), δ', s') ∧ s' = s := by
  have h2 : ¬ (r.length : Int) < 2 := by omega
  cases b with
  | int m =>
    have := h m rfl
    simp [turn, b_law_right_dispatch_8, h2, this]
  | _ => simp [turn, b_law_right_dispatch_8, h2, isiD]
theorem rd_c3 {r : List D} (h1 : shps 20 r = true) (a1 a2 a3 a4 a5 a6 a7 a8 a9 a10 a11 a12 a13 a14 a15 a16 : Option R) : compL (cturn g_law_right_dispatch fl x_law_right_dispatch_3 (.nm 14) .yes [14] [some (.d (tS pl)), a1, a2, a3, a4, a5, a6, a7, a8, a9, a10, a11, a12, a13, a14, a15, a16]) r s = some (r.map fun d => .bl (inD d (pl.map .str)), s) := by
  refine compL_map r s fun d hd => ?_
  have hc := c_in_t (shps_mem h1 hd) (shps_strs 20 pl) fun _ _ => trivial
  have hs := inD_strs d pl
  unfold tS
  cases d with
  | str x => simp [cturn, x_law_right_dispatch_3, hc]
  | _ => (simp only at hs; simp [cturn, x_law_right_dispatch_3, isiD, hs])
theorem rd_no3 {r : List D} {m : Int} {L W : D} (hr : 2 ≤ r.length) (hr4 : r.length ≤ 4000) (hm : 1 ≤ m) (h1 : shps 20 r = true) (h : rowOf pl r = none) :
    ∃ δ' s', tR s (.tup [.tup r, .int m]) (δright (tS pl) R1 R2 V parts (.lst (spansD pl.length)) o6 (some (.d L)) (some (.d W)) o9 o10 o11 o12 o13 o14 o15 o16) s = some (.rt (.d (.bl false)), δ', s') ∧ s' = s := by
  have h2 : ¬ (r.length : Int) < 2 := by omega
  have h3 : ¬ m < 1 := by omega
  have h4 : ¬ 1000000 < r.length := by omega
  have a1 := bi_all (fun d => inD d (pl.map .str)) r
  rw [rowOf_all, h] at a1
  have c3 := fun a1 a2 a3 a4 a5 a6 a7 a8 a9 a10 a11 a12 a13 a14 a15 a16 => rd_c3 (s := s) (pl := pl) h1 a1 a2 a3 a4 a5 a6 a7 a8 a9 a10 a11 a12 a13 a14 a15 a16
  generalize (r.map fun d => D.bl (inD d (pl.map .str))) = A at *
  simp [turn, b_law_right_dispatch_8, h2, h3, h4, c3, a1]
theorem rd_c4 {xs : List Str} {row : List Nat} (hx : ∀ x ∈ xs, x ∈ pl) (hrow : row = xs.map (pl.idxOf ·)) (a1 a2 a3 a4 a5 a6 a7 a8 a9 a10 a11 a12 a13 a14 a15 a16 : Option R) : compL (cturn g_law_right_dispatch fl x_law_right_dispatch_4 (.nm 14) .yes [14] [some (.d (tS pl)), a1, a2, a3, a4, a5, a6, a7, a8, a9, a10, a11, a12, a13, a14, a15, a16]) (xs.map .str) s = some (row.map fun i : Nat => .int (i : Int), s) := by
  subst hrow
  rw [List.map_map]
  refine compL_maps xs s fun x hx2 => ?_
  have := index_str (hx x hx2)
  unfold natD at this
  unfold tS
  simp [cturn, x_law_right_dispatch_4, this]
theorem rd_no4 {xs : List Str} {m : Int} {L W : D} (hr : 2 ≤ xs.length) (hr4 : xs.length ≤ 4000) (hm : 1 ≤ m) (hx : ∀ x ∈ xs, x ∈ pl) (hn : ¬ (xs.map (pl.idxOf ·)).Nodup) :
    ∃ δ' s', tR s (.tup [.tup (xs.map .str), .int m]) (δright (tS pl) R1 R2 V parts (.lst (spansD pl.length)) o6 (some (.d L)) (some (.d W)) o9 o10 o11 o12 o13 o14 o15 o16) s = some (.rt (.d (.bl false)), δ', s') ∧ s' = s := by
  have h2 : ¬ (xs.length : Int) < 2 := by omega
  have h3 : ¬ m < 1 := by omega
  have h4 : ¬ 1000000 < xs.length := by omega
  have a1 := bi_all (fun d => inD d (pl.map .str)) (xs.map .str)
  rw [rowOf_all, rowOf_map hx] at a1
  have c3 := fun a1 a2 a3 a4 a5 a6 a7 a8 a9 a10 a11 a12 a13 a14 a15 a16 => rd_c3 (s := s) (pl := pl) (shps_strs 20 xs) a1 a2 a3 a4 a5 a6 a7 a8 a9 a10 a11 a12 a13 a14 a15 a16
  generalize ((xs.map D.str).map fun d => D.bl (inD d (pl.map .str))) = A at *
  have c4 := fun a1 a2 a3 a4 a5 a6 a7 a8 a9 a10 a11 a12 a13 a14 a15 a16 => rd_c4 (s := s) hx rfl a1 a2 a3 a4 a5 a6 a7 a8 a9 a10 a11 a12 a13 a14 a15 a16
  have hlen : (xs.map D.str).length = xs.length := by simp
  have rlen : (xs.map (pl.idxOf ·)).length = xs.length := by simp
  generalize xs.map (pl.idxOf ·) = row at *
  have i1 := intsOf_nat row
  have hd := dedupN_lt (row.map fun i : Nat => (i : Int))
  rw [nodup_cast, decide_eq_false hn] at hd
  have hd2 : (dedupN (row.map fun i : Nat => (i : Int)) : Int) < (row.length : Int) := by
    have := of_decide_eq_true hd
    simp at this
    omega
  have h5 : row.length ≤ 4000 := by omega
  have rl : (row.map fun i : Nat => D.int (i : Int)).length = row.length := by simp
  have rl2 : (row.map fun i : Nat => (i : Int)).length = row.length := by simp
  generalize (row.map fun i : Nat => (i : Int)) = RI at *
  generalize (row.map fun i : Nat => D.int (i : Int)) = RD at *
  generalize xs.map D.str = X at *
  simp [turn, b_law_right_dispatch_8, h2, h3, h4, c3, a1, hlen, c4, i1, hd2, h5, rl, rl2]
end
end SD

set_option Elab.async false
set_option linter.all false
set_option autoImplicit false
set_option maxRecDepth 100000
set_option maxHeartbeats 4000000
namespace SD
open PySem L2 DL
theorem steps_range (n : Nat) (row : List Nat) : (List.range (row.length - 1)).map (fun k => spanIx n (min (row.getD k 0) (row.getD (k + 1) 0)) (max (row.getD k 0) (row.getD (k + 1) 0))) = stepsN n row := by
  apply List.ext_getElem
  · simp [stepsN]
  · intro i h1 h2
    have h3 : i + 1 < row.length := by simp at h1; omega
    have h4 : i < row.length := by omega
    simp [stepsN, List.getElem?_eq_getElem h3, List.getElem?_eq_getElem h4]
theorem c_in_nats (k : Nat) (xs : List Nat) : cmpD .In (.int (k : Int)) (.lst (xs.map fun i : Nat => D.int (i : Int))) = some (.bl (decide (k ∈ xs))) := by
  have : shps 20 (xs.map fun i : Nat => D.int (i : Int)) = true := by
    have e : xs.map (fun i : Nat => D.int (i : Int)) = (xs.map fun i : Nat => (i : Int)).map .int := by simp
    rw [e]; exact shps_ints _ _
  show (if shp 20 (.int _) && shps 20 _ then some (D.bl (inD _ _)) else none) = _
  rw [this, inD_nats]
  simp
section
variable {s : S} {pl : List Str} {R1 R2 V : D} {parts : Int} {o6 o9 o10 o11 o12 o13 o14 o15 o16 : Option R}
theorem rd_c5 {n : Nat} {row : List Nat} (h : RowOk n row) (P L W SH : D) (a1 a2 a3 a4 a10 a11 a12 a13 a14 a15 a16 : Option R) : compL (cturn g_law_right_dispatch fl x_law_right_dispatch_5 (.nm 15) .yes [15] [some (.d P), a1, a2, a3, a4, some (.d (.lst (spansD n))), some (.d SH), some (.d L), some (.d W), some (.d (.lst (row.map fun i : Nat => D.int (i : Int)))), a10, a11, a12, a13, a14, a15, a16]) (rngD 0 (row.length - 1)) s = some ((stepsN n row).map fun i : Nat => .int (i : Int), s) := by
  rw [rngD_map, ← steps_range, List.map_map]
  refine compL_maps (List.range (row.length - 1)) s fun k hk => ?_
  have hk1 : k + 1 < row.length := by have := List.mem_range.mp hk; omega
  have hk0 : k < row.length := by omega
  have e0 : atI (row.map fun i : Nat => D.int (i : Int)) (k : Int) = some (.int (row[k] : Nat)) := by
    rw [atI_nat (by simpa using hk0)]; simp
  have e1 : atI (row.map fun i : Nat => D.int (i : Int)) ((k : Int) + 1) = some (.int (row[k + 1] : Nat)) := by
    have : ((k : Int) + 1) = ((k + 1 : Nat) : Int) := by omega
    rw [this, atI_nat (by simpa using hk1)]; simp
  have hne : row[k] ≠ row[k + 1] := List.pairwise_iff_getElem.mp (List.nodup_iff_pairwise_ne.mp h.2.1) k (k + 1) hk0 hk1 (by omega)
  have hs := (index_span (h.2.2 _ (List.getElem_mem hk0)) (h.2.2 _ (List.getElem_mem hk1)) hne).2
  have g0 : row.getD k 0 = row[k] := by simp [hk0]
  have g1 : row.getD (k + 1) 0 = row[k + 1] := by simp [hk1]
  simp only [Function.comp_apply]
  rw [g0, g1]
  generalize row[k] = A at *
  generalize row[k + 1] = B at *
  generalize (row.map fun i : Nat => D.int (i : Int)) = RD at *
  simp [cturn, x_law_right_dispatch_5, e0, e1, min_cast', max_cast', hs]
theorem rd_c6 {w : List Int} {E : Nat} {m : Int} (X : D) (a0 a1 a2 a3 a4 a5 a7 a8 a9 a10 a12 a13 a14 a15 a16 : Option R) : compL (cturn g_law_right_dispatch fl x_law_right_dispatch_6 (.tp (.cons (.nm 16) (.cons (.nm 13) .nil))) .yes [16, 13] [a0, a1, a2, a3, a4, a5, some (.d (.tup [X, .int m])), a7, a8, a9, a10, some (.d (.int (E : Int))), a12, a13, a14, a15, a16]) (enumD 0 (w.map .int)) s = some ((upd w (fun i => decide (i = E)) m).map .int, s) := by
  rw [enum_zip, List.zipIdx_map, List.map_map]
  unfold upd
  rw [List.map_map]
  refine compL_maps (w.zipIdx 0) s fun p hp => ?_
  obtain ⟨x, k⟩ := p
  by_cases h : k = E
  · subst h
    have := mul_r (i := m) (j := 1) (by omega) (by omega)
    simp [cturn, x_law_right_dispatch_6, b_mul this]
  · have := mul_r (i := m) (j := 0) (by omega) (by omega)
    have h2 : ¬ (k : Int) = (E : Int) := by omega
    simp [cturn, x_law_right_dispatch_6, h, h2, b_mul this]
theorem rd_c7 {l : List Int} {ks : List Nat} {m : Int} (X : D) (a0 a1 a2 a3 a4 a5 a7 a8 a9 a11 a12 a13 a14 a15 a16 : Option R) : compL (cturn g_law_right_dispatch fl x_law_right_dispatch_7 (.tp (.cons (.nm 16) (.cons (.nm 13) .nil))) .yes [16, 13] [a0, a1, a2, a3, a4, a5, some (.d (.tup [X, .int m])), a7, a8, a9, some (.d (.lst (ks.map fun i : Nat => D.int (i : Int)))), a11, a12, a13, a14, a15, a16]) (enumD 0 (l.map .int)) s = some ((upd l (fun i => decide (i ∈ ks)) m).map .int, s) := by
  rw [enum_zip, List.zipIdx_map, List.map_map]
  unfold upd
  rw [List.map_map]
  refine compL_maps (l.zipIdx 0) s fun p hp => ?_
  obtain ⟨x, k⟩ := p
  have hc := c_in_nats k ks
  generalize (ks.map fun i : Nat => D.int (i : Int)) = KD at *
  by_cases h : k ∈ ks
  · have := mul_r (i := m) (j := 1) (by omega) (by omega)
    simp [cturn, x_law_right_dispatch_7, hc, h, b_mul this]
  · have := mul_r (i := m) (j := 0) (by omega) (by omega)
    simp [cturn, x_law_right_dispatch_7, hc, h, b_mul this]
theorem rd_yes {d : D} {q : List Nat × Int} (hq : shareOf pl d = some q) (hd : ShOk d) {l w : List Int} (hl : l.length ≤ 10) (hw : w.length ≤ 10) :
    ∃ δ' s', tR s d (δright (tS pl) R1 R2 V parts (.lst (spansD pl.length)) o6 (some (.d (.lst (l.map .int)))) (some (.d (.lst (w.map .int)))) o9 o10 o11 o12 o13 o14 o15 o16) s = some (.nx, δ', s') ∧
      (∃ o6 o9 o10 o11 o12 o13 o14 o15 o16, δ' = δright (tS pl) R1 R2 V parts (.lst (spansD pl.length)) o6 (some (.d (.lst ((applyS pl.length (l, w) q).1.map .int)))) (some (.d (.lst ((applyS pl.length (l, w) q).2.map .int)))) o9 o10 o11 o12 o13 o14 o15 o16) ∧ s' = s := by
  obtain ⟨xs, rfl, hx, hrow, hok, hm⟩ := shareOf_some hq
  obtain ⟨row, m⟩ := q
  dsimp only at *
  have hr4 : xs.length ≤ 4000 := by simpa using (hd _ _ rfl).2
  have hr : 2 ≤ xs.length := by have := hok.1; rw [hrow] at this; simpa using this
  have h2 : ¬ (xs.length : Int) < 2 := by omega
  have h3 : ¬ m < 1 := by omega
  have h4 : ¬ 1000000 < xs.length := by omega
  have a1 := bi_all (fun d => inD d (pl.map .str)) (xs.map .str)
  rw [rowOf_all, rowOf_map hx] at a1
  have c3 := fun a1 a2 a3 a4 a5 a6 a7 a8 a9 a10 a11 a12 a13 a14 a15 a16 => rd_c3 (s := s) (pl := pl) (shps_strs 20 xs) a1 a2 a3 a4 a5 a6 a7 a8 a9 a10 a11 a12 a13 a14 a15 a16
  generalize ((xs.map D.str).map fun d => D.bl (inD d (pl.map .str))) = A at *
  have c4 := fun a1 a2 a3 a4 a5 a6 a7 a8 a9 a10 a11 a12 a13 a14 a15 a16 => rd_c4 (s := s) hx hrow a1 a2 a3 a4 a5 a6 a7 a8 a9 a10 a11 a12 a13 a14 a15 a16
  have c5 := fun P L W SH a1 a2 a3 a4 a10 a11 a12 a13 a14 a15 a16 => rd_c5 (s := s) hok P L W SH a1 a2 a3 a4 a10 a11 a12 a13 a14 a15 a16
  have c6 := fun X a0 a1 a2 a3 a4 a5 a7 a8 a9 a10 a12 a13 a14 a15 a16 => rd_c6 (s := s) (w := w) (E := endN pl.length row) (m := m) X a0 a1 a2 a3 a4 a5 a7 a8 a9 a10 a12 a13 a14 a15 a16
  have c7 := fun X a0 a1 a2 a3 a4 a5 a7 a8 a9 a11 a12 a13 a14 a15 a16 => rd_c7 (s := s) (l := l) (ks := stepsN pl.length row) (m := m) X a0 a1 a2 a3 a4 a5 a7 a8 a9 a11 a12 a13 a14 a15 a16
  have e1 : upd l (fun i => decide (i ∈ stepsN pl.length row)) m = (applyS pl.length (l, w) (row, m)).1 := upd_many _ _ (steps_nodup hok.2.1 hok.2.2)
  have e2 : upd w (fun i => decide (i = endN pl.length row)) m = (applyS pl.length (l, w) (row, m)).2 := upd_one
  rw [e1] at c7
  rw [e2] at c6
  have hlen : (xs.map D.str).length = xs.length := by simp
  have rlen : row.length = xs.length := by rw [hrow]; simp
  have i1 := intsOf_nat row
  have hd := dedupN_lt (row.map fun i : Nat => (i : Int))
  rw [nodup_cast, decide_eq_true hok.2.1] at hd
  have hd2 : ¬ (dedupN (row.map fun i : Nat => (i : Int)) : Int) < (row.length : Int) := by
    have := of_decide_eq_false hd
    simp at this
    omega
  have h5 : row.length ≤ 4000 := by omega
  have rl : (row.map fun i : Nat => D.int (i : Int)).length = row.length := by simp
  have rl2 : (row.map fun i : Nat => (i : Int)).length = row.length := by simp
  obtain ⟨f1, f2⟩ := row_first hok
  obtain ⟨n1, n2, n3⟩ := hok.ends
  have hix := (index_span n1 n2 n3).2
  have hixe : endN pl.length row = spanIx pl.length (min (row.headD 0) (row.getLastD 0)) (max (row.headD 0) (row.getLastD 0)) := rfl
  rw [← hixe] at hix
  have rg : ((row.length : Int) - 1).toNat = row.length - 1 := by omega
  have rg1 : (-1000000 : Int) ≤ (row.length : Int) - 1 ∧ (row.length : Int) - 1 ≤ 1000000 := by omega
  have rg2 : ¬ 1000000 < (rngD 0 (row.length - 1)).length := by rw [rngD_map]; simp; omega
  have lw : ¬ 1000000 < (enumD 0 (w.map D.int)).length := by simp; omega
  have ll : ¬ 1000000 < (enumD 0 (l.map D.int)).length := by simp; omega
  unfold rowD natD at f1 f2
  refine ⟨_, _, ?_, ⟨some (.d (.tup [.tup (xs.map .str), .int m])), some (.d (.lst (row.map fun i : Nat => D.int (i : Int)))), some (.d (.lst ((stepsN pl.length row).map fun i : Nat => D.int (i : Int)))), some (.d (.int (endN pl.length row : Int))), o12, o13, o14, o15, o16, rfl⟩, rfl⟩
  generalize (applyS pl.length (l, w) (row, m)).1.map D.int = L' at *
  generalize (applyS pl.length (l, w) (row, m)).2.map D.int = W' at *
  generalize endN pl.length row = E at *
  generalize row.headD 0 = A at *
  generalize row.getLastD 0 = B at *
  generalize (row.map fun i : Nat => (i : Int)) = RI at *
  generalize (row.map fun i : Nat => D.int (i : Int)) = RD at *
  generalize ((stepsN pl.length row).map fun i : Nat => D.int (i : Int)) = SN at *
  generalize xs.map D.str = X at *
  generalize l.map D.int = LD at *
  generalize w.map D.int = WD at *
  generalize hRG : rngD 0 (row.length - 1) = RG at *
  generalize hEL : enumD 0 LD = EL at *
  generalize hEW : enumD 0 WD = EW at *
  simp [turn, b_law_right_dispatch_8, h2, h3, h4, c3, a1, hlen, c4, i1, hd2, h5, rl, rl2, rg, rg1, rg2, c5, f1, f2, min_cast', max_cast', hix, lw, ll, c6, c7, hRG, hEL, hEW]
theorem sharesOf_foldlM {pl : List Str} (N : Nat) : ∀ (shs : List D) (st : List Int × List Int), shs.foldlM (fun st d => (shareOf pl d).map (applyS N st)) st = (sharesOf pl shs).map fun L => L.foldl (applyS N) st
  | [], st => rfl
  | d :: shs, st => by
    rw [List.foldlM_cons, sharesOf]
    cases h : shareOf pl d with
    | none => rfl
    | some q =>
      show shs.foldlM _ (applyS N st q) = _
      rw [sharesOf_foldlM N shs]
      cases sharesOf pl shs <;> rfl
theorem applyS_len {n : Nat} {st : List Int × List Int} {q : List Nat × Int} : (applyS n st q).1.length = st.1.length ∧ (applyS n st q).2.length = st.2.length := by
  unfold applyS
  refine ⟨?_, subAt_len _ _ _⟩
  generalize stepsN n q.1 = ks
  obtain ⟨l, w⟩ := st
  dsimp only
  induction ks generalizing l with
  | nil => rfl
  | cons k ks ih => rw [List.foldl_cons, ih, subAt_len]
abbrev δr0 (pl : List Str) (roads parcels : List Int) (v : D) (parts : Int) (st : List Int × List Int) (o6 o9 o10 o11 o12 o13 o14 o15 o16 : Option R) : EnvR := δright (tS pl) (tI roads) (tI parcels) v parts (.lst (spansD pl.length)) o6 (some (.d (.lst (st.1.map .int)))) (some (.d (.lst (st.2.map .int)))) o9 o10 o11 o12 o13 o14 o15 o16
theorem rd_loop {pl : List Str} {roads parcels : List Int} {v : D} {parts : Int} {s : S} (its : List D) (hsh : ∀ d ∈ its, ShOk d) (st : List Int × List Int) (h1 : st.1.length ≤ 10) (h2 : st.2.length ≤ 10) :
    (∀ L, sharesOf pl its = some L → ∃ δ' s', forL (tR s) its (δr0 pl roads parcels v parts st none none none none none none none none none) s = some (.nx, δ', s') ∧ ((∃ o6 o9 o10 o11 o12 o13 o14 o15 o16, δ' = δr0 pl roads parcels v parts (L.foldl (applyS pl.length) st) o6 o9 o10 o11 o12 o13 o14 o15 o16) ∧ s' = s ∧ (L.foldl (applyS pl.length) st).1.length ≤ 10 ∧ (L.foldl (applyS pl.length) st).2.length ≤ 10)) ∧
    (sharesOf pl its = none → ∃ δ' s', forL (tR s) its (δr0 pl roads parcels v parts st none none none none none none none none none) s = some (.rt (.d (.bl false)), δ', s') ∧ s' = s) := by
  obtain ⟨y1, y0⟩ := forL_fold (f := tR s) (.d (.bl false)) (fun s' => s' = s) (fun (st : List Int × List Int) δ' s' => (∃ o6 o9 o10 o11 o12 o13 o14 o15 o16, δ' = δr0 pl roads parcels v parts st o6 o9 o10 o11 o12 o13 o14 o15 o16) ∧ s' = s ∧ st.1.length ≤ 10 ∧ st.2.length ≤ 10)
      (fun st d => (shareOf pl d).map (applyS pl.length st)) its st (δr0 pl roads parcels v parts st none none none none none none none none none) s ⟨⟨none, none, none, none, none, none, none, none, none, rfl⟩, rfl, h1, h2⟩ (by
    rintro d hd st δ s' ⟨⟨o6, o9, o10, o11, o12, o13, o14, o15, o16, rfl⟩, rfl, h1, h2⟩
    have hok := hsh d hd
    refine ⟨fun st' e => ?_, fun e => ?_⟩
    · obtain ⟨q, hq, rfl⟩ := Option.map_eq_some_iff.mp e
      obtain ⟨δ', s', e, ho, hs⟩ := rd_yes (s := s') (R1 := tI roads) (R2 := tI parcels) (V := v) (parts := parts) (o6 := o6) (o9 := o9) (o10 := o10) (o11 := o11) (o12 := o12) (o13 := o13) (o14 := o14) (o15 := o15) (o16 := o16) hq hok h1 h2
      exact ⟨δ', s', e, ho, hs, by rw [applyS_len.1]; exact h1, by rw [applyS_len.2]; exact h2⟩
    · have hq : shareOf pl d = none := Option.map_eq_none_iff.mp e
      by_cases q1 : ∀ r b, d = .tup [.tup r, b] → r.length < 2
      · exact rd_no1 q1
      · obtain ⟨r, b, rfl, hr⟩ : ∃ r b, d = .tup [.tup r, b] ∧ ¬ r.length < 2 := by
          by_cases q : ∃ r b, d = .tup [.tup r, b] ∧ ¬ r.length < 2
          · exact q
          · refine absurd (fun r b e => ?_) q1
            by_cases z : r.length < 2
            · exact z
            · exact absurd ⟨r, b, e, z⟩ q
        by_cases q2 : ∀ m, b = .int m → m < 1
        · exact rd_no2 (by omega) q2
        · obtain ⟨m, rfl, hm⟩ : ∃ m, b = .int m ∧ ¬ m < 1 := by
            by_cases q : ∃ m, b = .int m ∧ ¬ m < 1
            · exact q
            · refine absurd (fun m e => ?_) q2
              by_cases z : m < 1
              · exact z
              · exact absurd ⟨m, e, z⟩ q
          obtain ⟨s1, s2⟩ := hok r (.int m) rfl
          cases hrow : rowOf pl r with
          | none => exact rd_no3 (by omega) s2 (by omega) s1 hrow
          | some row =>
            obtain ⟨xs, rfl, hx, rfl⟩ := rowOf_some hrow
            refine rd_no4 (by simpa using hr) (by simpa using s2) (by omega) hx fun nd => ?_
            simp only [shareOf, hrow, Option.bind_some] at hq
            rw [if_pos ⟨by omega, nd, by omega⟩] at hq
            cases hq)
  rw [sharesOf_foldlM] at y1 y0
  refine ⟨fun L hL => ?_, fun hL => ?_⟩
  · exact y1 _ (by rw [hL]; rfl)
  · exact y0 (by rw [hL]; rfl)
theorem v_law_right_dispatch {pl : List Str} {roads parcels : List Int} (hp : PlOk pl) (hr : roads.length = (spansN pl.length).length) (hq : parcels.length = (spansN pl.length).length) {parts : Int} (h1 : 1 ≤ parts) (h2 : parts ≤ 2) {v : D} (hv : VOk v) (s : S) :
    e_law_right_dispatch [.d (tS pl), .d (tI roads), .d (tI parcels), .d v, .d (.int parts)] s = some (.d (.bl (judge pl roads parcels parts v)), s) := by
  have hspn : (spansN pl.length).length ≤ 10 := by
    have a := hp.lo
    have b := hp.hi
    have : pl.length = 2 ∨ pl.length = 3 ∨ pl.length = 4 ∨ pl.length = 5 := by omega
    rcases this with e | e | e | e <;> rw [e] <;> decide
  have lim1 : ¬ 1000000 < roads.length := by omega
  have lim2 : ¬ 1000000 < parcels.length := by omega
  have hsp := v_law_spans hp.lo hp.hi
  have c1 : ∀ (SP : D) (a0 a1 a2 a3 a6 a7 a8 a9 a10 a11 a12 a13 a14 a15 a16 : Option R), compL (cturn g_law_right_dispatch fl x_law_right_dispatch_1 (.nm 12) .yes [12] [a0, a1, a2, a3, some (.d (.int parts)), some (.d SP), a6, a7, a8, a9, a10, a11, a12, a13, a14, a15, a16]) (roads.map .int) s = some ((roads.map (parts * ·)).map .int, s) := by
    intros
    refine comp_mul (j := 12) roads fun n => ?_
    have := mul_l (i := parts) (j := n) (by omega) (by omega)
    simp [cturn, x_law_right_dispatch_1, b_mul this]
  have c2 : ∀ (SP : D) (a0 a1 a2 a3 a6 a7 a8 a9 a10 a11 a12 a13 a14 a15 a16 : Option R), compL (cturn g_law_right_dispatch fl x_law_right_dispatch_2 (.nm 13) .yes [13] [a0, a1, a2, a3, some (.d (.int parts)), some (.d SP), a6, a7, a8, a9, a10, a11, a12, a13, a14, a15, a16]) (parcels.map .int) s = some ((parcels.map (parts * ·)).map .int, s) := by
    intros
    refine comp_mul (j := 13) parcels fun n => ?_
    have := mul_l (i := parts) (j := n) (by omega) (by omega)
    simp [cturn, x_law_right_dispatch_2, b_mul this]
  have hplen : (pl.map D.str).length = pl.length := by simp
  have jn := rd_loop (pl := pl) (roads := roads) (parcels := parcels) (v := v) (parts := parts) (s := s)
  have l1 : (roads.map (parts * ·)).length ≤ 10 := by simp; omega
  have l2 : (parcels.map (parts * ·)).length ≤ 10 := by simp; omega
  unfold δr0 δright tR at jn
  unfold tS tI at jn ⊢
  by_cases hvt : isiD .tuple v = true
  · obtain ⟨shs, rfl⟩ : ∃ shs, v = .tup shs := by
      cases v <;> first | exact ⟨_, rfl⟩ | cases hvt
    obtain ⟨hsl, hsh⟩ := hv shs rfl
    obtain ⟨y1, y0⟩ := jn shs hsh (roads.map (parts * ·), parcels.map (parts * ·)) l1 l2
    dsimp only at y1 y0
    cases hL : sharesOf pl shs with
    | none =>
      rw [judge_none hL]
      obtain ⟨δ', s', e, rfl⟩ := y0 hL
      generalize (roads.map (parts * ·)).map D.int = RM at *
      generalize (parcels.map (parts * ·)).map D.int = PM at *
      simp [e_law_right_dispatch, DL.run, c_law_right_dispatch, hsp, lim1, lim2, c1, c2, e]
    | some L =>
      rw [judge_some hL]
      obtain ⟨δ', s', e, ⟨o6, o9, o10, o11, o12, o13, o14, o15, o16, rfl⟩, rfl, h3, h4⟩ := y1 L hL
      generalize L.foldl (applyS pl.length) (roads.map (parts * ·), parcels.map (parts * ·)) = st at *
      obtain ⟨l, w⟩ := st
      dsimp only at *
      have c3 : ∀ (a0 a1 a2 a3 a4 a5 a6 a7 a8 a9 a10 a11 a12 a13 a14 a15 a16 : Option R), compL (cturn g_law_right_dispatch fl x_law_right_dispatch_9 (.nm 13) .yes [13] [a0, a1, a2, a3, a4, a5, a6, a7, a8, a9, a10, a11, a12, a13, a14, a15, a16]) (l.map .int) s' = some (l.map fun i => .bl (decide (0 ≤ i)), s') := by
        intros
        refine compL_maps l s' fun n _ => ?_
        simp [cturn, x_law_right_dispatch_9]
      have c4 : ∀ (a0 a1 a2 a3 a4 a5 a6 a7 a8 a9 a10 a11 a12 a13 a14 a15 a16 : Option R), compL (cturn g_law_right_dispatch fl x_law_right_dispatch_10 (.nm 13) .yes [13] [a0, a1, a2, a3, a4, a5, a6, a7, a8, a9, a10, a11, a12, a13, a14, a15, a16]) (w.map .int) s' = some (w.map fun i => .bl (i == 0), s') := by
        intros
        refine compL_maps w s' fun n _ => ?_
        simp [cturn, x_law_right_dispatch_10]
      have a3 := bi_all (fun i : Int => decide (0 ≤ i)) l
      have a4 := bi_all (fun i : Int => i == 0) w
      have lim3 : ¬ 1000000 < (l.map D.int).length := by simp; omega
      have lim4 : ¬ 1000000 < (w.map D.int).length := by simp; omega
      generalize (roads.map (parts * ·)).map D.int = RM at *
      generalize (parcels.map (parts * ·)).map D.int = PM at *
      generalize (l.map fun i => D.bl (decide (0 ≤ i))) = A3 at *
      generalize (w.map fun i => D.bl (i == 0)) = A4 at *
      generalize l.map D.int = LD at *
      generalize w.map D.int = WD at *
      cases hd : l.all (fun i => decide (0 ≤ i)) <;> rw [hd] at a3 <;> simp [e_law_right_dispatch, DL.run, c_law_right_dispatch, hsp, lim1, lim2, lim3, lim4, c1, c2, e, c3, c4, a3, a4]
  · have hvt' : isiD .tuple v = false := by simpa using hvt
    have hj : judge pl roads parcels parts v = false := by
      unfold judge
      cases v <;> first | rfl | exact absurd rfl hvt
    rw [hj]
    obtain ⟨y1, y0⟩ := jn [.non] (fun d hd => by simp at hd; subst hd; intro r m e; cases e) (roads.map (parts * ·), parcels.map (parts * ·)) l1 l2
    obtain ⟨δ', s', e, rfl⟩ := y0 rfl
    dsimp only at e
    generalize (roads.map (parts * ·)).map D.int = RM at *
    generalize (parcels.map (parts * ·)).map D.int = PM at *
    simp [e_law_right_dispatch, DL.run, c_law_right_dispatch, hsp, lim1, lim2, c1, c2, e, hvt']
end
end SD

set_option Elab.async false
set_option linter.all false
set_option autoImplicit false
set_option maxRecDepth 100000
set_option maxHeartbeats 4000000
namespace SD
open PySem L2 DL
theorem spans_len {pl : List Str} (hp : PlOk pl) : (spansN pl.length).length ≤ 10 ∧ 0 < (spansN pl.length).length := by
  have a := hp.lo
  have b := hp.hi
  have : pl.length = 2 ∨ pl.length = 3 ∨ pl.length = 4 ∨ pl.length = 5 := by omega
  rcases this with e | e | e | e <;> rw [e] <;> decide
abbrev sFits : Str := "fits"
abbrev sWholes : Str := "wholes"
theorem v_accepts {pl : List Str} {roads parcels : List Int} (hp : PlOk pl) (hr : NOk pl.length roads) (hq : NOk pl.length parcels) {w : Str} {parts : Int} (hw : (w = sFits ∧ parts = 2) ∨ (w = sWholes ∧ parts = 1)) {v : D} (hv : VOk v) (s : S) :
    e_accepts [.d (.tup [.str w, .str (textOf pl), tI roads, tI parcels]), .d v] s = some (.d (.bl (judge pl roads parcels parts v)), s) := by
  have h1 := v_read_posts hp
  have h2 := v_init hp
  have h3 := v_spans pl
  have h4 := fun v m => v_wrong_number v m 1000000000000000000000000000000
  have h5 := wrongN_ok hr
  have h6 := wrongN_ok hq
  have n4 : cmpD .NotIn (.int 4) (.tup [.int 4, .int 6]) = some (.bl false) := by
    rw [c_nin_t (by simp) (by simp)]; simp [inD]
  have i1 : ∀ x : List D, cmpD .Is (.tup x) .non = some (.bl false) := fun _ => rfl
  have i2 : ∀ C x, cmpD .Is (.ins C x) .non = some (.bl false) := fun _ _ => rfl
  have ne0 : cmpD .NotEq (.tup []) (.tup []) = some (.bl false) := by
    show (if shp 20 (.tup []) && shp 20 (.tup []) then some (D.bl (!eqD (.tup []) (.tup []))) else none) = _
    simp
  have at2 : ∀ a b c d : D, atI [a, b, c, d] 2 = some c := fun _ _ _ _ => rfl
  have at3 : ∀ a b c d : D, atI [a, b, c, d] 3 = some d := fun _ _ _ _ => rfl
  have sh : ∀ s, e_is_shown [.d (postsD pl), .d (.str w), .d (tI roads), .d (tI parcels), .d v] s = some (.d (.bl (judge pl roads parcels parts v)), s) := by
    intro s
    rcases hw with ⟨rfl, rfl⟩ | ⟨rfl, rfl⟩
    · have := v_are_sent hp hr.1 hq.1 (parts := 2) (by omega) (by omega) hv
      simp [e_is_shown, DL.run, c_is_shown, this]
    · have := v_are_sent hp hr.1 hq.1 (parts := 1) (by omega) (by omega) hv
      have e : (sWholes == sFits) = false := by decide +kernel
      simp [e_is_shown, DL.run, c_is_shown, this, e]
  have nall : cmpD .In (.str w) (.tup [.str "all", .str "not all"]) = some (.bl false) := by
    rw [c_in_t (by simp) (by simp) fun _ _ => trivial]
    have : inD (.str w) ([("all" : Str), ("not all" : Str)].map .str) = false := by
      rw [inD_strs]
      rcases hw with ⟨rfl, _⟩ | ⟨rfl, _⟩ <;> decide +kernel
    exact congrArg (fun b => some (D.bl b)) this
  unfold tI at h5 h6 sh ⊢
  unfold tS at h1 h2
  unfold postsD at h2 h3 sh
  have hsd : (spansD pl.length).length = (spansD pl.length).length := rfl
  simp [e_accepts, DL.run, c_accepts, n4, h1, i1, h2, i2, at2, at3, h3, h4, h5, h6, ne0, nall, sh]
end SD

set_option Elab.async false
set_option linter.all false
set_option autoImplicit false
set_option maxRecDepth 100000
set_option maxHeartbeats 4000000
namespace SD
open PySem L2 DL
@[simp] theorem fst_get (f x : Cell) (t u : S) : (f :: (t ++ x :: u))[t.length + 1]? = some x := by simp
@[simp] theorem fst_set (f x y : Cell) (t u : S) : (f :: (t ++ x :: u)).set (t.length + 1) y = f :: (t ++ y :: u) := by simp
theorem isNm_app {x : Str} (h : isNm x = true) (hl : x.length ≤ 7) {c : Nat} (hc : okc c = true) : isNm (x ++ ⟨#[c]⟩) = true ∧ (x ++ ⟨#[c]⟩ : Str).length = x.length + 1 := by
  have e : (x ++ ⟨#[c]⟩ : Str).cps.toList = x.cps.toList ++ [c] := by
    show (x.cps ++ #[c]).toList = _
    simp
  have hlen : ∀ y : Str, y.length = y.cps.toList.length := fun _ => rfl
  refine ⟨?_, by rw [hlen, hlen, e]; simp⟩
  unfold isNm at h ⊢
  rw [e]
  rw [hlen] at hl
  cases hx : x.cps.toList with
  | nil => rw [hx] at h; cases h
  | cons a r =>
    rw [hx] at h hl
    simp at h hl ⊢
    refine ⟨by omega, h.2.1, h.2.2.1, h.2.2.2, hc⟩
abbrev bothS : Str := "abcdefghijklmnopqrstuvwxyz0123456789"
theorem idx_let {i : Int} (h0 : 0 ≤ i) (h1 : i < 26) : ∃ c, idxD (.str lettersS) (.int i) = some (.str ⟨#[c]⟩) ∧ okl c = true := by
  have e : lettersS.cps.toList = (List.range 26).map (· + 97) := by decide +kernel
  have hl : lettersS.length ≤ 1000000 := by decide +kernel
  refine ⟨i.toNat + 97, ?_, by unfold okl; simp; omega⟩
  show (if lettersS.length ≤ 1000000 then (atI lettersS.cps.toList i).map _ else none) = _
  rw [if_pos hl, e]
  have : i = ((i.toNat : Nat) : Int) := by omega
  rw [this, DL.atI_nat (by simp; omega)]
  simp
  omega
theorem idx_both {i : Int} (h0 : 0 ≤ i) (h1 : i < 36) : ∃ c, idxD (.str bothS) (.int i) = some (.str ⟨#[c]⟩) ∧ okc c = true := by
  have e : bothS.cps.toList = (List.range 26).map (· + 97) ++ (List.range 10).map (· + 48) := by decide +kernel
  have hl : bothS.length ≤ 1000000 := by decide +kernel
  have hb : ∀ n : Nat, n < 36 → okc (((List.range 26).map (· + 97) ++ (List.range 10).map (· + 48)).getD n 0) = true := by decide
  obtain ⟨k, rfl⟩ : ∃ k : Nat, i = (k : Int) := ⟨i.toNat, by omega⟩
  refine ⟨_, ?_, hb k (by omega)⟩
  show (if bothS.length ≤ 1000000 then (atI bothS.cps.toList (k : Int)).map _ else none) = _
  have hq : k < ((List.range 26).map (· + 97) ++ (List.range 10).map (· + 48)).length := by simp; omega
  rw [if_pos hl, e, DL.atI_nat hq]
  generalize ((List.range 26).map (· + 97) ++ (List.range 10).map (· + 48)) = L at *
  simp [hq]
theorem add_ss {x y : Str} (h : x.length + y.length ≤ 1000000) : binD .Add (.str x) (.str y) = some (.str (x ++ y)) := by
  show (if x.length + y.length ≤ lim then _ else _) = _
  exact if_pos h
theorem add_tt {x y : List D} (h : x.length + y.length ≤ 1000000) : binD .Add (.tup x) (.tup y) = some (.tup (x ++ y)) := by
  show (if x.length + y.length ≤ lim then _ else _) = _
  exact if_pos h
theorem add_ll {x y : List D} (h : x.length + y.length ≤ 1000000) : binD .Add (.lst x) (.lst y) = some (.lst (x ++ y)) := by
  show (if x.length + y.length ≤ lim then _ else _) = _
  exact if_pos h
theorem jd_some (x : D) : jd (some x) = some (.d x) := rfl
def placeS (j : Nat) : Str := ("place" : Str) ++ (Str.ofString (toString (j : Int)))
theorem place_ok : ∀ j, j < 5 → isNm (placeS j) = true ∧ (placeS j).length = 6 := by decide +kernel
theorem place_inj : ∀ i, i < 5 → ∀ j, j < 5 → placeS i = placeS j → i = j := by decide +kernel
theorem place_D {j : Nat} (h : j < 5) : biD .str [.int (j : Int)] = some (.str (Str.ofString (toString (j : Int)))) := by
  show (if (j : Int).natAbs.log2 < 1920 then _ else _) = _
  have : (j : Int).natAbs.log2 < 3 := by
    by_cases hj : j = 0
    · subst hj; decide
    · exact (Nat.log2_lt (by omega)).mpr (by omega)
  rw [if_pos (by omega)]
/-- the names so far -/
structure NmSt (i : Nat) (found : List Str) : Prop where
  len : found.length = i
  nd : found.Nodup
  nm : ∀ x ∈ found, isNm x = true
  pl : ∀ x ∈ found, x.length ≠ 6 ∨ ∃ j, j < i ∧ x = placeS j
theorem NmSt.app {i : Nat} {found : List Str} (h : NmSt i found) (hi : i < 5) {x : Str} (hx : isNm x = true) (hl : x.length ≠ 6) : NmSt (i + 1) (found ++ [if x ∈ found then placeS i else x]) := by
  have hp := place_ok i hi
  have hpn : placeS i ∉ found := by
    intro hm
    rcases h.pl _ hm with q | ⟨j, hj, e⟩
    · exact q hp.2
    · have := place_inj i hi j (by omega) e; omega
  by_cases q : x ∈ found
  · rw [if_pos q]
    refine ⟨by simp [h.len], ?_, ?_, ?_⟩
    · rw [List.nodup_append]
      exact ⟨h.nd, by simp, fun a ha b hb => by simp at hb; subst hb; intro e; subst e; exact hpn ha⟩
    · intro y hy
      rcases List.mem_append.mp hy with hy | hy
      · exact h.nm y hy
      · simp at hy; subst hy; exact hp.1
    · intro y hy
      rcases List.mem_append.mp hy with hy | hy
      · rcases h.pl y hy with z | ⟨j, hj, e⟩
        · exact .inl z
        · exact .inr ⟨j, by omega, e⟩
      · simp at hy; exact .inr ⟨i, by omega, hy⟩
  · rw [if_neg q]
    refine ⟨by simp [h.len], ?_, ?_, ?_⟩
    · rw [List.nodup_append]
      exact ⟨h.nd, by simp, fun a ha b hb => by simp at hb; subst hb; intro e; subst e; exact q ha⟩
    · intro y hy
      rcases List.mem_append.mp hy with hy | hy
      · exact h.nm y hy
      · simp at hy; subst hy; exact hx
    · intro y hy
      rcases List.mem_append.mp hy with hy | hy
      · rcases h.pl y hy with z | ⟨j, hj, e⟩
        · exact .inl z
        · exact .inr ⟨j, by omega, e⟩
      · simp at hy; subst hy; exact .inl hl
abbrev δnm (n : Nat) (k : Nat) (o3 o4 o5 : Option R) : EnvR := [some (.c 0), some (.d (.int (n : Int))), some (.c k), o3, o4, o5]
/-- the signs behind the first -/
theorem names_inner {n b k : Nat} {t : S} (c : Nat) (hc : c ≤ 7) (x : Str) (h : isNm x = true) (hl : x.length = 1) (f : Fl) (o3 o5 : Option D) :
    ∃ δ' s', forL (turn g_law_names fl b (.nm 5) b_law_names_1) (rngD 0 c) (δnm n k (jd o3) (some (.d (.str x))) (jd o5)) (f.cell :: t) = some (.nx, δ', s') ∧
      (∃ f' : Fl, ∃ x : Str, ∃ o5, isNm x = true ∧ x.length = 1 + c ∧ δ' = δnm n k (jd o3) (some (.d (.str x))) (jd o5) ∧ s' = f'.cell :: t) := by
  have := forL_inv (f := turn g_law_names fl b (.nm 5) b_law_names_1) (fun i δ' s' => ∃ f' : Fl, ∃ x : Str, ∃ o5, isNm x = true ∧ x.length = 1 + i ∧ δ' = δnm n k (jd o3) (some (.d (.str x))) (jd o5) ∧ s' = f'.cell :: t) (rngD 0 c) 0 _ _ ⟨f, x, o5, h, hl, rfl, rfl⟩ ?_
  · rw [rngD_map] at this ⊢
    simpa using this
  · rintro j d δ s hj ⟨f, x, o5, h, hl, rfl, rfl⟩
    have hjc : j < c := by
      have := (List.getElem?_eq_some_iff.mp hj).1
      rw [rngD_map] at this; simpa using this
    obtain ⟨r, f', e, r0, r1⟩ := v_draw 36 (by omega) (by omega) f t
    obtain ⟨ch, ec, hch⟩ := idx_both r0 r1
    obtain ⟨a1, a2⟩ := isNm_app h (by omega) hch
    have ad : binD .Add (.str x) (.str ⟨#[ch]⟩) = some (.str (x ++ ⟨#[ch]⟩)) := by
      refine add_ss ?_
      show x.length + 1 ≤ _
      omega
    refine ⟨δnm n k (jd o3) (some (.d (.str (x ++ ⟨#[ch]⟩)))) (jd (some d)), f'.cell :: t, ?_, f', _, some d, a1, by rw [a2, hl]; omega, rfl, rfl⟩
    simp [turn, b_law_names_1, e, ec, ad]
    rfl
theorem v_law_names {n : Nat} (h0 : 2 ≤ n) (h1 : n ≤ 5) (f : Fl) (t : S) : ∃ pl, ∃ f' : Fl, e_law_names [.c 0, .d (.int (n : Int))] (f.cell :: t) = some (.d (tS pl), f'.cell :: t) ∧ PlOk pl ∧ pl.length = n := by
  have key := forL_inv (f := turn g_law_names fl (t.length + 1) (.nm 3) b_law_names_2) (fun i δ' s' => ∃ f' : Fl, ∃ found, ∃ o3 o4 o5, NmSt i found ∧ δ' = δnm n (t.length + 1) (jd o3) (jd o4) (jd o5) ∧ s' = f'.cell :: (t ++ [.lst (found.map .str)])) (rngD 0 n) 0 (δnm n (t.length + 1) (jd none) (jd none) (jd none)) (f.cell :: (t ++ [.lst []])) ⟨f, [], none, none, none, ⟨rfl, by simp, by simp, by simp⟩, rfl, rfl⟩ ?_
  · obtain ⟨δ', s', e, f', found, o3, o4, o5, hn, rfl, rfl⟩ := key
    have hlen : (rngD 0 n).length = n := by rw [rngD_map]; simp
    rw [hlen] at hn
    have jn : jd none = none := rfl
    rw [jn] at e
    refine ⟨found, f', ?_, ⟨by rw [hn.len]; omega, by rw [hn.len]; omega, hn.nd, hn.nm⟩, by rw [hn.len]; omega⟩
    have q : (-1000000 : Int) ≤ n ∧ (n : Int) ≤ 1000000 := by omega
    simp [e_law_names, DL.run, c_law_names, q, e, soleC_eq, tS]
  · rintro j d δ s hj ⟨f, found, o3, o4, o5, hn, rfl, rfl⟩
    have hjc : j < n := by
      have := (List.getElem?_eq_some_iff.mp hj).1
      rw [rngD_map] at this; simpa using this
    have hd : d = .int (j : Int) := by
      rw [rngD_map, List.getElem?_map, List.getElem?_range hjc] at hj
      simp at hj
      exact hj.symm
    subst hd
    rw [Nat.zero_add] at hn ⊢
    generalize hT : t ++ [Cell.lst (found.map .str)] = T
    obtain ⟨r1, f1, e1, a0, a1⟩ := v_draw 26 (by omega) (by omega) f T
    obtain ⟨c1, ec1, hc1⟩ := idx_let a0 a1
    obtain ⟨x2, f2, e2, m2⟩ := v_pick [.int 0, .int 0, .int 1, .int 2, .int 7] (by simp) (by simp) f1 T
    obtain ⟨c, hc, hc7, hc2⟩ : ∃ c : Nat, x2 = .int (c : Int) ∧ c ≤ 7 ∧ 1 + c ≠ 6 := by
      simp at m2
      rcases m2 with rfl | rfl | rfl | rfl
      · exact ⟨0, rfl, by omega, by omega⟩
      · exact ⟨1, rfl, by omega, by omega⟩
      · exact ⟨2, rfl, by omega, by omega⟩
      · exact ⟨7, rfl, by omega, by omega⟩
    subst hc
    have hn1 : isNm ⟨#[c1]⟩ = true := by unfold isNm; simp [hc1, okc]
    obtain ⟨δi, si, ei, f3, x3, o5', hx3, hl3, rfl, rfl⟩ := names_inner (n := n) (b := t.length + 1) (k := t.length + 1) (t := T) c hc7 ⟨#[c1]⟩ hn1 rfl f2 (some (.int (j : Int))) o5
    obtain ⟨r4, f4, e4, b0, b1⟩ := v_draw 9 (by omega) (by omega) f3 T
    obtain ⟨x5, f5, e5, m5⟩ := v_pick [.str "posts", .str "part", .str "two", .str "fits", .str "none"] (by simp) (by simp) f4 T
    obtain ⟨y5, rfl, hy5, hl5⟩ : ∃ y, x5 = .str y ∧ isNm y = true ∧ y.length ≠ 6 := by
      simp at m5
      rcases m5 with rfl | rfl | rfl | rfl | rfl <;> exact ⟨_, rfl, by decide +kernel, by decide +kernel⟩
    have q : (-1000000 : Int) ≤ c ∧ (c : Int) ≤ 1000000 := by omega
    have hfl : found.length < 1000000 := by have := hn.len; omega
    have pd := place_D (j := j) (by omega)
    have ad : binD .Add (.str "place") (.str (Str.ofString (toString (j : Int)))) = some (.str (placeS j)) := by
      have := (place_ok j (by omega)).2
      unfold placeS at this ⊢
      have e : ∀ a b : Str, (a ++ b : Str).length = a.length + b.length := fun a b => by
        show (a.cps ++ b.cps).size = _
        simp; rfl
      rw [e] at this
      exact add_ss (by omega)
    have jdi : (some (R.d (.int (j : Int))) : Option R) = jd (some (.int (j : Int))) := rfl
    rw [← jdi] at ei
    have i3 := inD_strs (.str x3) found
    have i5 := inD_strs (.str y5) found
    simp only at i3 i5
    have T0 : T[t.length]? = some (.lst (found.map .str)) := by rw [← hT]; simp
    have S0 : ∀ y : Str, T.set t.length (.lst (found.map .str ++ [.str y])) = t ++ [.lst ((found ++ [y]).map .str)] := by intro y; rw [← hT]; simp
    have hfd : (found.map D.str).length < 1000000 := by simpa using hfl
    have shf := shps_strs 20 found
    generalize found.map D.str = FD at *
    generalize Str.ofString (toString (j : Int)) = PJ at pd ad
    by_cases hr : r4 = 0
    · subst hr
      by_cases hm : y5 ∈ found
      · have na := hn.app (x := y5) (by omega) hy5 hl5
        rw [if_pos hm] at na
        refine ⟨_, _, ?_, f5, _, some (.int (j : Int)), some (.str y5), o5', na, rfl, rfl⟩
        rw [← S0]
        simp [turn, b_law_names_2, e1, ec1, e2, q, ei, e4, e5, T0, shf, i5, hm, pd, ad, hfd, jd_some]
      · have na := hn.app (x := y5) (by omega) hy5 hl5
        rw [if_neg hm] at na
        refine ⟨_, _, ?_, f5, _, some (.int (j : Int)), some (.str y5), o5', na, rfl, rfl⟩
        rw [← S0]
        simp [turn, b_law_names_2, e1, ec1, e2, q, ei, e4, e5, T0, shf, i5, hm, pd, ad, hfd, jd_some]
    · have hr : (r4 == 0) = false := by simpa using hr
      by_cases hm : x3 ∈ found
      · have na := hn.app (x := x3) (by omega) hx3 (by omega)
        rw [if_pos hm] at na
        refine ⟨_, _, ?_, f4, _, some (.int (j : Int)), some (.str x3), o5', na, rfl, rfl⟩
        rw [← S0]
        simp [turn, b_law_names_2, e1, ec1, e2, q, ei, e4, hr, T0, shf, i3, hm, pd, ad, hfd, jd_some]
      · have na := hn.app (x := x3) (by omega) hx3 (by omega)
        rw [if_neg hm] at na
        refine ⟨_, _, ?_, f4, _, some (.int (j : Int)), some (.str x3), o5', na, rfl, rfl⟩
        rw [← S0]
        simp [turn, b_law_names_2, e1, ec1, e2, q, ei, e4, hr, T0, shf, i3, hm, pd, ad, hfd, jd_some]
end SD

set_option Elab.async false
set_option linter.all false
set_option autoImplicit false
set_option maxRecDepth 100000
set_option maxHeartbeats 4000000
namespace SD
open PySem L2 DL
/-- a route of places -/
structure RtOk (pl : List Str) (xs : List Str) : Prop where
  lo : 2 ≤ xs.length
  hi : xs.length ≤ pl.length
  nd : xs.Nodup
  mem : ∀ x ∈ xs, x ∈ pl
theorem RtOk.row {pl xs : List Str} (h : RtOk pl xs) : RowOk pl.length (xs.map (pl.idxOf ·)) :=
  ⟨by simpa using h.lo, (nodup_map_idx h.mem).mpr h.nd, fun i hi => by
    obtain ⟨x, hx, rfl⟩ := List.mem_map.mp hi
    exact List.idxOf_lt_length_of_mem (h.mem x hx)⟩
theorem erase_perm {α : Type} : ∀ (l : List α) (i : Nat) (h : i < l.length), (l[i] :: l.eraseIdx i).Perm l
  | a :: l, 0, _ => by simp
  | a :: l, i + 1, h => by
    simp only [List.getElem_cons_succ, List.eraseIdx_cons_succ]
    exact (List.Perm.swap _ _ _).trans (List.Perm.cons a (erase_perm l i (by simpa using h)))
theorem erase_map {α β : Type} (f : α → β) : ∀ (l : List α) (i : Nat), (l.map f).eraseIdx i = (l.eraseIdx i).map f
  | [], _ => rfl
  | _ :: _, 0 => rfl
  | a :: l, i + 1 => by simp [erase_map f l i]
structure RtSt (pl : List Str) (i : Nat) (L F : List Str) : Prop where
  len : F.length = i
  sum : F.length + L.length = pl.length
  nd : (F ++ L).Nodup
  mem : ∀ x ∈ F ++ L, x ∈ pl
theorem RtSt.step {pl : List Str} {i : Nat} {L F : List Str} (h : RtSt pl i L F) {m : Nat} (hm : m < L.length) : RtSt pl (i + 1) (L.eraseIdx m) (F ++ [L[m]]) := by
  have p : (F ++ [L[m]] ++ L.eraseIdx m).Perm (F ++ L) := by
    rw [List.append_assoc]
    exact List.Perm.append_left F (erase_perm L m hm)
  refine ⟨by simp [h.len], ?_, p.nodup_iff.mpr h.nd, fun x hx => h.mem x (p.mem_iff.mp hx)⟩
  have := h.sum
  rw [List.length_eraseIdx_of_lt hm]
  simp
  omega
@[simp] theorem fst_get1 (f x y : Cell) (t u : S) : (f :: (t ++ x :: y :: u))[t.length + 1 + 1]? = some y := by simp
@[simp] theorem fst_set1 (f x y z : Cell) (t u : S) : (f :: (t ++ x :: y :: u)).set (t.length + 1 + 1) z = f :: (t ++ x :: z :: u) := by simp
abbrev δrt (P : D) (k : Nat) (o2 : Option R) : EnvR := [some (.c 0), some (.d P), o2, some (.c k), some (.c (k + 1))]
theorem v_law_route {pl : List Str} (hp : PlOk pl) (f : Fl) (t : S) : ∃ xs, ∃ f' : Fl, e_law_route [.c 0, .d (tS pl)] (f.cell :: t) = some (.d (tS xs), f'.cell :: t) ∧ RtOk pl xs := by
  have h0 := hp.lo
  have h1 := hp.hi
  obtain ⟨r0, f0, e0, r00, r01⟩ := v_draw ((pl.length : Int) - 1) (by omega) (by omega) f (t ++ [.lst (pl.map .str), .lst []])
  obtain ⟨c, rfl⟩ : ∃ c : Nat, r0 = (c : Int) := ⟨r0.toNat, by omega⟩
  have key := forL_inv (f := turn g_law_route fl (t.length + 1) (.nm 2) b_law_route_1) (fun i δ' s' => ∃ f' : Fl, ∃ L F o2, RtSt pl i L F ∧ δ' = δrt (tS pl) (t.length + 1) (jd o2) ∧ s' = f'.cell :: (t ++ [.lst (L.map .str), .lst (F.map .str)])) (rngD 0 (2 + c)) 0 (δrt (tS pl) (t.length + 1) (jd none)) (f0.cell :: (t ++ [.lst (pl.map .str), .lst []])) ⟨f0, pl, [], none, ⟨rfl, by simp, by simpa using hp.nd, by simp⟩, rfl, rfl⟩ ?_
  · obtain ⟨δ', s', e, f', L, F, o2, hn, rfl, rfl⟩ := key
    have hlen : (rngD 0 (2 + c)).length = 2 + c := by rw [rngD_map]; simp
    rw [hlen] at hn
    have jn : jd none = none := rfl
    rw [jn] at e
    refine ⟨F, f', ?_, ⟨by rw [hn.len]; omega, by have := hn.sum; omega, (List.nodup_append.mp hn.nd).1, fun x hx => hn.mem x (List.mem_append_left _ hx)⟩⟩
    have q : (-1000000 : Int) ≤ 2 + c ∧ (2 : Int) + c ≤ 1000000 := by omega
    have q2 : ((2 : Int) + c).toNat = 2 + c := by omega
    have hpl : (pl.map D.str).length = pl.length := by simp
    unfold tS at e ⊢
    generalize pl.map D.str = PD at *
    simp [e_law_route, DL.run, c_law_route, hpl, e0, q, q2, e, soleC_eq]
  · rintro j d δ s hj ⟨f, L, F, o2, hn, rfl, rfl⟩
    have hjc : j < 2 + c := by
      have := (List.getElem?_eq_some_iff.mp hj).1
      rw [rngD_map] at this; simpa using this
    rw [Nat.zero_add] at hn ⊢
    have hL : 0 < L.length := by have := hn.sum; have := hn.len; omega
    have hL5 : L.length ≤ 5 := by have := hn.sum; omega
    obtain ⟨r, f1, e1, a0, a1⟩ := v_draw L.length (by omega) (by omega) f (t ++ [.lst (L.map .str), .lst (F.map .str)])
    obtain ⟨m, rfl⟩ : ∃ m : Nat, r = (m : Int) := ⟨r.toNat, by omega⟩
    have hm : m < L.length := by omega
    have hi : ixN L.length (m : Int) = some m := ixN_nat hm
    have hg : (L.map D.str)[m]? = some (.str L[m]) := by simp [hm]
    have he : (L.map D.str).eraseIdx m = (L.eraseIdx m).map D.str := erase_map _ _ _
    have hb : -(9223372036854775808 : Int) ≤ m ∧ (m : Int) < 9223372036854775808 := by omega
    have hFl : F.length < 1000000 := by have := hn.sum; omega
    have ha : F.map D.str ++ [.str L[m]] = (F ++ [L[m]]).map D.str := by simp
    refine ⟨_, _, ?_, f1, L.eraseIdx m, F ++ [L[m]], some d, hn.step hm, rfl, rfl⟩
    have hll : (L.map D.str).length = L.length := by simp
    have hfl : (F.map D.str).length = F.length := by simp
    rw [← he, ← ha, jd_some]
    generalize L.map D.str = LD at *
    generalize F.map D.str = FD at *
    simp [turn, b_law_route_1, hll, e1, hi, hg, hb, hfl, hFl]
end SD

set_option Elab.async false
set_option linter.all false
set_option autoImplicit false
set_option maxRecDepth 100000
set_option maxHeartbeats 4000000
namespace SD
open PySem L2 DL
theorem untype {α : Type} {g : α → D} {Q : α → Prop} : ∀ {ys : List D}, (∀ y ∈ ys, ∃ p, y = g p ∧ Q p) → ∃ L : List α, ys = L.map g ∧ ∀ p ∈ L, Q p
  | [], _ => ⟨[], rfl, by simp⟩
  | y :: ys, h => by
    obtain ⟨p, rfl, hp⟩ := h y List.mem_cons_self
    obtain ⟨L, rfl, hL⟩ := untype fun z hz => h z (List.mem_cons_of_mem _ hz)
    exact ⟨p :: L, rfl, fun q hq => by rcases List.mem_cons.mp hq with rfl | hq; exact hp; exact hL q hq⟩
/-- a route with an amount -/
def shD (p : List Str × Int) : D := .tup [tS p.1, .int p.2]
def big : Int := 10 ^ 28
/-- a drawn share -/
def ShD (pl : List Str) (p : List Str × Int) : Prop := RtOk pl p.1 ∧ 1 ≤ p.2 ∧ p.2 ≤ 3 * big
theorem v_law_shares {pl : List Str} (hp : PlOk pl) (f : Fl) (t : S) : ∃ L : List (List Str × Int), ∃ f' : Fl, e_law_shares [.c 0, .d (tS pl)] (f.cell :: t) = some (.d (.lst (L.map shD)), f'.cell :: t) ∧ L.length ≤ 6 ∧ ∀ p ∈ L, ShD pl p := by
  obtain ⟨x1, f1, e1, m1⟩ := v_pick [.int 1, .int 1, .int 1, .int 2, .int (10 ^ 9), .int (10 ^ 28)] (by simp) (by simp) f t
  obtain ⟨z, rfl, hz1, hz2⟩ : ∃ z, x1 = .int z ∧ 1 ≤ z ∧ z ≤ big := by
    simp at m1
    rcases m1 with rfl | rfl | rfl | rfl <;> exact ⟨_, rfl, by decide, by decide⟩
  obtain ⟨r, f2, e2, r0, r1⟩ := v_draw 7 (by omega) (by omega) f1 t
  obtain ⟨c, rfl⟩ : ∃ c : Nat, r = (c : Int) := ⟨r.toNat, by omega⟩
  have p9 : binD .Pow (.int 10) (.int 9) = some (.int (10 ^ 9)) := rfl
  have p28 : binD .Pow (.int 10) (.int 28) = some (.int (10 ^ 28)) := rfl
  have hlen : (rngD 0 c).length = c := by rw [rngD_map]; simp
  obtain ⟨ys, s', e3, ⟨f3, rfl⟩, hl, hP⟩ := compL_inv (f := cturn g_law_shares fl x_law_shares_1 (.nm 3) .yes [3] [some (.c 0), some (.d (tS pl)), some (.d (.int z)), none]) (fun s => ∃ f' : Fl, s = f'.cell :: t) (fun y => ∃ p, y = shD p ∧ ShD pl p) (rngD 0 c) (f2.cell :: t) ⟨f2, rfl⟩ (by
    rintro x hx s ⟨f, rfl⟩
    obtain ⟨xs, fa, ea, hr⟩ := v_law_route hp f t
    obtain ⟨q, fb, eb, q0, q1⟩ := v_draw 3 (by omega) (by omega) fa t
    have mk := mul_l (i := 1 + q) (j := z) (by omega) (by omega)
    refine ⟨shD (xs, (1 + q) * z), fb.cell :: t, ?_, ⟨fb, rfl⟩, _, rfl, hr, ?_, ?_⟩
    · simp [cturn, x_law_shares_1, ea, eb, b_mul mk, shD]
    · show 1 ≤ (1 + q) * z
      have : q = 0 ∨ q = 1 ∨ q = 2 := by omega
      rcases this with rfl | rfl | rfl <;> omega
    · show (1 + q) * z ≤ 3 * big
      have : q = 0 ∨ q = 1 ∨ q = 2 := by omega
      rcases this with rfl | rfl | rfl <;> omega)
  obtain ⟨L, rfl, hL⟩ := untype hP
  refine ⟨L, f3, ?_, by simp at hl; omega, hL⟩
  have q : (-1000000 : Int) ≤ c ∧ (c : Int) ≤ 1000000 := by omega
  have q2 : ¬ 1000000 < (rngD 0 c).length := by omega
  have p9' : binD .Pow (.int 10) (.int 9) = some (.int 1000000000) := rfl
  have p28' : binD .Pow (.int 10) (.int 28) = some (.int 10000000000000000000000000000) := rfl
  simp at e1
  simp [e_law_shares, DL.run, c_law_shares, p9', p28', e1, e2, q, q2, e3]
def addAt (ns : List Int) (k : Nat) (m : Int) : List Int := ns.set k (ns.getD k 0 + m)
def loadS (n : Nat) (st : List Int × List Int) (sh : List Nat × Int) : List Int × List Int := ((stepsN n sh.1).foldl (fun l k => addAt l k sh.2) st.1, addAt st.2 (endN n sh.1) sh.2)
def ixP (pl : List Str) (p : List Str × Int) : List Nat × Int := (p.1.map (pl.idxOf ·), p.2)
def loadsN (pl : List Str) (L : List (List Str × Int)) : List Int × List Int := (L.map (ixP pl)).foldl (loadS pl.length) ((spansN pl.length).map fun _ => 0, (spansN pl.length).map fun _ => 0)
theorem addAt_len (ns : List Int) (k : Nat) (m : Int) : (addAt ns k m).length = ns.length := by simp [addAt]
theorem set_add {ns : List Int} {k : Nat} (h : k < ns.length) (m : Int) : (ns.map D.int).set k (.int (ns[k] + m)) = (addAt ns k m).map D.int := by
  unfold addAt
  rw [List.map_set]
  congr 3
  simp [h]
abbrev δld (P SH SP : D) (b : Nat) (o5 o6 o7 o8 o9 o10 o11 : Option R) : EnvR := [some (.d P), some (.d SH), some (.d SP), some (.c b), some (.c (b + 1)), o5, o6, o7, o8, o9, o10, o11]
theorem forL_foldr {α β : Type} {t : β → D} {f : D → EnvR → S → Option (Out × EnvR × S)} (I : α → EnvR → S → Prop) (g : β → Nat) (st : α → Nat → α) (xs : List β) (a : α) (δ : EnvR) (s : S) (h : I a δ s)
    (step : ∀ x ∈ xs, ∀ a δ s, I a δ s → ∃ δ' s', f (t x) δ s = some (.nx, δ', s') ∧ I (st a (g x)) δ' s') : ∃ δ' s', forL f (xs.map t) δ s = some (.nx, δ', s') ∧ I ((xs.map g).foldl st a) δ' s' := by
  have := forL_folds (t := t) I (fun a x => st a (g x)) xs a δ s h step
  rwa [List.foldl_map]
theorem loads_inner {s : S} {P SH : D} {n N : Nat} (hN : N = (spansN n).length) {m : Int} {w : Cell} {row : List Nat} (hok : RowOk n row) (l : List Int) (hl : l.length = N) (o5 o10 o11 : Option R) (o8 o9 : Option D) :
    ∃ δ' s', forL (turn g_law_loads fl s.length (.nm 8) b_law_loads_2) (rngD 0 (row.length - 1)) (δld P SH (.lst (spansD n)) s.length o5 (some (.d (.int m))) (some (.d (rowD row))) (jd o8) (jd o9) o10 o11) (s ++ [.lst (l.map .int), w]) = some (.nx, δ', s') ∧
      ((∃ o8 o9, δ' = δld P SH (.lst (spansD n)) s.length o5 (some (.d (.int m))) (some (.d (rowD row))) (jd o8) (jd o9) o10 o11) ∧ s' = s ++ [.lst (((stepsN n row).foldl (fun l k => addAt l k m) l).map .int), w] ∧ ((stepsN n row).foldl (fun l k => addAt l k m) l).length = N) := by
  rw [rngD_map, ← steps_range]
  refine forL_foldr (fun (l : List Int) δ' s' => (∃ o8 o9, δ' = δld P SH (.lst (spansD n)) s.length o5 (some (.d (.int m))) (some (.d (rowD row))) (jd o8) (jd o9) o10 o11) ∧ s' = s ++ [.lst (l.map .int), w] ∧ l.length = N) (fun k => spanIx n (min (row.getD k 0) (row.getD (k + 1) 0)) (max (row.getD k 0) (row.getD (k + 1) 0))) (fun l k => addAt l k m) (List.range (row.length - 1)) l _ _ ⟨⟨o8, o9, rfl⟩, rfl, hl⟩ ?_
  rintro k hk l δ s' ⟨⟨o8, o9, rfl⟩, rfl, hl⟩
  have hk1 : k + 1 < row.length := by have := List.mem_range.mp hk; omega
  have hk0 : k < row.length := by omega
  have e0 : atI (row.map natD) (k : Int) = some (.int (row[k] : Nat)) := by
    rw [DL.atI_nat (by simpa using hk0)]; simp [natD]
  have e1 : atI (row.map natD) ((k : Int) + 1) = some (.int (row[k + 1] : Nat)) := by
    have : ((k : Int) + 1) = ((k + 1 : Nat) : Int) := by omega
    rw [this, DL.atI_nat (by simpa using hk1)]; simp [natD]
  have hne : row[k] ≠ row[k + 1] := List.pairwise_iff_getElem.mp (List.nodup_iff_pairwise_ne.mp hok.2.1) k (k + 1) hk0 hk1 (by omega)
  have l0 := hok.2.2 _ (List.getElem_mem hk0)
  have l1 := hok.2.2 _ (List.getElem_mem hk1)
  have hs := (index_span l0 l1 hne).2
  have g0 : row.getD k 0 = row[k] := by simp [hk0]
  have g1 : row.getD (k + 1) 0 = row[k + 1] := by simp [hk1]
  rw [g0, g1]
  have hlt : spanIx n (min row[k] row[k + 1]) (max row[k] row[k + 1]) < N := hN ▸ span_lt (by omega) (by omega)
  generalize row[k] = A at *
  generalize row[k + 1] = B at *
  generalize spanIx n (min A B) (max A B) = E at *
  have hlt2 : E < l.length := by omega
  have h2 := set_add hlt2 m
  have x1 : ixN N (E : Int) = some E := ixN_nat hlt
  have x2 : atI (l.map D.int) (E : Int) = some (.int l[E]) := by
    rw [DL.atI_nat (by simpa using hlt2)]; simp
  unfold rowD
  generalize row.map natD = RD at *
  generalize hq : (addAt l E m).map D.int = Q at h2
  simp [turn, b_law_loads_2, e0, e1, min_cast', max_cast', hs, x1, x2, hq, h2, addAt_len, hl]
theorem loads_turn {s : S} {pl : List Str} {SH : D} {N : Nat} (hN : N = (spansN pl.length).length) (hpl : pl.length ≤ 5) {p : List Str × Int} (hp : RtOk pl p.1)
    (l w : List Int) (hl : l.length = N) (hw : w.length = N) (o5 o6 o7 o8 o9 o10 o11 : Option D) :
    ∃ δ' s', turn g_law_loads fl s.length (.tp (.cons (.nm 5) (.cons (.nm 6) .nil))) b_law_loads_3 (shD p) (δld (tS pl) SH (.lst (spansD pl.length)) s.length (jd o5) (jd o6) (jd o7) (jd o8) (jd o9) (jd o10) (jd o11)) (s ++ [.lst (l.map .int), .lst (w.map .int)]) = some (.nx, δ', s') ∧
      ((∃ o5 o6 o7 o8 o9 o10 o11, δ' = δld (tS pl) SH (.lst (spansD pl.length)) s.length (jd o5) (jd o6) (jd o7) (jd o8) (jd o9) (jd o10) (jd o11)) ∧ s' = s ++ [.lst ((loadS pl.length (l, w) (ixP pl p)).1.map .int), .lst ((loadS pl.length (l, w) (ixP pl p)).2.map .int)] ∧ (loadS pl.length (l, w) (ixP pl p)).1.length = N ∧ (loadS pl.length (l, w) (ixP pl p)).2.length = N) := by
  obtain ⟨xs, m⟩ := p
  have hok := hp.row
  have hlo := hp.lo
  have hhi := hp.hi
  unfold ixP
  dsimp only at *
  have rlen : (xs.map (pl.idxOf ·)).length = xs.length := by simp
  have c1 : ∀ st, compL (cturn g_law_loads fl x_law_loads_1 (.nm 11) .yes [11] (δld (tS pl) SH (.lst (spansD pl.length)) s.length (some (.d (.tup (xs.map .str)))) (some (.d (.int m))) (jd o7) (jd o8) (jd o9) (jd o10) (jd o11))) (xs.map .str) st = some ((xs.map (pl.idxOf ·)).map natD, st) := by
    intro st
    rw [List.map_map]
    refine compL_maps xs st fun x hx2 => ?_
    have := index_str (hp.mem x hx2)
    unfold tS
    simp [cturn, x_law_loads_1, this]
  generalize xs.map (pl.idxOf ·) = row at *
  obtain ⟨f1, f2⟩ := row_first hok
  obtain ⟨n1, n2, n3⟩ := hok.ends
  have hix := (index_span n1 n2 n3).2
  have he := end_lt hok
  have hwe : endN pl.length row < w.length := by omega
  have g1 : ixN N (endN pl.length row : Int) = some (endN pl.length row) := hw ▸ ixN_nat hwe
  have g2 : atI (w.map D.int) (endN pl.length row : Int) = some (.int w[endN pl.length row]) := by
    rw [DL.atI_nat (by simpa using hwe)]; simp
  have g3 := set_add hwe m
  have lenx : ¬ 1000000 < xs.length := by omega
  obtain ⟨δ', s', ei, ⟨⟨o8', o9', rfl⟩, rfl, hl'⟩⟩ := loads_inner (s := s) (P := tS pl) (SH := SH) hN (m := m) (w := .lst (w.map .int)) hok l hl (some (.d (.tup (xs.map .str)))) (jd o10) (jd o11) o8 o9
  have hixe : endN pl.length row = spanIx pl.length (min (row.headD 0) (row.getLastD 0)) (max (row.headD 0) (row.getLastD 0)) := rfl
  rw [← hixe] at hix
  have rg : ((row.length : Int) - 1).toNat = row.length - 1 := by omega
  have rg1 : (-1000000 : Int) ≤ (row.length : Int) - 1 ∧ (row.length : Int) - 1 ≤ 1000000 := by omega
  have rdl : (row.map natD).length = row.length := by simp
  refine ⟨_, _, ?_, ⟨⟨some (.tup (xs.map .str)), some (.int m), some (rowD row), o8', some (natD (endN pl.length row)), o10, o11, rfl⟩, rfl, hl', by simp [loadS, addAt_len, hw]⟩⟩
  generalize hE : endN pl.length row = E at *
  generalize hA : row.headD 0 = A at *
  generalize hB : row.getLastD 0 = B at *
  have xlen : (xs.map D.str).length = xs.length := by simp
  unfold loadS
  unfold shD
  unfold tS at *
  dsimp only
  rw [hE]
  simp only [jd_some]
  generalize xs.map D.str = X at *
  generalize hQ : (addAt w E m).map D.int = Q at *
  unfold rowD natD at *
  generalize hLL : (stepsN pl.length row).foldl (fun l k => addAt l k m) l = L' at *
  generalize row.map (fun i : Nat => D.int (i : Int)) = RD at *
  simp [turn, b_law_loads_3, c1, xlen, lenx, rdl, rg, rg1, ei, f1, f2, min_cast', max_cast', hix, g1, g2, g3, hw]
theorem loads_loop {s : S} {pl : List Str} {SH : D} {N : Nat} (hN : N = (spansN pl.length).length) (hpl : pl.length ≤ 5) : ∀ (L : List (List Str × Int)), (∀ p ∈ L, RtOk pl p.1) → ∀ (st : List Int × List Int) (hl : st.1.length = N) (hw : st.2.length = N) (o5 o6 o7 o8 o9 o10 o11 : Option D),
    ∃ δ' s', forL (turn g_law_loads fl s.length (.tp (.cons (.nm 5) (.cons (.nm 6) .nil))) b_law_loads_3) (L.map shD) (δld (tS pl) SH (.lst (spansD pl.length)) s.length (jd o5) (jd o6) (jd o7) (jd o8) (jd o9) (jd o10) (jd o11)) (s ++ [.lst (st.1.map .int), .lst (st.2.map .int)]) = some (.nx, δ', s') ∧
      ((∃ o5 o6 o7 o8 o9 o10 o11, δ' = δld (tS pl) SH (.lst (spansD pl.length)) s.length (jd o5) (jd o6) (jd o7) (jd o8) (jd o9) (jd o10) (jd o11)) ∧ s' = s ++ [.lst (((L.map (ixP pl)).foldl (loadS pl.length) st).1.map .int), .lst (((L.map (ixP pl)).foldl (loadS pl.length) st).2.map .int)])
  | [], _, st, hl, hw, o5, o6, o7, o8, o9, o10, o11 => ⟨_, _, rfl, ⟨_, _, _, _, _, _, _, rfl⟩, rfl⟩
  | p :: L, h, st, hl, hw, o5, o6, o7, o8, o9, o10, o11 => by
    obtain ⟨δ1, s1, e, ⟨p5, p6, p7, p8, p9, p10, p11, rfl⟩, rfl, h1, h2⟩ := loads_turn (s := s) (SH := SH) hN hpl (h p List.mem_cons_self) st.1 st.2 hl hw o5 o6 o7 o8 o9 o10 o11
    obtain ⟨δ2, s2, e2, h3⟩ := loads_loop (s := s) (SH := SH) hN hpl L (fun d hd => h d (List.mem_cons_of_mem _ hd)) (loadS pl.length st (ixP pl p)) h1 h2 p5 p6 p7 p8 p9 p10 p11
    exact ⟨δ2, s2, by rw [List.map_cons]; unfold forL; rw [e]; exact e2, h3⟩
theorem v_law_loads {pl : List Str} (hp : PlOk pl) {L : List (List Str × Int)} (h : ∀ p ∈ L, RtOk pl p.1) (s : S) :
    e_law_loads [.d (tS pl), .d (.lst (L.map shD))] s = some (.d (.tup [.lst ((loadsN pl L).1.map .int), .lst ((loadsN pl L).2.map .int)]), s) := by
  have hs := v_law_spans hp.lo hp.hi
  have hsl := spans_len hp
  have c1 : ∀ st a0 a1 a2 a3 a4 a5 a6 a7 a8 a9 a11, compL (cturn g_law_loads fl (.cint 0) (.nm 10) .yes [10] [a0, a1, a2, a3, a4, a5, a6, a7, a8, a9, none, a11]) (spansD pl.length) st = some (((spansN pl.length).map fun _ => (0 : Int)).map .int, st) := by
    intros
    unfold spansD
    rw [List.map_map]
    refine compL_maps (spansN pl.length) _ fun x _ => ?_
    simp [cturn]
  obtain ⟨δ', s', e, ⟨o5, o6, o7, o8, o9, o10, o11, rfl⟩, rfl⟩ := loads_loop (s := s) (SH := .lst (L.map shD)) (N := (spansN pl.length).length) rfl hp.hi L h ((spansN pl.length).map fun _ => 0, (spansN pl.length).map fun _ => 0) (by simp) (by simp) none none none none none none none
  have jn : jd none = none := rfl
  rw [jn] at e
  unfold loadsN
  dsimp only at e
  have hpl : (pl.map D.str).length = pl.length := by simp
  have sl : ¬ 1000000 < (spansD pl.length).length := by unfold spansD; simp; omega
  unfold tS at e ⊢
  generalize ((spansN pl.length).map fun _ => (0 : Int)).map D.int = Z at *
  generalize (L.map (ixP pl)).foldl (loadS pl.length) ((spansN pl.length).map fun _ => 0, (spansN pl.length).map fun _ => 0) = st at *
  obtain ⟨l, w⟩ := st
  dsimp only at *
  generalize pl.map D.str = PD at *
  generalize L.map shD = LD at *
  simp [e_law_loads, DL.run, c_law_loads, hpl, hs, sl, c1, e, soleC_eq]
def Bd (B : Int) (st : List Int × List Int) : Prop := (∀ i ∈ st.1, 0 ≤ i ∧ i ≤ B) ∧ (∀ i ∈ st.2, 0 ≤ i ∧ i ≤ B)
theorem addAt_bd {ns : List Int} {B m : Int} (h : ∀ i ∈ ns, 0 ≤ i ∧ i ≤ B) (hm : 0 ≤ m) (k : Nat) : ∀ i ∈ addAt ns k m, 0 ≤ i ∧ i ≤ B + m := by
  intro i hi
  unfold addAt at hi
  rcases List.mem_or_eq_of_mem_set hi with hi | rfl
  · have := h i hi; omega
  · by_cases hk : k < ns.length
    · have := h ns[k] (List.getElem_mem hk)
      simp [hk]
      omega
    · rw [List.set_eq_of_length_le (by omega)] at hi
      have := h _ hi
      omega
theorem addAts_bd {m : Int} (hm : 0 ≤ m) : ∀ (ks : List Nat) {ns : List Int} {B : Int} (h : ∀ i ∈ ns, 0 ≤ i ∧ i ≤ B), ∀ i ∈ ks.foldl (fun l k => addAt l k m) ns, 0 ≤ i ∧ i ≤ B + m * ks.length
  | [], ns, B, h => by simpa using h
  | k :: ks, ns, B, h => by
    intro i hi
    rw [List.foldl_cons] at hi
    have := addAts_bd hm ks (addAt_bd h hm k) i hi
    rw [List.length_cons]
    have e : m * ((ks.length + 1 : Nat) : Int) = m * ks.length + m := by
      rw [Int.natCast_add, Int.mul_add]; simp
    rw [e]
    omega
theorem loadS_bd {n : Nat} {st : List Int × List Int} {B : Int} (h : Bd B st) {row : List Nat} {m : Int} (hm : 0 ≤ m) (hr : row.length ≤ 5) : Bd (B + 4 * m) (loadS n st (row, m)) := by
  refine ⟨fun i hi => ?_, fun i hi => ?_⟩
  · have := addAts_bd hm (stepsN n row) h.1 i hi
    have hl : (stepsN n row).length ≤ 4 := by simp [stepsN]; omega
    have : m * ((stepsN n row).length : Int) ≤ m * 4 := Int.mul_le_mul_of_nonneg_left (by omega) hm
    omega
  · have := addAt_bd h.2 hm (endN n row) i hi
    omega
theorem fold_bd {pl : List Str} (h5 : pl.length ≤ 5) : ∀ (L : List (List Str × Int)) {st : List Int × List Int} {B : Int} (h : Bd B st), (∀ p ∈ L, RtOk pl p.1 ∧ 0 ≤ p.2) → Bd (B + 4 * (L.map (·.2)).sum) ((L.map (ixP pl)).foldl (loadS pl.length) st)
  | [], st, B, h, _ => by simpa using h
  | p :: L, st, B, h, hL => by
    have h1 := hL p List.mem_cons_self
    have hl := h1.1.hi
    have := fold_bd h5 L (loadS_bd (n := pl.length) h (row := p.1.map (pl.idxOf ·)) (m := p.2) h1.2 (by simp; omega)) fun q hq => hL q (List.mem_cons_of_mem p hq)
    rw [List.map_cons, List.map_cons, List.foldl_cons, List.sum_cons]
    have e : B + 4 * (p.2 + (L.map (·.2)).sum) = B + 4 * p.2 + 4 * (L.map (·.2)).sum := by omega
    rw [e]
    exact this
theorem fold_len {pl : List Str} : ∀ (L : List (List Nat × Int)) (st : List Int × List Int), (L.foldl (loadS pl.length) st).1.length = st.1.length ∧ (L.foldl (loadS pl.length) st).2.length = st.2.length
  | [], st => ⟨rfl, rfl⟩
  | q :: L, st => by
    rw [List.foldl_cons]
    obtain ⟨h1, h2⟩ := fold_len (pl := pl) L (loadS pl.length st q)
    refine ⟨h1.trans ?_, h2.trans (addAt_len _ _ _)⟩
    clear h1 h2
    unfold loadS
    dsimp only
    generalize stepsN pl.length q.1 = ks
    obtain ⟨l, w⟩ := st
    dsimp only
    induction ks generalizing l with
    | nil => rfl
    | cons k ks ih => rw [List.foldl_cons, ih, addAt_len]
theorem loadsN_ok {pl : List Str} (h5 : pl.length ≤ 5) {L : List (List Str × Int)} (h : ∀ p ∈ L, RtOk pl p.1 ∧ 0 ≤ p.2) :
    Bd (4 * (L.map (·.2)).sum) (loadsN pl L) ∧ (loadsN pl L).1.length = (spansN pl.length).length ∧ (loadsN pl L).2.length = (spansN pl.length).length := by
  have b0 : Bd 0 ((spansN pl.length).map fun _ => (0 : Int), (spansN pl.length).map fun _ => (0 : Int)) := by
    constructor <;> (intro i hi; obtain ⟨_, _, rfl⟩ := List.mem_map.mp hi; omega)
  have := fold_bd h5 L b0 h
  rw [Int.zero_add] at this
  have hl := fold_len (pl := pl) (L.map (ixP pl)) ((spansN pl.length).map fun _ => (0 : Int), (spansN pl.length).map fun _ => (0 : Int))
  exact ⟨this, by rw [loadsN, hl.1]; simp, by rw [loadsN, hl.2]; simp⟩
end SD

set_option Elab.async false
set_option linter.all false
set_option autoImplicit false
set_option maxRecDepth 100000
set_option maxHeartbeats 4000000
namespace SD
open PySem L2 DL
/-- a pair of a few texts and an amount -/
def ShP (p : List Str × Int) : Prop := p.1.length ≤ 5 ∧ 0 ≤ p.2 ∧ p.2 ≤ 4 * big
abbrev δpt (V : D) (k : Nat) (o2 o5 o6 o7 : Option R) : EnvR := [some (.c 0), some (.d V), o2, some (.c k), some (.c (k + 1)), o5, o6, o7]
theorem v_law_parted {L : List (List Str × Int)} (hl : L.length ≤ 100) (hL : ∀ p ∈ L, ShP p) (f : Fl) (t : S) : ∃ L' : List (List Str × Int), ∃ f' : Fl, e_law_parted [.c 0, .d (.lst (L.map shD))] (f.cell :: t) = some (.d (.tup (L'.map shD)), f'.cell :: t) ∧ L'.length ≤ 200 ∧ ∀ p ∈ L', ShP p := by
  have key := forL_inv (f := turn g_law_parted fl (t.length + 1) (.nm 2) b_law_parted_1) (fun i δ' s' => ∃ f' : Fl, ∃ Lf Fd : List (List Str × Int), ∃ o2 o5 o6 o7, (Lf.length + i = L.length ∧ Fd.length ≤ 2 * i ∧ (∀ p ∈ Lf, ShP p) ∧ ∀ p ∈ Fd, ShP p) ∧ δ' = δpt (.lst (L.map shD)) (t.length + 1) (jd o2) (jd o5) (jd o6) (jd o7) ∧ s' = f'.cell :: (t ++ [.lst (Fd.map shD), .lst (Lf.map shD)])) (rngD 0 L.length) 0 (δpt (.lst (L.map shD)) (t.length + 1) (jd none) (jd none) (jd none) (jd none)) (f.cell :: (t ++ [.lst [], .lst (L.map shD)])) ⟨f, L, [], none, none, none, none, ⟨by omega, by simp, hL, by simp⟩, rfl, rfl⟩ ?_
  · obtain ⟨δ', s', e, f', Lf, Fd, o2, o5, o6, o7, ⟨h1, h2, h3, h4⟩, rfl, rfl⟩ := key
    have hlen : (rngD 0 L.length).length = L.length := by rw [rngD_map]; simp
    rw [hlen] at h1 h2
    have jn : jd none = none := rfl
    rw [jn] at e
    refine ⟨Fd, f', ?_, by omega, h4⟩
    have q : (-1000000 : Int) ≤ L.length ∧ (L.length : Int) ≤ 1000000 := by omega
    have hll : (L.map shD).length = L.length := by simp
    generalize L.map shD = LD at *
    generalize Fd.map shD = FD at *
    simp [e_law_parted, DL.run, c_law_parted, hll, q, e, soleC_eq]
  · rintro j d δ s hj ⟨f, Lf, Fd, o2, o5, o6, o7, ⟨h1, h2, h3, h4⟩, rfl, rfl⟩
    have hjc : j < L.length := by
      have := (List.getElem?_eq_some_iff.mp hj).1
      rw [rngD_map] at this; simpa using this
    rw [Nat.zero_add] at h1 h2 ⊢
    have hL0 : 0 < Lf.length := by omega
    obtain ⟨r, f1, e1, a0, a1⟩ := v_draw Lf.length (by omega) (by omega) f (t ++ [.lst (Fd.map shD), .lst (Lf.map shD)])
    obtain ⟨m, rfl⟩ : ∃ m : Nat, r = (m : Int) := ⟨r.toNat, by omega⟩
    have hm : m < Lf.length := by omega
    have hi : ixN Lf.length (m : Int) = some m := ixN_nat hm
    obtain ⟨p, hpe⟩ : ∃ p, p = Lf[m] := ⟨_, rfl⟩
    have hg : (Lf.map shD)[m]? = some (shD p) := by simp [hm, hpe]
    have hp : ShP p := hpe ▸ h3 _ (List.getElem_mem hm)
    have he : (Lf.map shD).eraseIdx m = (Lf.eraseIdx m).map shD := erase_map _ _ _
    have hb : -(9223372036854775808 : Int) ≤ m ∧ (m : Int) < 9223372036854775808 := by omega
    have hel : (Lf.eraseIdx m).length = Lf.length - 1 := List.length_eraseIdx_of_lt hm
    have hee : ∀ q ∈ Lf.eraseIdx m, ShP q := fun q hq => h3 q (List.mem_of_mem_eraseIdx hq)
    obtain ⟨xs, mm⟩ := p
    obtain ⟨hp1, hp2, hp3⟩ := hp
    dsimp only at hp1 hp2 hp3
    generalize hT : t ++ [Cell.lst (Fd.map shD), Cell.lst ((Lf.map shD).eraseIdx m)] = T
    obtain ⟨r2, f2, e2, b0, b1⟩ := v_draw 2 (by omega) (by omega) f1 T
    obtain ⟨r3, f3, e3, c0, c1⟩ := v_draw 3 (by omega) (by omega) f2 T
    have mk := mul_l (i := r2) (j := mm / 2) (by omega) (by omega)
    have dv : binD .FloorDiv (.int mm) (.int 2) = some (.int (mm / 2)) := b_div (by omega) (by omega)
    have hFl : Fd.length + 2 < 1000000 := by omega
    have big0 : 0 ≤ big := by decide
    have pl0 : 0 ≤ r2 * (mm / 2) ∧ r2 * (mm / 2) ≤ mm := by
      have : r2 = 0 ∨ r2 = 1 := by omega
      rcases this with rfl | rfl <;> omega
    have S1 : (t ++ [Cell.lst (Fd.map shD), Cell.lst (Lf.map shD)]).set (t.length + 1) (.lst ((Lf.map shD).eraseIdx m)) = T := by rw [← hT]; simp
    have T0 : T[t.length]? = some (.lst (Fd.map shD)) := by rw [← hT]; simp
    have hfl : (Fd.map shD).length = Fd.length := by simp
    have hFl1 : Fd.length < 1000000 := by omega
    have hFl2 : Fd.length + 1 < 1000000 := by omega
    have hll : (Lf.map shD).length = Lf.length := by simp
    have fin : ∀ (ys : List Str) (as : List Int), ys.length ≤ 5 → as.length ≤ 2 → (∀ a ∈ as, 0 ≤ a ∧ a ≤ mm) → turn g_law_parted fl (t.length + 1) (.nm 2) b_law_parted_1 d (δpt (.lst (L.map shD)) (t.length + 1) (jd o2) (jd o5) (jd o6) (jd o7)) (f.cell :: (t ++ [.lst (Fd.map shD), .lst (Lf.map shD)])) = some (.nx, δpt (.lst (L.map shD)) (t.length + 1) (some (.d d)) (some (.d (.int (r2 * (mm / 2))))) (some (.d (tS ys))) (some (.d (.int mm))), f3.cell :: (t ++ [.lst (Fd.map shD ++ as.map fun a => .tup [tS ys, .int a]), .lst ((Lf.map shD).eraseIdx m)])) →
        ∃ δ' s', turn g_law_parted fl (t.length + 1) (.nm 2) b_law_parted_1 d (δpt (.lst (L.map shD)) (t.length + 1) (jd o2) (jd o5) (jd o6) (jd o7)) (f.cell :: (t ++ [.lst (Fd.map shD), .lst (Lf.map shD)])) = some (.nx, δ', s') ∧ ∃ f' : Fl, ∃ Lf Fd : List (List Str × Int), ∃ o2 o5 o6 o7, (Lf.length + (j + 1) = L.length ∧ Fd.length ≤ 2 * (j + 1) ∧ (∀ p ∈ Lf, ShP p) ∧ ∀ p ∈ Fd, ShP p) ∧ δ' = δpt (.lst (L.map shD)) (t.length + 1) (jd o2) (jd o5) (jd o6) (jd o7) ∧ s' = f'.cell :: (t ++ [.lst (Fd.map shD), .lst (Lf.map shD)]) := by
      intro ys as h5 h6 h8 h7
      refine ⟨_, _, h7, f3, Lf.eraseIdx m, Fd ++ as.map (fun a => (ys, a)), some d, some (.int (r2 * (mm / 2))), some (tS ys), some (.int mm), ⟨by omega, by simp; omega, hee, fun q hq => ?_⟩, rfl, ?_⟩
      · rcases List.mem_append.mp hq with hq | hq
        · exact h4 q hq
        · obtain ⟨a, ha, rfl⟩ := List.mem_map.mp hq
          have := h8 a ha
          exact ⟨h5, by show 0 ≤ a; omega, by show a ≤ 4 * big; omega⟩
      · rw [← he]
        simp [shD]
    have hg : (Lf.map shD)[m]? = some (.tup [.tup (xs.map .str), .int mm]) := hg
    unfold tS at fin
    subst hT
    generalize hX : xs.map D.str = X at *
    generalize Fd.map shD = FD at *
    generalize Lf.map shD = LD at *
    generalize L.map shD = LL at *
    by_cases hr : r3 = 0
    · subst hr
      by_cases hpt : 0 < r2 * (mm / 2)
      · refine fin xs.reverse [r2 * (mm / 2), mm - r2 * (mm / 2)] (by simpa using hp1) (by simp) (by simp; omega) ?_
        simp [turn, b_law_parted_1, hll, e1, hi, hg, hb, e2, dv, b_mul mk, e3, hX, hpt, hfl, hFl1, hFl2]
      · refine fin xs.reverse [mm - r2 * (mm / 2)] (by simpa using hp1) (by simp) (by simp; omega) ?_
        simp [turn, b_law_parted_1, hll, e1, hi, hg, hb, e2, dv, b_mul mk, e3, hX, hpt, hfl, hFl1, hFl2]
    · have hr : (r3 == 0) = false := by simpa using hr
      by_cases hpt : 0 < r2 * (mm / 2)
      · refine fin xs [r2 * (mm / 2), mm - r2 * (mm / 2)] hp1 (by simp) (by simp; omega) ?_
        simp [turn, b_law_parted_1, hll, e1, hi, hg, hb, e2, dv, b_mul mk, e3, hX, hpt, hfl, hFl1, hFl2, hr]
      · refine fin xs [mm - r2 * (mm / 2)] hp1 (by simp) (by simp; omega) ?_
        simp [turn, b_law_parted_1, hll, e1, hi, hg, hb, e2, dv, b_mul mk, e3, hX, hpt, hfl, hFl1, hFl2, hr]
end SD

set_option Elab.async false
set_option linter.all false
set_option autoImplicit false
set_option maxRecDepth 100000
set_option maxHeartbeats 4000000
namespace SD
open PySem L2 DL
theorem pick_fn (f : Fl) (t : S) : ∃ (X : List D → D) (F : List D → Fl), (∀ xs : List D, xs ≠ [] → xs.length < 1000000 → e_law_pick [.c 0, .d (.lst xs)] (f.cell :: t) = some (.d (X xs), (F xs).cell :: t)) ∧ ∀ xs : List D, xs ≠ [] → xs.length < 1000000 → X xs ∈ xs := by
  have h : ∀ xs : List D, ∃ x : D, ∃ f' : Fl, xs ≠ [] → xs.length < 1000000 → e_law_pick [.c 0, .d (.lst xs)] (f.cell :: t) = some (.d x, f'.cell :: t) ∧ x ∈ xs := fun xs => by
    by_cases h0 : xs ≠ []
    · by_cases h1 : xs.length < 1000000
      · obtain ⟨x, f', e, m⟩ := v_pick xs h0 h1 f t
        exact ⟨x, f', fun _ _ => ⟨e, m⟩⟩
      · exact ⟨.non, f, fun _ h => absurd h h1⟩
    · exact ⟨.non, f, fun h => absurd h h0⟩
  obtain ⟨X, hX⟩ := Classical.axiomOfChoice h
  obtain ⟨F, hF⟩ := Classical.axiomOfChoice hX
  exact ⟨X, F, fun xs h0 h1 => (hF xs h0 h1).1, fun xs h0 h1 => (hF xs h0 h1).2⟩
theorem vok_not {v : D} (h : ∀ shs, v ≠ .tup shs) : VOk v := fun shs e => absurd e (h shs)
theorem vok_tup {shs : List D} (h : shs.length ≤ 1000) (h2 : ∀ d ∈ shs, ShOk d) : VOk (.tup shs) := fun s e => by cases e; exact ⟨h, h2⟩
theorem sh_str {xs : List Str} {x : D} (h : xs.length ≤ 4000) : ShOk (.tup [.tup (xs.map .str), x]) := fun r m e => by
  cases e
  exact ⟨shps_strs _ _, by simpa using h⟩
theorem sh_strs {r : List D} {x : D} (h : r.length ≤ 4000) (h2 : shps 20 r = true) : ShOk (.tup [.tup r, x]) := fun r' m e => by
  cases e
  exact ⟨h2, h⟩
theorem sh_not {d : D} (h : ∀ r m, d ≠ .tup [.tup r, m]) : ShOk d := fun r m e => absurd e (h r m)
theorem sh_of {p : List Str × Int} (h : ShP p) : ShOk (shD p) := sh_str (by have := h.1; omega)
theorem mem_cutL {α : Type} {xs : List α} {lo hi : Option Int} {x : α} (h : x ∈ cutL xs lo hi) : x ∈ xs := List.mem_of_mem_drop (List.mem_of_mem_take h)
theorem cutL_len {α : Type} (xs : List α) (lo hi : Option Int) : (cutL xs lo hi).length ≤ xs.length := by
  unfold cutL
  simp
  omega
theorem shps_app {n : Nat} {xs ys : List D} (h : shps n xs = true) (h2 : shps n ys = true) : shps n (xs ++ ys) = true := by
  rw [shps_all] at *
  rw [List.all_append, h, h2]; rfl
theorem shps_cut {n : Nat} {xs : List D} (h : shps n xs = true) (lo hi : Option Int) : shps n (cutL xs lo hi) = true := by
  rw [shps_all] at *
  exact List.all_eq_true.mpr fun x hx => List.all_eq_true.mp h x (mem_cutL hx)
@[simp] theorem slice_t (xs : List D) (lo hi : Option Int) : sliceD (.tup xs) lo hi = some (.tup (cutL xs lo hi)) := rfl
@[simp] theorem slice_l (xs : List D) (lo hi : Option Int) : sliceD (.lst xs) lo hi = some (.lst (cutL xs lo hi)) := rfl
theorem str_D {m : Int} (h : m.natAbs < 2 ^ 200) : ∃ x, biD .str [.int m] = some (.str x) := by
  refine ⟨_, if_pos ?_⟩
  by_cases hj : m.natAbs = 0
  · rw [hj]; decide
  · have := (Nat.log2_lt hj).mpr h
    omega
theorem v_law_bent {L : List (List Str × Int)} (hl : L.length ≤ 200) (hL : ∀ p ∈ L, ShP p) (f : Fl) (t : S) : ∃ v, ∃ f' : Fl, e_law_bent [.c 0, .d (.tup (L.map shD))] (f.cell :: t) = some (.d v, f'.cell :: t) ∧ VOk v := by
  have hV : VOk (.tup (L.map shD)) := vok_tup (by simp; omega) fun d hd => by
    obtain ⟨p, hp, rfl⟩ := List.mem_map.mp hd
    exact sh_of (hL p hp)
  obtain ⟨w, f1, e1, w0, w1⟩ := v_draw 16 (by omega) (by omega) f t
  obtain ⟨X, F, hX, hXm⟩ := pick_fn f1 t
  have sh20 : shps 19 (L.map shD) = true := by
    rw [shps_all, List.all_map]
    exact List.all_eq_true.mpr fun p _ => by simp [shD, tS]
  have ceq : ∀ xs, shps 19 xs = true → cmpD .Eq (.tup xs) (.tup []) = some (.bl xs.isEmpty) := fun xs h => by
    show (if shp 20 (.tup xs) && shp 20 (.tup []) then some (D.bl (eqD (.tup xs) (.tup []))) else none) = _
    rw [shp_tp, h]
    cases xs <;> simp
  have ceq := ceq _ sh20
  by_cases q3 : w < 3
  · have q12 : w < 12 := by omega
    refine ⟨_, f1, ?_, hV⟩
    generalize L.map shD = LD at *
    simp [e_law_bent, DL.run, c_law_bent, e1, q3, q12]
  by_cases qe : L = []
  · subst qe
    by_cases q12 : w < 12
    · refine ⟨_, f1, ?_, hV⟩
      simp at ceq
      simp [e_law_bent, DL.run, c_law_bent, e1, q3, q12, ceq]
    · have hx := hXm [.lst [], .non, .tup [.tup []], .str "", .int 0, .emp] (by simp) (by simp)
      refine ⟨X [.lst [], .non, .tup [.tup []], .str "", .int 0, .emp], F [.lst [], .non, .tup [.tup []], .str "", .int 0, .emp], ?_, ?_⟩
      · simp at ceq
        simp [e_law_bent, DL.run, c_law_bent, e1, q3, q12, ceq, hX]
      · generalize X _ = x at hx
        simp at hx
        rcases hx with rfl | rfl | rfl | rfl | rfl | rfl
        · exact vok_not (by simp)
        · exact vok_not (by simp)
        · exact vok_tup (by simp) (by simp; exact sh_not (by simp))
        · exact vok_not (by simp)
        · exact vok_not (by simp)
        · exact vok_not (by simp)
  · have hlp : 0 < L.length := List.length_pos_iff.mpr qe
    obtain ⟨r, f2, e2, r0, r1⟩ := v_draw L.length (by omega) (by omega) f1 t
    obtain ⟨k, rfl⟩ : ∃ k : Nat, r = (k : Int) := ⟨r.toNat, by omega⟩
    have hk : k < L.length := by omega
    obtain ⟨p, hpe⟩ : ∃ p, p = L[k] := ⟨_, rfl⟩
    have hg : atI (L.map shD) (k : Int) = some (shD p) := by
      rw [DL.atI_nat (by simpa using hk)]; simp [hpe]
    have hp : ShP p := hpe ▸ hL _ (List.getElem_mem hk)
    have hsl : ∀ d ∈ L.map shD, ShOk d := fun d hd => by
      obtain ⟨p, hp, rfl⟩ := List.mem_map.mp hd
      exact sh_of (hL p hp)
    obtain ⟨xs, m⟩ := p
    obtain ⟨hp1, hp2, hp3⟩ := hp
    dsimp only at hp1 hp2 hp3
    have hb : big = 10000000000000000000000000000 := rfl
    obtain ⟨sm, hsm⟩ := str_D (m := m) (by omega)
    obtain ⟨X, F, hX, hXm⟩ := pick_fn f2 t
    have hg : atI (L.map shD) (k : Int) = some (.tup [.tup (xs.map .str), .int m]) := hg
    have hsn : ShOk (.tup [.tup (xs.map .str), .int m]) := sh_str (by omega)
    have hsx := shps_strs 20 xs
    have hxl : (xs.map D.str).length = xs.length := by simp
    have hne : (L.map shD).isEmpty = false := by simp [qe]
    rw [hne] at ceq
    have hll : (L.map shD).length = L.length := by simp
    have c1 := cutL_len (L.map shD) none (some (k : Int))
    have c2 := cutL_len (L.map shD) (some ((k : Int) + 1)) none
    have m1 : ∀ d ∈ cutL (L.map shD) none (some (k : Int)), ShOk d := fun d hd => hsl d (mem_cutL hd)
    have m2 : ∀ d ∈ cutL (L.map shD) (some ((k : Int) + 1)) none, ShOk d := fun d hd => hsl d (mem_cutL hd)
    have x1 := cutL_len (xs.map D.str) none (some 1)
    have x2 := cutL_len (xs.map D.str) (some 1) none
    have y1 := shps_cut hsx none (some 1)
    have y2 := shps_cut hsx (some 1) none
    have y3 : shps 20 (xs.map D.str).reverse = true := by rw [← List.map_reverse]; exact shps_strs _ _
    generalize L.map shD = LD at *
    generalize xs.map D.str = XD at *
    generalize hA1 : cutL LD none (some (k : Int)) = A1 at *
    generalize hA2 : cutL LD (some ((k : Int) + 1)) none = A2 at *
    generalize hB1 : cutL XD none (some 1) = B1 at *
    generalize hB2 : cutL XD (some 1) none = B2 at *
    have z1 : binD .Add (.tup XD) (.tup B1) = some (.tup (XD ++ B1)) := add_tt (by omega)
    have z2 : binD .Add (.tup XD) (.tup [.str "nowhere"]) = some (.tup (XD ++ [.str "nowhere"])) := add_tt (by simp; omega)
    have z3 : binD .Add (.tup B2) (.tup B1) = some (.tup (B2 ++ B1)) := add_tt (by omega)
    have z4 : binD .Add (.tup A1) (.tup A2) = some (.tup (A1 ++ A2)) := add_tt (by omega)
    have z5 : ∀ x, binD .Add (.tup LD) (.tup [x]) = some (.tup (LD ++ [x])) := fun x => add_tt (by simp; omega)
    have z6 : ∀ x, binD .Add (.tup A1) (.tup [x]) = some (.tup (A1 ++ [x])) := fun x => add_tt (by simp; omega)
    have z7 : ∀ x, binD .Add (.tup (A1 ++ [x])) (.tup A2) = some (.tup (A1 ++ [x] ++ A2)) := fun x => add_tt (by simp; omega)
    have z8 : ∀ xs ys : List D, xs.length ≤ 100 → ys.length ≤ 100 → binD .Add (.lst xs) (.lst ys) = some (.lst (xs ++ ys)) := fun xs ys h h2 => add_ll (by omega)
    by_cases q12 : w < 12
    · obtain ⟨z, hz⟩ : ∃ z, z = e_law_bent [.c 0, .d (.tup LD)] (f.cell :: t) := ⟨_, rfl⟩
      have hz' := hz
      simp [e_law_bent, DL.run, c_law_bent, e1, q3, q12, ceq, hX, hll, e2, hg, hsm, hA1, hA2, hB1, hB2, z1, z2, z3, z6, z7, z8] at hz
      refine ⟨_, _, hz'.symm.trans hz, vok_tup ?_ fun d hd => ?_⟩
      · simp; omega
      · rcases List.mem_append.mp hd with hd | hd
        · exact m1 d hd
        · rcases List.mem_cons.mp hd with hd | hd
          · have hx := hXm _ (List.cons_ne_nil _ _) (by simp) |> fun h => (hd ▸ h : d ∈ _)
            simp only [List.mem_cons, List.not_mem_nil, or_false] at hx
            rcases hx with rfl | rfl | rfl | rfl | rfl | rfl | rfl | rfl | rfl | rfl | rfl | rfl | rfl | rfl
            · exact sh_strs (by omega) hsx
            · exact sh_strs (by omega) hsx
            · exact sh_strs (by simp; omega) y3
            · exact sh_strs (by simp; omega) (shps_app hsx y1)
            · exact sh_strs (by omega) y1
            · exact sh_strs (by simp; omega) (shps_app hsx (by simp))
            · exact sh_not (by simp)
            · exact sh_not (by simp)
            · exact sh_strs (by omega) hsx
            · exact sh_strs (by omega) hsx
            · exact sh_not (by simp)
            · exact sh_strs (by simp; omega) (shps_app y2 y1)
            · exact sh_strs (by omega) hsx
            · exact sh_strs (by omega) hsx
          · exact m2 d hd
    · obtain ⟨z, hz⟩ : ∃ z, z = e_law_bent [.c 0, .d (.tup LD)] (f.cell :: t) := ⟨_, rfl⟩
      have hz' := hz
      simp [e_law_bent, DL.run, c_law_bent, e1, q3, q12, ceq, hX, hll, e2, hg, hsm, hA1, hA2, hB1, hB2, z1, z2, z3, z4, z5, z6, z7, z8] at hz
      refine ⟨_, _, hz'.symm.trans hz, ?_⟩
      have hx := hXm [D.tup (A1 ++ A2), D.tup (LD ++ [D.tup [D.tup XD, D.int m]]), D.lst LD, D.tup (LD ++ [D.tup []]), D.non, D.tup LD.reverse] (by simp) (by simp)
      generalize X _ = x at hx ⊢
      simp only [List.mem_cons, List.not_mem_nil, or_false] at hx
      rcases hx with rfl | rfl | rfl | rfl | rfl | rfl
      · exact vok_tup (by simp; omega) fun d hd => (List.mem_append.mp hd).elim (m1 d) (m2 d)
      · exact vok_tup (by simp; omega) fun d hd => (List.mem_append.mp hd).elim (hsl d) fun h => by simp at h; subst h; exact hsn
      · exact vok_not (by simp)
      · exact vok_tup (by simp; omega) fun d hd => (List.mem_append.mp hd).elim (hsl d) fun h => by simp at h; subst h; exact sh_not (by simp)
      · exact vok_not (by simp)
      · exact vok_tup (by simp; omega) fun d hd => hsl d (by simpa using hd)
theorem v_law_flow (ns : List Int) (k : Nat) (hl : ns.length ≤ 63) (s : S) : ∃ f : Fl, e_law_flow [.d (.lst (ns.map .int)), .d (.int (k : Int))] s = some (.d (.lst [.int f.a, .int f.b, .int f.c]), s) := by
  have hit : ∀ xs : List Int, ∀ b j, ∃ b' j', forL (turn g_law_flow fl s.length (.nm 3) b_law_flow_1) (xs.map .int) [some (.d (.lst (ns.map .int))), some (.d (.int (k : Int))), some (.d (.int b)), jd j, none] s = some (.nx, [some (.d (.lst (ns.map .int))), some (.d (.int (k : Int))), some (.d (.int b')), jd j', none], s) := by
    intro xs
    induction xs with
    | nil => intro b j; exact ⟨b, j, rfl⟩
    | cons x xs ih =>
      intro b j
      obtain ⟨b', j', e⟩ := ih ((b * 39373 + x % 2147483549 + 29) % 2147483587) (some (.int x))
      refine ⟨b', j', ?_⟩
      have mk := mul_r (i := b) (j := 39373) (by omega) (by omega)
      have e1 : turn g_law_flow fl s.length (.nm 3) b_law_flow_1 (.int x) [some (.d (.lst (ns.map .int))), some (.d (.int (k : Int))), some (.d (.int b)), jd j, none] s = some (.nx, [some (.d (.lst (ns.map .int))), some (.d (.int (k : Int))), some (.d (.int ((b * 39373 + x % 2147483549 + 29) % 2147483587))), jd (some (.int x)), none], s) := by
        simp [turn, b_law_flow_1, b_mul mk, b_mod, jd_some]
      rw [List.map_cons]
      unfold forL
      rw [e1]
      exact e
  have hc : cutL (ns.map D.int) none (some 63) = ns.map D.int := by
    have := cutL_take (ns.map D.int) 63
    rw [List.take_of_length_le (by simpa using hl)] at this
    exact this
  obtain ⟨b', j', e⟩ := hit ns (15485863 + 31 * (k : Int)) none
  have mk := mul_l (i := 31) (j := (k : Int)) (by omega) (by omega)
  have p18 : binD .Pow (.int 10) (.int 18) = some (.int 1000000000000000000) := rfl
  have jn : jd none = none := rfl
  rw [jn] at e
  have hll : (ns.map D.int).length = ns.length := by simp
  by_cases hk : k < ns.length
  · have hg : atI (ns.map D.int) (k : Int) = some (.int ns[k]) := by
      rw [DL.atI_nat (by simpa using hk)]; simp
    generalize ns[k] = x at hg
    have hk' : (k : Int) < ns.length := by omega
    generalize ns.map D.int = ND at *
    by_cases hx : x < 0
    · refine ⟨⟨-x, b', 0, by omega⟩, ?_⟩
      simp [e_law_flow, DL.runF, c_law_flow, b_mul mk, hc, e, hll, hk', hk, hg, p18, hx]
    · by_cases hx2 : x ≥ 1000000000000000000
      · refine ⟨⟨x, b', 0, by omega⟩, ?_⟩
        simp [e_law_flow, DL.runF, c_law_flow, b_mul mk, hc, e, hll, hk', hk, hg, p18, hx, hx2]
      · refine ⟨⟨0, b', 0, by omega⟩, ?_⟩
        simp [e_law_flow, DL.runF, c_law_flow, b_mul mk, hc, e, hll, hk', hk, hg, p18, hx, hx2]
  · have hk' : ¬ (k : Int) < ns.length := by omega
    refine ⟨⟨0, b', 0, by omega⟩, ?_⟩
    generalize ns.map D.int = ND at *
    simp [e_law_flow, DL.runF, c_law_flow, b_mul mk, hc, e, hll, hk', hk]
end SD

set_option Elab.async false
set_option linter.all false
set_option autoImplicit false
set_option maxRecDepth 100000
set_option maxHeartbeats 4000000
namespace SD
open PySem L2 DL
theorem mem_spans {n : Nat} {p : Nat × Nat} (h : p ∈ spansN n) : p.1 < p.2 ∧ p.2 < n := by
  unfold spansN at h
  obtain ⟨i, hi, h⟩ := List.mem_flatMap.mp h
  obtain ⟨j, hj, rfl⟩ := List.mem_map.mp h
  obtain ⟨k, hk, e⟩ := List.mem_drop_iff_getElem.mp hj
  simp at hk e
  show i < j ∧ j < n
  omega
theorem rt_pair {pl : List Str} (hp : PlOk pl) {i j : Nat} (h : i < j) (h2 : j < pl.length) : RtOk pl [pl[i], pl[j]] := by
  refine ⟨by simp, by simp; have := hp.lo; omega, ?_, by simp⟩
  have := List.pairwise_iff_getElem.mp (List.nodup_iff_pairwise_ne.mp hp.nd) i j (by omega) h2 h
  simpa using this
theorem sum_le {B : Int} : ∀ {L : List (List Str × Int)}, (∀ p ∈ L, p.2 ≤ B) → (L.map (·.2)).sum ≤ L.length * B
  | [], _ => by simp
  | p :: L, h => by
    have h1 := h p List.mem_cons_self
    have h2 := sum_le fun q hq => h q (List.mem_cons_of_mem p hq)
    rw [List.map_cons, List.sum_cons, List.length_cons]
    have : ((L.length + 1 : Nat) : Int) * B = L.length * B + B := by rw [Int.natCast_add, Int.add_mul]; simp
    omega
theorem cut3 (a b c d : D) : cutL [a, b, c, d] none (some 3) = [a, b, c] := rfl
theorem nok_rev {n : Nat} {ns : List Int} (h : NOk n ns) : NOk n ns.reverse := ⟨by simpa using h.1, fun i hi => h.2 i (by simpa using hi)⟩
end SD

set_option Elab.async false
set_option linter.all false
set_option autoImplicit false
set_option maxRecDepth 100000
set_option maxHeartbeats 4000000
namespace SE
open PySem L2 DL SD
/-- all ascending rows of indexes -/
def rowsN : Nat → List (List Nat)
  | 2 => [[], [0], [1], [0, 1]]
  | 3 => [[], [0], [1], [2], [0, 1], [0, 2], [1, 2], [0, 1, 2]]
  | 4 => [[], [0], [1], [2], [3], [0, 1], [0, 2], [0, 3], [1, 2], [1, 3], [2, 3], [0, 1, 2], [0, 1, 3], [0, 2, 3], [1, 2, 3], [0, 1, 2, 3]]
  | 5 => [[], [0], [1], [2], [3], [4], [0, 1], [0, 2], [0, 3], [0, 4], [1, 2], [1, 3], [1, 4], [2, 3], [2, 4], [3, 4], [0, 1, 2], [0, 1, 3], [0, 1, 4], [0, 2, 3], [0, 2, 4], [0, 3, 4], [1, 2, 3], [1, 2, 4], [1, 3, 4], [2, 3, 4], [0, 1, 2, 3], [0, 1, 2, 4], [0, 1, 3, 4], [0, 2, 3, 4], [1, 2, 3, 4], [0, 1, 2, 3, 4]]
  | _ => []
/-- the bounds: is it one of two, its row -/
def bndN : Nat → List (Bool × List Nat)
  | 2 => [(false, [0])]
  | 3 => [(false, [0]), (false, [0, 1]), (false, [0, 2])]
  | 4 => [(false, [0]), (false, [0, 1]), (false, [0, 2]), (false, [0, 3]), (false, [0, 1, 2]), (false, [0, 1, 3]), (false, [0, 2, 3])]
  | 5 => [(false, [0]), (false, [0, 1]), (false, [0, 2]), (false, [0, 3]), (false, [0, 4]), (false, [0, 1, 2]), (false, [0, 1, 3]), (false, [0, 1, 4]), (false, [0, 2, 3]), (false, [0, 2, 4]), (false, [0, 3, 4]), (false, [0, 1, 2, 3]), (false, [0, 1, 2, 4]), (false, [0, 1, 3, 4]), (false, [0, 2, 3, 4]), (true, [0, 1]), (true, [0, 2]), (true, [0, 3]), (true, [0, 4]), (true, [1, 2]), (true, [1, 3]), (true, [1, 4]), (true, [2, 3]), (true, [2, 4]), (true, [3, 4])]
  | _ => []
def rD (r : List Nat) : D := .lst (r.map fun i : Nat => D.int (i : Int))
def wS (t : Bool) : Str := cond t "two" "part"
def bD (b : Bool × List Nat) : D := .tup [.str (wS b.1), rD b.2]
theorem v_rows_below {n : Nat} (h0 : 2 ≤ n) (h1 : n ≤ 5) (s : S) : e_rows_below [.d (.int n)] s = some (.d (.lst ((rowsN n).map rD)), s) := by
  have e : ∀ a, ((ex g_rows_below fl s.length c_rows_below [some (.d (.int n)), none, none, none] s).map (fun p => (p.1, p.2.2)) = some (.rt (.d a), s)) → e_rows_below [.d (.int n)] s = some (.d a, s) := fun a e => by
    obtain ⟨p, h1, h2⟩ := Option.map_eq_some_iff.mp e
    obtain ⟨o, d', s'⟩ := p
    cases h2
    simp [e_rows_below, DL.run, h1]
  have h : n = 2 ∨ n = 3 ∨ n = 4 ∨ n = 5 := by omega
  rcases h with rfl | rfl | rfl | rfl
  · exact e _ (by kernel_rfl)
  · exact e _ (by kernel_rfl)
  · exact e _ (by kernel_rfl)
  · exact e _ (by kernel_rfl)
theorem v_law_rows {n : Nat} (h0 : 2 ≤ n) (h1 : n ≤ 5) (s : S) : e_law_rows [.d (.int n)] s = some (.d (.lst ((bndN n).map bD)), s) := by
  have e : ∀ a, ((ex g_law_rows fl s.length c_law_rows [some (.d (.int n)), none, none, none, none, none] s).map (fun p => (p.1, p.2.2)) = some (.rt (.d a), s)) → e_law_rows [.d (.int n)] s = some (.d a, s) := fun a e => by
    obtain ⟨p, h1, h2⟩ := Option.map_eq_some_iff.mp e
    obtain ⟨o, d', s'⟩ := p
    cases h2
    simp [e_law_rows, DL.run, h1]
  have h : n = 2 ∨ n = 3 ∨ n = 4 ∨ n = 5 := by omega
  rcases h with rfl | rfl | rfl | rfl
  · exact e _ (by kernel_rfl)
  · exact e _ (by kernel_rfl)
  · exact e _ (by kernel_rfl)
  · exact e _ (by kernel_rfl)
def partN (n : Nat) : List (Bool × List Nat) := (bndN n).filter fun b => !b.1
def twoN (n : Nat) : List (Bool × List Nat) := (bndN n).filter fun b => b.1
theorem v_indexed_bounds {n : Nat} (h0 : 2 ≤ n) (h1 : n ≤ 5) (s : S) : e_indexed_bounds [.d (.int n)] s = some (.d (.lst ((bndN n).map bD)), s) := by
  have hr := v_rows_below h0 h1
  have e : ((rowsN n).map rD).length ≤ 1000 ∧ (∀ a1 a2 st, compL (cturn g_indexed_bounds fl x_indexed_bounds_1 (.nm 3) y_indexed_bounds_2 [3] [some (.d (.int n)), a1, a2, none]) ((rowsN n).map rD) st = some ((partN n).map bD, st)) ∧
      (∀ a1 a2 st, compL (cturn g_indexed_bounds fl x_indexed_bounds_3 (.nm 3) y_indexed_bounds_4 [3] [some (.d (.int n)), a1, a2, none]) ((rowsN n).map rD) st = some ((twoN n).map bD, st)) ∧ binD .Add (.lst ((partN n).map bD)) (.lst ((twoN n).map bD)) = some (.lst ((bndN n).map bD)) := by
    have h : n = 2 ∨ n = 3 ∨ n = 4 ∨ n = 5 := by omega
    rcases h with rfl | rfl | rfl | rfl
    · exact ⟨by decide, fun _ _ _ => by kernel_rfl, fun _ _ _ => by kernel_rfl, by kernel_rfl⟩
    · exact ⟨by decide, fun _ _ _ => by kernel_rfl, fun _ _ _ => by kernel_rfl, by kernel_rfl⟩
    · exact ⟨by decide, fun _ _ _ => by kernel_rfl, fun _ _ _ => by kernel_rfl, by kernel_rfl⟩
    · exact ⟨by decide, fun _ _ _ => by kernel_rfl, fun _ _ _ => by kernel_rfl, by kernel_rfl⟩
  obtain ⟨e0, e1, e2, e3⟩ := e
  have sl : ¬ 1000000 < ((rowsN n).map rD).length := by omega
  generalize (rowsN n).map rD = RD at *
  generalize (partN n).map bD = PD at *
  generalize (twoN n).map bD = TD at *
  generalize (bndN n).map bD = BD at *
  simp [e_indexed_bounds, DL.run, c_indexed_bounds, hr, e1, e2, e3, sl]
def lenF (b : Bool × List Nat) (p : Nat × Nat) : Int := if (decide (p.1 ∈ b.2) != decide (p.2 ∈ b.2)) = true then 1 else if (b.1 && !decide (p.1 = p.2)) = true then 2 else 0
theorem wS_two (t : Bool) : (wS t == ("two" : Str)) = t := by cases t <;> decide +kernel
theorem v_length_of (b : Bool × List Nat) (i j : Nat) (s : S) : e_length_of [.d (bD b), .d (.int (i : Int)), .d (.int (j : Int))] s = some (.d (.int (lenF b (i, j))), s) := by
  have c1 := c_in_nats i b.2
  have c2 := c_in_nats j b.2
  have w := wS_two b.1
  unfold bD rD lenF
  generalize (b.2.map fun i : Nat => D.int (i : Int)) = L at *
  generalize decide (i ∈ b.2) = p at *
  generalize decide (j ∈ b.2) = q at *
  have ne : cmpD .NotEq (.int (i : Int)) (.int (j : Int)) = some (.bl (!((i : Int) == (j : Int)))) := rfl
  have nb : cmpD .NotEq (.bl p) (.bl q) = some (.bl (p != q)) := by cases p <;> cases q <;> rfl
  have ij : ((i : Int) == (j : Int)) = decide (i = j) := by
    by_cases h : i = j
    · subst h; simp
    · have : (i : Int) ≠ (j : Int) := by omega
      simp [h, this]
  obtain ⟨t, r⟩ := b
  dsimp only at *
  obtain ⟨m, hm⟩ : ∃ m, m = (p != q) := ⟨_, rfl⟩
  rw [← hm] at nb ⊢
  clear hm
  rw [ij] at ne
  clear ij
  generalize decide (i = j) = z at *
  cases m <;> cases t <;> cases z <;> simp [e_length_of, DL.run, c_length_of, c1, c2, nb, w, ne]
def lensI (n : Nat) (b : Bool × List Nat) : List Int := (spansN n).map (lenF b)
theorem v_lengths_of (n : Nat) (hn : n ≤ 5) (b : Bool × List Nat) (s : S) : e_lengths_of [.d (.tup (spansD n)), .d (bD b)] s = some (.d (.lst ((lensI n b).map .int)), s) := by
  have hv := v_length_of b
  have c : ∀ a0 a2 a3 st, compL (cturn g_lengths_of fl x_lengths_of_1 (.tp (.cons (.nm 2) (.cons (.nm 3) .nil))) .yes [2, 3] [a0, some (.d (bD b)), a2, a3]) (spansD n) st = some ((lensI n b).map .int, st) := by
    intros
    unfold spansD lensI
    rw [List.map_map]
    refine compL_maps (spansN n) _ fun x _ => ?_
    simp [cturn, pD2, x_lengths_of_1, hv]
  have sl : ¬ 1000000 < (spansD n).length := by
    have : n = 0 ∨ n = 1 ∨ n = 2 ∨ n = 3 ∨ n = 4 ∨ n = 5 := by omega
    rcases this with rfl | rfl | rfl | rfl | rfl | rfl <;> decide
  generalize spansD n = SP at *
  simp [e_lengths_of, DL.run, c_lengths_of, c, sl]
def nmS (pl : List Str) (r : List Nat) : List Str := r.map fun i => pl.getD i ""
def nmD (pl : List Str) (b : Bool × List Nat) : D := .tup [.str (wS b.1), tS (nmS pl b.2)]
theorem bnd_lt {n : Nat} {b : Bool × List Nat} (hb : b ∈ bndN n) : ∀ i ∈ b.2, i < n := by
  have h : n = 2 ∨ n = 3 ∨ n = 4 ∨ n = 5 ∨ bndN n = [] := by
    unfold bndN
    split <;> simp
  have g : ∀ m, ((bndN m).all fun b => b.2.all fun i => decide (i < m)) = true → b ∈ bndN m → ∀ i ∈ b.2, i < m := fun m h hb i hi => of_decide_eq_true (List.all_eq_true.mp (List.all_eq_true.mp h b hb) i hi)
  rcases h with rfl | rfl | rfl | rfl | h
  · exact g 2 (by decide) hb
  · exact g 3 (by decide) hb
  · exact g 4 (by decide) hb
  · exact g 5 (by decide) hb
  · rw [h] at hb; cases hb
theorem nm_turn {pl : List Str} {i : Nat} (h : i < pl.length) : atI (pl.map D.str) (i : Int) = some (.str (pl.getD i "")) := by
  rw [DL.atI_nat (by simpa using h)]
  simp [List.getD_eq_getElem?_getD, h]
theorem v_named {pl : List Str} {b : Bool × List Nat} (hb : ∀ i ∈ b.2, i < pl.length) (hl : b.2.length ≤ 5) (s : S) : e_named [.d (postsD pl), .d (bD b)] s = some (.d (nmD pl b), s) := by
  have hp := v_places pl
  have c : ∀ a1 a2 st, compL (cturn g_named fl x_named_1 (.nm 2) .yes [2] [some (.d (postsD pl)), a1, a2]) (b.2.map fun i : Nat => D.int (i : Int)) st = some ((nmS pl b.2).map .str, st) := by
    intros
    unfold nmS
    rw [List.map_map]
    refine compL_maps b.2 _ fun i hi => ?_
    have := nm_turn (hb i hi)
    unfold postsD tS at *
    simp [cturn, x_named_1, hp, this]
  have sl : ¬ 1000000 < (b.2.map fun i : Nat => D.int (i : Int)).length := by simp; omega
  unfold bD rD nmD tS
  unfold postsD at *
  generalize (b.2.map fun i : Nat => D.int (i : Int)) = L at *
  generalize (nmS pl b.2).map D.str = NL at *
  simp [e_named, DL.run, c_named, c, sl]
end SE

set_option Elab.async false
set_option linter.all false
set_option autoImplicit false
set_option maxRecDepth 100000
set_option maxHeartbeats 4000000
namespace SE
open PySem L2 DL SD
theorem bnd_len {n : Nat} {b : Bool × List Nat} (hb : b ∈ bndN n) : b.2.length ≤ 5 := by
  have h : n = 2 ∨ n = 3 ∨ n = 4 ∨ n = 5 ∨ bndN n = [] := by
    unfold bndN
    split <;> simp
  have g : ∀ m, ((bndN m).all fun b => decide (b.2.length ≤ 5)) = true → b ∈ bndN m → b.2.length ≤ 5 := fun m h hb => of_decide_eq_true (List.all_eq_true.mp h b hb)
  rcases h with rfl | rfl | rfl | rfl | h
  · exact g 2 (by decide) hb
  · exact g 3 (by decide) hb
  · exact g 4 (by decide) hb
  · exact g 5 (by decide) hb
  · rw [h] at hb; cases hb
theorem bnd_many (n : Nat) : (bndN n).length ≤ 25 := by
  unfold bndN
  split <;> simp
theorem span_ne {n : Nat} (hn : n ≤ 5) {p : Nat × Nat} (hp : p ∈ spansN n) : p.1 ≠ p.2 := by
  have g : ∀ m, ((spansN m).all fun p => decide (p.1 ≠ p.2)) = true → p ∈ spansN m → p.1 ≠ p.2 := fun m h hb => of_decide_eq_true (List.all_eq_true.mp h p hb)
  have : n = 0 ∨ n = 1 ∨ n = 2 ∨ n = 3 ∨ n = 4 ∨ n = 5 := by omega
  rcases this with rfl | rfl | rfl | rfl | rfl | rfl
  · exact g 0 (by decide) hp
  · exact g 1 (by decide) hp
  · exact g 2 (by decide) hp
  · exact g 3 (by decide) hp
  · exact g 4 (by decide) hp
  · exact g 5 (by decide) hp
theorem span_many {n : Nat} (hn : n ≤ 5) : (spansN n).length ≤ 10 := by
  have : n = 0 ∨ n = 1 ∨ n = 2 ∨ n = 3 ∨ n = 4 ∨ n = 5 := by omega
  rcases this with rfl | rfl | rfl | rfl | rfl | rfl <;> decide
theorem bi_sum (W : List Int) : biD .sum [.lst (W.map .int)] = some (.int W.sum) := by
  show (intsOf (W.map .int)).map _ = _
  rw [intsOf_map]; rfl
def Small (l : List Int) : Prop := ∀ y ∈ l, -3 < y ∧ y < 3
theorem mul_small {i j : Int} (h : -3 < j ∧ j < 3) : mulOk i j = true := by
  unfold mulOk
  rw [Bool.or_eq_true, Bool.or_eq_true]
  exact .inl (.inr (decide_eq_true (by omega)))
theorem mul_small2 {i j : Int} (h : -3 < i ∧ i < 3) : mulOk i j = true := by
  unfold mulOk
  rw [Bool.or_eq_true, Bool.or_eq_true]
  exact .inl (.inl (decide_eq_true (by omega)))
theorem lens_small (n : Nat) (b : Bool × List Nat) : Small (lensI n b) := by
  intro y hy
  obtain ⟨p, _, rfl⟩ := List.mem_map.mp hy
  unfold lenF
  split
  · omega
  · split <;> omega
theorem lim62 {n : Nat} (h : n ≤ 5) : 0 ≤ (n : Int) ∧ (n : Int) < 2 ^ 62 := by omega
def lenR (st : S) (f : DSem) (C : Nat) (xs : List D) : Option (D × S) := (fstOf st (f [.d (.ins C xs)] st)).bind fun r => match r.1 with
      | .int i => if 0 ≤ i ∧ i < 2 ^ 62 then some (.int i, r.2) else none
      | _ => none
theorem lenR_1 {st : S} {f : DSem} {C : Nat} {xs : List D} {n : Nat} (h : f [.d (.ins C xs)] st = some (.d (.int n), st)) (h5 : n ≤ 5) : lenR st f C xs = some (.int n, st) := by
  unfold lenR
  rw [h, fstOf_d, Option.bind_some]
  dsimp only
  rw [if_pos (lim62 h5)]
theorem ev_lenR {j : Nat} {g : List DSem} {fl : Nat → List Str} {δ : EnvR} {st : S} {f : DSem} {C : Nat} {xs : List D} (hg : g[j]? = some f) (h0 : atD δ 0 = some (.ins C xs)) : ev g fl (.lenO j (.var 0)) δ st = lenR st f C xs := by
  rw [ev_lenO, ev_var, h0, hg]
  rfl
def tbD (pl : List Str) (b : Bool × List Nat) : D := .tup [nmD pl b, .lst ((lensI pl.length b).map .int)]
theorem v_p_len (pl : List Str) (s : S) : e_p_len [.d (postsD pl)] s = some (.d (.int (pl.length : Nat)), s) := by
  simp [e_p_len, DL.run, c_p_len, postsD, tS]
theorem v_tables_of {pl : List Str} (hp : PlOk pl) (s : S) : e_tables_of [.d (postsD pl)] s = some (.d (.lst ((bndN pl.length).map (tbD pl))), s) := by
  have hb := v_indexed_bounds hp.lo hp.hi
  have hl := v_p_len pl
  have hs := v_spans pl
  have hlen : ∀ st a1 a2, ev g_tables_of fl (.lenO 1 (.var 0)) [some (.d (postsD pl)), a1, a2] st = some (.int (pl.length : Nat), st) := fun st a1 a2 => by
    unfold postsD at *
    rw [ev_lenR (f := e_p_len) rfl rfl]
    exact lenR_1 (hl st) hp.hi
  obtain ⟨δ', e, o, rfl⟩ := forL_app (s := s) (t := bD) (g := tbD pl) (f := turn g_tables_of fl s.length (.nm 2) b_tables_of_1)
    (fun δ => ∃ j2, δ = [some (.d (postsD pl)), some (.c s.length), jd j2]) (bndN pl.length) [] [some (.d (postsD pl)), some (.c s.length), none] ⟨none, rfl⟩ (by have := bnd_many pl.length; simp; omega) (by
      rintro b hm acc δ ⟨j2, rfl⟩ ha
      have h1 := v_named (pl := pl) (bnd_lt hm) (bnd_len hm)
      have h2 := v_lengths_of pl.length hp.hi b
      unfold tbD
      unfold postsD at *
      generalize bD b = B at *
      generalize nmD pl b = N at *
      generalize (lensI pl.length b).map D.int = LL at *
      refine ⟨_, ?_, some B, rfl⟩
      simp [turn, b_tables_of_1, h1, h2, hs, ha, jd])
  rw [List.nil_append] at e
  unfold postsD at *
  generalize (bndN pl.length).map (tbD pl) = TB at *
  generalize (bndN pl.length).map bD = BB at *
  simp -implicitDefEqProofs [-ev_lenO, e_tables_of, DL.run, c_tables_of, hlen, hb, e, soleC_eq]
def sumA (l r : List Int) : Int := ((r.zip l).map fun p => p.1 * p.2).sum
theorem v_sum_along {l : List Int} (hs : Small l) (r : List Int) (h : r.length ≤ 1000) (s : S) : e_sum_along [.d (.lst (l.map .int)), .d (tI r)] s = some (.d (.int (sumA l r)), s) := by
  have z : zipD (r.map D.int) (l.map D.int) = (r.zip l).map fun p => .tup [D.int p.1, D.int p.2] := zipD_map D.int D.int r l
  have c : ∀ a0 a1 a2 a3 st, compL (cturn g_sum_along fl x_sum_along_1 (.tp (.cons (.nm 2) (.cons (.nm 3) .nil))) .yes [2, 3] [a0, a1, a2, a3]) (zipD (r.map D.int) (l.map D.int)) st = some ((((r.zip l).map fun p => p.1 * p.2)).map .int, st) := by
    intros
    rw [z, List.map_map]
    refine compL_maps (r.zip l) _ fun p hp => ?_
    simp [cturn, x_sum_along_1, b_mul (mul_small (hs _ (List.of_mem_zip hp).2))]
  have sl : ¬ 1000000 < (zipD (r.map D.int) (l.map D.int)).length := by rw [z]; simp; omega
  have hi := bi_sum ((r.zip l).map fun p => p.1 * p.2)
  unfold sumA
  unfold tI
  generalize ((r.zip l).map fun p => p.1 * p.2) = W at *
  clear z
  generalize r.map D.int = RD at *
  generalize l.map D.int = LD at *
  simp [e_sum_along, DL.run, c_sum_along, c, sl, hi]
theorem v_slack_of {l : List Int} (hs : Small l) (r q : List Int) (h : r.length ≤ 1000) (h2 : q.length ≤ 1000) (s : S) : e_slack_of [.d (.lst (l.map .int)), .d (tI r), .d (tI q)] s = some (.d (.int (sumA l r - sumA l q)), s) := by
  have h1 := v_sum_along hs r h
  have h2 := v_sum_along hs q h2
  unfold tI at *
  simp [e_slack_of, DL.run, c_slack_of, h1, h2]
theorem v_law_lengths {n : Nat} (h0 : 2 ≤ n) (h1 : n ≤ 5) (b : Bool × List Nat) (s : S) : e_law_lengths [.d (.int n), .d (bD b)] s = some (.d (.lst ((lensI n b).map .int)), s) := by
  have hs := v_law_spans h0 h1
  have w := wS_two b.1
  obtain ⟨δ', e, o5, o6, o7, rfl⟩ := forL_app (s := s) (t := pD2) (g := fun p => D.int (lenF b p)) (f := turn g_law_lengths fl s.length (.tp (.cons (.nm 5) (.cons (.nm 6) .nil))) b_law_lengths_1)
    (fun δ => ∃ o5 o6 o7, δ = [some (.d (.int n)), some (.d (bD b)), some (.c s.length), some (.d (.str (wS b.1))), some (.d (rD b.2)), jd o5, jd o6, jd o7]) (spansN n) [] [some (.d (.int n)), some (.d (bD b)), some (.c s.length), some (.d (.str (wS b.1))), some (.d (rD b.2)), none, none, none] ⟨none, none, none, rfl⟩ (by have := span_many h1; simp; omega) (by
      rintro p hm acc δ ⟨o5, o6, o7, rfl⟩ ha
      have hne := span_ne h1 hm
      obtain ⟨i, j⟩ := p
      dsimp only at hne
      have c1 := c_in_nats i b.2
      have c2 := c_in_nats j b.2
      unfold lenF rD
      dsimp only
      rw [show decide (i = j) = false from decide_eq_false hne]
      generalize bD b = B at *
      generalize (b.2.map fun i : Nat => D.int (i : Int)) = L at *
      generalize decide (i ∈ b.2) = p at *
      generalize decide (j ∈ b.2) = q at *
      have nb : cmpD .NotEq (.bl p) (.bl q) = some (.bl (p != q)) := by cases p <;> cases q <;> rfl
      obtain ⟨m, hm⟩ : ∃ m, m = (p != q) := ⟨_, rfl⟩
      rw [← hm] at nb ⊢
      clear hm hne
      generalize wS b.1 = W at *
      generalize b.1 = t at *
      refine ⟨_, ?_, some (.int i), some (.int j), some (.bl m), rfl⟩
      cases m <;> cases t <;> simp [turn, pD2, b_law_lengths_1, c1, c2, nb, w, ha, jd])
  rw [List.nil_append] at e
  have e2 : (spansN n).map (fun p => D.int (lenF b p)) = (lensI n b).map .int := by unfold lensI; rw [List.map_map]; rfl
  have e3 : (spansN n).map pD2 = spansD n := rfl
  rw [e2, e3] at e
  unfold bD at *
  generalize (lensI n b).map D.int = LL at *
  generalize spansD n = SP at *
  generalize rD b.2 = RR at *
  generalize wS b.1 = W at *
  simp [e_law_lengths, DL.run, c_law_lengths, hs, e, soleC_eq]
def overN (l r q : List Int) : Int := ((l.zip (r.zip q)).map fun p => p.1 * (p.2.1 - p.2.2)).sum
theorem zip3D_map : ∀ (l r q : List Int), zip3D (l.map D.int) (r.map D.int) (q.map D.int) = (l.zip (r.zip q)).map fun p => .tup [D.int p.1, D.int p.2.1, D.int p.2.2]
  | [], _, _ => by simp [zip3D]
  | _ :: _, [], _ => by simp [zip3D]
  | _ :: _, _ :: _, [] => by simp [zip3D]
  | x :: l, y :: r, z :: q => by
    have := zip3D_map l r q
    simp only [List.map_cons, zip3D, List.zip_cons_cons, this]
theorem over_eq : ∀ (l r q : List Int), r.length = q.length → overN l r q = sumA l r - sumA l q
  | [], r, q, _ => by simp [overN, sumA]
  | _ :: _, [], q, h => by
    have : q = [] := List.eq_nil_of_length_eq_zero (by simpa using h.symm)
    subst this
    simp [overN, sumA]
  | x :: l, y :: r, [], h => by simp at h
  | x :: l, y :: r, z :: q, h => by
    have ih := over_eq l r q (by simpa using h)
    unfold overN sumA at *
    have e : x * (y - z) = y * x - z * x := by rw [Int.mul_sub, Int.mul_comm x y, Int.mul_comm x z]
    simp only [List.zip_cons_cons, List.map_cons, List.sum_cons, ih, e]
    omega
theorem v_law_over {n : Nat} (h0 : 2 ≤ n) (h1 : n ≤ 5) (b : Bool × List Nat) (r q : List Int) (hr : r.length ≤ 1000) (s : S) : e_law_over [.d (.int n), .d (bD b), .d (tI r), .d (tI q)] s = some (.d (.int (overN (lensI n b) r q)), s) := by
  have hs := v_law_lengths h0 h1 b
  have z := zip3D_map (lensI n b) r q
  have c : ∀ a0 a1 a2 a3 a4 a5 a6 a7 st, compL (cturn g_law_over fl x_law_over_1 (.tp (.cons (.nm 5) (.cons (.nm 6) (.cons (.nm 7) .nil)))) .yes [5, 6, 7] [a0, a1, a2, a3, a4, a5, a6, a7]) (zip3D ((lensI n b).map D.int) (r.map D.int) (q.map D.int)) st = some ((((lensI n b).zip (r.zip q)).map fun p => p.1 * (p.2.1 - p.2.2)).map .int, st) := by
    intros
    rw [z, List.map_map]
    refine compL_maps ((lensI n b).zip (r.zip q)) _ fun p hp => ?_
    simp [cturn, x_law_over_1, b_mul (mul_small2 (lens_small n b _ (List.of_mem_zip hp).1))]
  have sl : ¬ 1000000 < (zip3D ((lensI n b).map D.int) (r.map D.int) (q.map D.int)).length := by rw [z]; simp; omega
  have hi := bi_sum (((lensI n b).zip (r.zip q)).map fun p => p.1 * (p.2.1 - p.2.2))
  unfold overN
  unfold tI
  generalize bD b = B at *
  generalize (((lensI n b).zip (r.zip q)).map fun p => p.1 * (p.2.1 - p.2.2)) = W at *
  generalize (lensI n b).map D.int = LL at *
  clear z
  generalize r.map D.int = RD at *
  generalize q.map D.int = QD at *
  simp [e_law_over, DL.run, c_law_over, hs, c, sl, hi]
end SE

set_option Elab.async false
set_option linter.all false
set_option autoImplicit false
set_option maxRecDepth 100000
set_option maxHeartbeats 4000000
namespace SE
open PySem L2 DL SD
theorem compL_filt {α : Type} {f : D → S → Option (Option D × S)} {t : α → D} {g : α → D} {p : α → Bool} (xs : List α) (s : S) (h : ∀ x ∈ xs, f (t x) s = some (if p x = true then some (g x) else none, s)) : compL f (xs.map t) s = some ((xs.filter p).map g, s) := by
  induction xs with
  | nil => rfl
  | cons x xs ih =>
    unfold compL
    rw [List.map_cons]
    simp only [h x List.mem_cons_self, Option.bind_some, ih fun y hy => h y (List.mem_cons_of_mem _ hy)]
    cases e : p x <;> simp [e, List.filter_cons]
/-- the bound that a value is -/
def fnd (pl : List Str) (v : D) : Option (Bool × List Nat) := (bndN pl.length).find? fun b => eqD (nmD pl b) v
theorem eqD_tn {x : List D} {v : D} (h : ∀ c, v ≠ .tup c) : eqD (.tup x) v = false := by
  cases v <;> first | exact absurd rfl (h _) | simp [eqD]
theorem eq_shape {pl : List Str} {b : Bool × List Nat} {v : D} (h : eqD (nmD pl b) v = true) : ∃ a c, v = .tup [a, .tup c] := by
  unfold nmD tS at h
  by_cases hv : ∃ c, v = .tup c
  · obtain ⟨xs, rfl⟩ := hv
    rw [eqD_tt] at h
    match xs, h with
    | [], h => simp at h
    | [a], h => simp at h
    | _ :: _ :: _ :: _, h => simp at h
    | [a, w], h =>
      rw [eqDs_cc, eqDs_cc, eqDs_nn, Bool.and_true, Bool.and_eq_true] at h
      by_cases hw : ∃ c, w = .tup c
      · obtain ⟨c, rfl⟩ := hw
        exact ⟨a, c, rfl⟩
      · rw [eqD_tn fun c e => hw ⟨c, e⟩] at h
        exact absurd h.2 Bool.false_ne_true
  · rw [eqD_tn fun c e => hv ⟨c, e⟩] at h
    exact absurd h Bool.false_ne_true
theorem fnd_shape {pl : List Str} {v : D} (h : ¬ ∃ a c, v = .tup [a, .tup c]) : fnd pl v = none := by
  unfold fnd
  rw [List.find?_eq_none]
  exact fun b _ e => h (eq_shape e)
theorem inD_fnd {pl : List Str} {v : D} : inD v ((bndN pl.length).map (nmD pl)) = (fnd pl v).isSome := by
  unfold fnd
  induction bndN pl.length with
  | nil => rfl
  | cons b bs ih =>
    rw [List.map_cons, inD, List.find?_cons, ih]
    cases e : eqD (nmD pl b) v <;> simp
theorem shp_nmD (n : Nat) (pl : List Str) (b : Bool × List Nat) : shp (n + 2) (nmD pl b) = true := by
  unfold nmD tS
  rw [shp_tp]
  simp [shps_all, List.all_cons, shp]
theorem shps_bnd (pl : List Str) (bs : List (Bool × List Nat)) : shps 20 (bs.map (nmD pl)) = true := by
  rw [shps_all, List.all_map]
  exact List.all_eq_true.mpr fun b _ => shp_nmD 18 pl b
theorem c_in_bnd {pl : List Str} {v : D} (e : shp 20 v = true) (hs : ∀ x, v ≠ .str x) : cmpD .In v (.lst ((bndN pl.length).map (nmD pl))) = some (.bl (fnd pl v).isSome) := by
  have : cmpD .In v (.lst ((bndN pl.length).map (nmD pl))) = if shp 20 v && shps 20 ((bndN pl.length).map (nmD pl)) then some (.bl (inD v ((bndN pl.length).map (nmD pl)))) else none := by
    cases v <;> first | rfl | exact absurd rfl (hs _)
  rw [this, e, shps_bnd, inD_fnd]
  rfl
theorem v_is_known {pl : List Str} (hp : PlOk pl) {v : D} (hv : shp 20 v = true) (s : S) : e_is_known [.d (postsD pl), .d v] s = some (.d (.bl (fnd pl v).isSome), s) := by
  have ht := v_tables_of hp
  by_cases hq : ∃ a c, v = .tup [a, .tup c]
  · obtain ⟨a, c, rfl⟩ := hq
    have hin := c_in_bnd (pl := pl) hv (fun _ e => nomatch e)
    have cc : ∀ a0 a1 a2 a3 st, compL (cturn g_is_known fl (.var 2) (.tp (.cons (.nm 2) (.cons (.nm 3) .nil))) .yes [2, 3] [a0, a1, a2, a3]) ((bndN pl.length).map (tbD pl)) st = some ((bndN pl.length).map (nmD pl), st) := by
      intros
      refine compL_maps (bndN pl.length) _ fun b _ => ?_
      simp [cturn, tbD]
    have sl : ¬ 1000000 < ((bndN pl.length).map (tbD pl)).length := by have := bnd_many pl.length; simp; omega
    unfold postsD at *
    generalize (fnd pl (.tup [a, .tup c])).isSome = r at *
    generalize (bndN pl.length).map (nmD pl) = NB at *
    generalize (bndN pl.length).map (tbD pl) = TB at *
    simp -implicitDefEqProofs [e_is_known, DL.run, c_is_known, isiD, ht, cc, sl, hin]
  · rw [fnd_shape hq]
    cases v with
    | tup xs =>
      match xs, hq with
      | [], _ => simp -implicitDefEqProofs [e_is_known, DL.run, c_is_known, isiD]
      | [a], _ => simp -implicitDefEqProofs [e_is_known, DL.run, c_is_known, isiD]
      | a :: b :: c :: r, _ =>
        have : ((r.length : Int) + 1 + 1 + 1 == 2) = false := by
          simp; omega
        simp -implicitDefEqProofs [e_is_known, DL.run, c_is_known, isiD, this]
      | [a, b], hq =>
        have hb : isiD .tuple b = false := by
          cases b <;> first | rfl | exact absurd ⟨_, _, rfl⟩ hq
        have hd : isiD .tuple (.tup [a, b]) = true := rfl
        simp -implicitDefEqProofs [e_is_known, DL.run, c_is_known, hb, hd]
    | _ => simp -implicitDefEqProofs [e_is_known, DL.run, c_is_known, isiD]
theorem v_lengths_by_name {pl : List Str} (hp : PlOk pl) {v : D} (hv : shp 20 v = true) {b : Bool × List Nat} (hb : fnd pl v = some b) (s : S) : e_lengths_by_name [.d (postsD pl), .d v] s = some (.d (.lst ((lensI pl.length b).map .int)), s) := by
  have ht := v_tables_of hp
  have cc : ∀ a0 a2 a3 st, compL (cturn g_lengths_by_name fl (.var 3) (.tp (.cons (.nm 2) (.cons (.nm 3) .nil))) y_lengths_by_name_1 [2, 3] [a0, some (.d v), a2, a3]) ((bndN pl.length).map (tbD pl)) st = some (((bndN pl.length).filter fun b => eqD (nmD pl b) v).map fun b => .lst ((lensI pl.length b).map .int), st) := by
    intros
    refine compL_filt (bndN pl.length) _ fun b _ => ?_
    have e : cmpD .Eq (nmD pl b) v = some (.bl (eqD (nmD pl b) v)) := by
      show (if shp 20 (nmD pl b) && shp 20 v then some (D.bl (eqD (nmD pl b) v)) else none) = _
      rw [shp_nmD 18, hv]
      rfl
    generalize hN : nmD pl b = N at *
    generalize hE : eqD N v = q at *
    cases q <;> simp [cturn, tbD, y_lengths_by_name_1, hN, e]
  have hh : ∃ r, ((bndN pl.length).filter fun b => eqD (nmD pl b) v) = b :: r := by
    unfold fnd at hb
    rw [← List.head?_filter] at hb
    cases e : (bndN pl.length).filter fun b => eqD (nmD pl b) v with
    | nil => rw [e] at hb; cases hb
    | cons x r =>
      rw [e] at hb
      cases hb
      exact ⟨r, rfl⟩
  obtain ⟨r, hr⟩ := hh
  rw [hr] at cc
  have sl : ¬ 1000000 < ((bndN pl.length).map (tbD pl)).length := by have := bnd_many pl.length; simp; omega
  unfold postsD at *
  rw [List.map_cons] at cc
  generalize (bndN pl.length).map (tbD pl) = TB at *
  generalize (lensI pl.length b).map D.int = LL at *
  simp -implicitDefEqProofs [e_lengths_by_name, DL.run, c_lengths_by_name, ht, cc, sl]
/-- is the value a bound that is broken? -/
def isBrk (pl : List Str) (r q : List Int) (v : D) : Bool := match fnd pl v with
  | some b => decide (sumA (lensI pl.length b) r - sumA (lensI pl.length b) q < 0)
  | none => false
theorem v_is_broken {pl : List Str} (hp : PlOk pl) {r q : List Int} (hr : r.length ≤ 1000) (hq : q.length ≤ 1000) {v : D} (hv : shp 20 v = true) (s : S) : e_is_broken [.d (postsD pl), .d (tI r), .d (tI q), .d v] s = some (.d (.bl (isBrk pl r q v)), s) := by
  have h1 := v_is_known hp hv
  unfold isBrk
  cases hb : fnd pl v with
  | none =>
    rw [hb] at h1
    unfold postsD tI at *
    simp at h1
    simp -implicitDefEqProofs [e_is_broken, DL.run, c_is_broken, h1]
  | some b =>
    rw [hb] at h1
    have h2 := v_lengths_by_name hp hv hb
    have h3 := v_slack_of (lens_small pl.length b) r q hr hq
    unfold postsD tI at *
    generalize (lensI pl.length b).map D.int = LL at *
    simp at h1
    simp -implicitDefEqProofs [e_is_broken, DL.run, c_is_broken, h1, h2, h3]
end SE

set_option Elab.async false
set_option linter.all false
set_option autoImplicit false
set_option maxRecDepth 100000
set_option maxHeartbeats 4000000
namespace SE
open PySem L2 DL SD
theorem v_law_bounds {pl : List Str} (hp : PlOk pl) (s : S) : e_law_bounds [.d (tS pl)] s = some (.d (.lst ((bndN pl.length).map (nmD pl))), s) := by
  have hr := v_law_rows hp.lo hp.hi
  have cc : ∀ a1 a2 a3 st, compL (cturn g_law_bounds fl x_law_bounds_2 (.tp (.cons (.nm 1) (.cons (.nm 2) .nil))) .yes [1, 2] [some (.d (tS pl)), a1, a2, a3]) ((bndN pl.length).map bD) st = some ((bndN pl.length).map (nmD pl), st) := by
    intros
    refine compL_maps (bndN pl.length) _ fun b hb => ?_
    have hl := bnd_lt hb
    have h5 := bnd_len hb
    have c1 : ∀ a1 a2 a3 st, compL (cturn g_law_bounds fl x_law_bounds_1 (.nm 3) .yes [3] [some (.d (tS pl)), a1, a2, a3]) (b.2.map fun i : Nat => D.int (i : Int)) st = some ((nmS pl b.2).map .str, st) := by
      intros
      unfold nmS
      rw [List.map_map]
      refine compL_maps b.2 _ fun i hi => ?_
      have := nm_turn (hl i hi)
      unfold tS at *
      simp [cturn, x_law_bounds_1, this]
    have sl : ¬ 1000000 < (b.2.map fun i : Nat => D.int (i : Int)).length := by simp; omega
    unfold bD rD nmD tS at *
    generalize (b.2.map fun i : Nat => D.int (i : Int)) = L at *
    generalize (nmS pl b.2).map D.str = NL at *
    generalize pl.map D.str = PD at *
    simp -implicitDefEqProofs [cturn, x_law_bounds_2, c1, sl]
  have sl : ¬ 1000000 < ((bndN pl.length).map bD).length := by have := bnd_many pl.length; simp; omega
  have hl : (pl.map D.str).length = pl.length := by simp
  unfold tS at *
  generalize (bndN pl.length).map bD = BB at *
  generalize (bndN pl.length).map (nmD pl) = NB at *
  generalize pl.map D.str = PD at *
  simp -implicitDefEqProofs [e_law_bounds, DL.run, c_law_bounds, hl, hr, cc, sl]
theorem index_fnd {pl : List Str} {v : D} : ∀ (bs : List (Bool × List Nat)) (n : Nat) (b : Bool × List Nat), bs.find? (fun b => eqD (nmD pl b) v) = some b → ∃ k, indexL v n (bs.map (nmD pl)) = some (n + k) ∧ bs[k]? = some b
  | [], _, _, h => by cases h
  | x :: bs, n, b, h => by
    rw [List.find?_cons] at h
    rw [List.map_cons, indexL]
    cases e : eqD (nmD pl x) v with
    | true =>
      rw [e] at h
      cases h
      exact ⟨0, by simp, rfl⟩
    | false =>
      rw [e] at h
      obtain ⟨k, h1, h2⟩ := index_fnd bs (n + 1) b h
      exact ⟨k + 1, by rw [if_neg Bool.false_ne_true, h1]; congr 1; omega, h2⟩
theorem v_law_is_broken {pl : List Str} (hp : PlOk pl) {r q : List Int} (hrq : r.length = q.length) (hr : r.length ≤ 1000) {v : D} (hv : shp 20 v = true) (s : S) : e_law_is_broken [.d (tS pl), .d (tI r), .d (tI q), .d v] s = some (.d (.bl (isBrk pl r q v)), s) := by
  have hb := v_law_bounds hp
  have hrow := v_law_rows hp.lo hp.hi
  have hl : (pl.map D.str).length = pl.length := by simp
  by_cases ht : ∃ c, v = .tup c
  · obtain ⟨c, rfl⟩ := ht
    have hd : isiD .tuple (.tup c) = true := rfl
    have hin : cmpD .NotIn (.tup c) (.lst ((bndN pl.length).map (nmD pl))) = some (.bl (!(fnd pl (.tup c)).isSome)) := by
      show (if shp 20 (.tup c) && shps 20 ((bndN pl.length).map (nmD pl)) then some (D.bl (!inD (.tup c) ((bndN pl.length).map (nmD pl)))) else none) = _
      rw [hv, shps_bnd, inD_fnd]
      rfl
    unfold isBrk
    cases hf : fnd pl (.tup c) with
    | none =>
      rw [hf] at hin
      unfold tS tI at *
      generalize (bndN pl.length).map (nmD pl) = NB at *
      generalize pl.map D.str = PD at *
      simp at hin
      simp -implicitDefEqProofs [e_law_is_broken, DL.run, c_law_is_broken, hb, hd, hin]
    | some b =>
      rw [hf] at hin
      obtain ⟨k, hk, hkb⟩ := index_fnd (bndN pl.length) 0 b hf
      rw [Nat.zero_add] at hk
      have hm : miD .index (.lst ((bndN pl.length).map (nmD pl))) [.tup c] = some (.int (k : Nat)) := by
        show (if shps 20 ((bndN pl.length).map (nmD pl)) && shp 20 (.tup c) then (indexL (.tup c) 0 ((bndN pl.length).map (nmD pl))).map (fun n : Nat => D.int (n : Int)) else none) = _
        rw [hv, shps_bnd, hk]
        rfl
      have hat : atI ((bndN pl.length).map bD) (k : Int) = some (bD b) := by
        have hlt : k < (bndN pl.length).length := (List.getElem?_eq_some_iff.mp hkb).1
        rw [DL.atI_nat (by simpa using hlt)]
        simp [(List.getElem?_eq_some_iff.mp hkb).2]
      have ho := v_law_over hp.lo hp.hi b r q hr
      rw [over_eq _ r q hrq] at ho
      unfold tS tI at *
      generalize bD b = B at *
      generalize (bndN pl.length).map (nmD pl) = NB at *
      generalize (bndN pl.length).map bD = BB at *
      generalize pl.map D.str = PD at *
      generalize r.map D.int = RD at *
      generalize q.map D.int = QD at *
      simp at hin
      simp -implicitDefEqProofs [e_law_is_broken, DL.run, c_law_is_broken, hb, hd, hin, hrow, hm, hat, hl, ho]
  · have hd : isiD .tuple v = false := by
      cases v <;> first | rfl | exact absurd ⟨_, rfl⟩ ht
    have hf : fnd pl v = none := fnd_shape fun ⟨a, c, e⟩ => ht ⟨_, e⟩
    unfold isBrk
    rw [hf]
    unfold tS tI at *
    generalize (bndN pl.length).map (nmD pl) = NB at *
    generalize pl.map D.str = PD at *
    simp -implicitDefEqProofs [e_law_is_broken, DL.run, c_law_is_broken, hb, hd]
/-- a loop whose turns append to the last cell, or not -/
theorem forL_appf {β : Type} {t g : β → D} {p : β → Bool} {f : D → EnvR → S → Option (Out × EnvR × S)} {s : S} (J : EnvR → Prop) : ∀ (xs : List β) (acc : List D) (δ : EnvR), J δ → acc.length + xs.length ≤ 1000000 →
    (∀ x ∈ xs, ∀ acc δ, J δ → acc.length < 1000000 → ∃ δ', f (t x) δ (s ++ [.lst acc]) = some (.nx, δ', s ++ [.lst (if p x = true then acc ++ [g x] else acc)]) ∧ J δ') → ∃ δ', forL f (xs.map t) δ (s ++ [.lst acc]) = some (.nx, δ', s ++ [.lst (acc ++ (xs.filter p).map g)]) ∧ J δ'
  | [], acc, δ, h, _, _ => ⟨δ, by simp [forL], h⟩
  | x :: xs, acc, δ, h, hl, step => by
    rw [List.length_cons] at hl
    obtain ⟨δ1, e, h1⟩ := step x List.mem_cons_self acc δ h (by omega)
    have hl2 : (if p x = true then acc ++ [g x] else acc).length + xs.length ≤ 1000000 := by
      split
      · simp; omega
      · omega
    obtain ⟨δ2, e2, h2⟩ := forL_appf J xs _ δ1 h1 hl2 fun y hy => step y (List.mem_cons_of_mem x hy)
    refine ⟨δ2, ?_, h2⟩
    rw [List.map_cons, forL, e]
    show forL f _ _ _ = _
    rw [e2]
    cases hpx : p x <;> simp [hpx, List.filter_cons]
def overB (pl : List Str) (r q : List Int) (b : Bool × List Nat) : Bool := decide (sumA (lensI pl.length b) r - sumA (lensI pl.length b) q < 0)
theorem v_law_short {pl : List Str} (hp : PlOk pl) {r q : List Int} (hrq : r.length = q.length) (hr : r.length ≤ 1000) (s : S) : e_law_short [.d (tS pl), .d (tI r), .d (tI q)] s = some (.d (.lst (((bndN pl.length).filter (overB pl r q)).map (nmD pl))), s) := by
  have hrow := v_law_rows hp.lo hp.hi
  have hl : (pl.map D.str).length = pl.length := by simp
  obtain ⟨δ', e, o4, o5, rfl⟩ := forL_appf (s := s) (t := bD) (g := nmD pl) (p := overB pl r q) (f := turn g_law_short fl s.length (.nm 4) b_law_short_2)
    (fun δ => ∃ o4 o5, δ = [some (.d (tS pl)), some (.d (tI r)), some (.d (tI q)), some (.c s.length), jd o4, jd o5]) (bndN pl.length) [] [some (.d (tS pl)), some (.d (tI r)), some (.d (tI q)), some (.c s.length), none, none] ⟨none, none, rfl⟩ (by have := bnd_many pl.length; simp; omega) (by
      rintro b hb acc δ ⟨o4, o5, rfl⟩ ha
      have hlt := bnd_lt hb
      have h5 := bnd_len hb
      have ho := v_law_over hp.lo hp.hi b r q hr
      rw [over_eq _ r q hrq] at ho
      have c1 : ∀ a1 a2 a3 a4 a5 st, compL (cturn g_law_short fl x_law_short_1 (.nm 5) .yes [5] [some (.d (tS pl)), a1, a2, a3, a4, a5]) (b.2.map fun i : Nat => D.int (i : Int)) st = some ((nmS pl b.2).map .str, st) := by
        intros
        unfold nmS
        rw [List.map_map]
        refine compL_maps b.2 _ fun i hi => ?_
        have := nm_turn (hlt i hi)
        unfold tS at *
        simp [cturn, x_law_short_1, this]
      have sl : ¬ 1000000 < (b.2.map fun i : Nat => D.int (i : Int)).length := by simp; omega
      refine ⟨_, ?_, some (bD b), o5, rfl⟩
      unfold overB
      unfold bD rD nmD tS tI at *
      generalize (b.2.map fun i : Nat => D.int (i : Int)) = L at *
      generalize (nmS pl b.2).map D.str = NL at *
      generalize pl.map D.str = PD at *
      generalize sumA (lensI pl.length b) r - sumA (lensI pl.length b) q = z at *
      by_cases hz : z < 0
      · simp -implicitDefEqProofs [turn, b_law_short_2, ho, hl, c1, sl, hz, ha, jd]
      · simp -implicitDefEqProofs [turn, b_law_short_2, ho, hl, c1, sl, hz, ha, jd])
  rw [List.nil_append] at e
  unfold tS tI at *
  generalize (bndN pl.length).map bD = BB at *
  generalize ((bndN pl.length).filter (overB pl r q)).map (nmD pl) = FB at *
  generalize pl.map D.str = PD at *
  simp -implicitDefEqProofs [e_law_short, DL.run, c_law_short, hl, hrow, e, soleC_eq]
end SE

set_option Elab.async false
set_option linter.all false
set_option autoImplicit false
set_option maxRecDepth 100000
set_option maxHeartbeats 4000000
namespace SE
open PySem L2 DL SD
theorem v_law_loads {pl : List Str} (hp : PlOk pl) {L : List (List Str × Int)} (h : ∀ p ∈ L, RtOk pl p.1) (s : S) :
    e_law_loads [.d (tS pl), .d (.lst (L.map shD))] s = some (.d (.tup [.lst ((loadsN pl L).1.map .int), .lst ((loadsN pl L).2.map .int)]), s) := by
  have hs := v_law_spans hp.lo hp.hi
  have hsl := spans_len hp
  have c1 : ∀ st a0 a1 a2 a3 a4 a5 a6 a7 a8 a9 a11, compL (cturn g_law_loads fl (.cint 0) (.nm 10) .yes [10] [a0, a1, a2, a3, a4, a5, a6, a7, a8, a9, none, a11]) (spansD pl.length) st = some (((spansN pl.length).map fun _ => (0 : Int)).map .int, st) := by
    intros
    unfold spansD
    rw [List.map_map]
    refine compL_maps (spansN pl.length) _ fun x _ => ?_
    simp [cturn]
  obtain ⟨δ', s', e, ⟨o5, o6, o7, o8, o9, o10, o11, rfl⟩, rfl⟩ := loads_loop (s := s) (SH := .lst (L.map shD)) (N := (spansN pl.length).length) rfl hp.hi L h ((spansN pl.length).map fun _ => 0, (spansN pl.length).map fun _ => 0) (by simp) (by simp) none none none none none none none
  have jn : jd none = none := rfl
  rw [jn] at e
  have hg : SD.g_law_loads = SE.g_law_loads := rfl
  have hb3 : SD.b_law_loads_3 = SE.b_law_loads_3 := rfl
  rw [hg, hb3] at e
  unfold loadsN
  dsimp only at e
  have hpl : (pl.map D.str).length = pl.length := by simp
  have sl : ¬ 1000000 < (spansD pl.length).length := by unfold spansD; simp; omega
  unfold tS at e ⊢
  generalize ((spansN pl.length).map fun _ => (0 : Int)).map D.int = Z at *
  generalize (L.map (ixP pl)).foldl (loadS pl.length) ((spansN pl.length).map fun _ => 0, (spansN pl.length).map fun _ => 0) = st at *
  obtain ⟨l, w⟩ := st
  dsimp only at *
  generalize pl.map D.str = PD at *
  generalize L.map shD = LD at *
  simp -implicitDefEqProofs [e_law_loads, DL.runP, c_law_loads, hpl, hs, sl, c1, e, soleC_eq]
theorem case_c1 {B : Int} {L : List Int} (hL : ∀ i ∈ L, 0 ≤ i ∧ i ≤ B) (f : Fl) (t : S) (a1 a2 a3 a4 a5 a6 a7 a8 : Option R) : ∃ (R0 : List Int) (f' : Fl), compL (cturn g_law_case fl x_law_case_1 (.nm 7) .yes [7] [some (.c 0), a1, a2, a3, a4, a5, a6, a7, a8]) (L.map .int) (f.cell :: t) = some (R0.map .int, f'.cell :: t) ∧ R0.length = L.length ∧ ∀ i ∈ R0, 0 ≤ i ∧ i ≤ B + 1 := by
  obtain ⟨ys, s', e, ⟨f', rfl⟩, hl, hP⟩ := compL_inv (f := cturn g_law_case fl x_law_case_1 (.nm 7) .yes [7] [some (.c 0), a1, a2, a3, a4, a5, a6, a7, a8]) (fun s => ∃ f' : Fl, s = f'.cell :: t) (fun y => ∃ i : Int, y = .int i ∧ 0 ≤ i ∧ i ≤ B + 1) (L.map .int) (f.cell :: t) ⟨f, rfl⟩ (by
    rintro x hx s ⟨f1, rfl⟩
    obtain ⟨i, hi, rfl⟩ := List.mem_map.mp hx
    obtain ⟨y, f2, e2, m⟩ := v_pick [.int 0, .int 0, .int 0, .int 1] (by simp) (by simp) f1 t
    obtain ⟨z, rfl, hz⟩ : ∃ z : Int, y = .int z ∧ 0 ≤ z ∧ z ≤ 1 := by
      simp at m
      rcases m with rfl | rfl
      · exact ⟨0, rfl, by omega, by omega⟩
      · exact ⟨1, rfl, by omega, by omega⟩
    have h := hL i hi
    exact ⟨.int (i + z), f2.cell :: t, by simp [cturn, x_law_case_1, e2], ⟨f2, rfl⟩, i + z, rfl, by omega, by omega⟩)
  obtain ⟨R0, rfl, hR⟩ := untype (g := D.int) (Q := fun i : Int => 0 ≤ i ∧ i ≤ B + 1) hP
  exact ⟨R0, f', e, by simpa using hl, hR⟩
theorem case_c2 (L : List Int) (f : Fl) (t : S) (a1 a2 a3 a4 a5 a6 a7 a8 : Option R) : ∃ (R0 : List Int) (f' : Fl), compL (cturn g_law_case fl x_law_case_2 (.nm 8) .yes [8] [some (.c 0), a1, a2, a3, a4, a5, a6, a7, a8]) (L.map .int) (f.cell :: t) = some (R0.map .int, f'.cell :: t) ∧ R0.length = L.length ∧ ∀ i ∈ R0, 0 ≤ i ∧ i ≤ 4 := by
  obtain ⟨ys, s', e, ⟨f', rfl⟩, hl, hP⟩ := compL_inv (f := cturn g_law_case fl x_law_case_2 (.nm 8) .yes [8] [some (.c 0), a1, a2, a3, a4, a5, a6, a7, a8]) (fun s => ∃ f' : Fl, s = f'.cell :: t) (fun y => ∃ i : Int, y = .int i ∧ 0 ≤ i ∧ i ≤ 4) (L.map .int) (f.cell :: t) ⟨f, rfl⟩ (by
    rintro x hx s ⟨f1, rfl⟩
    obtain ⟨r, f2, e2, r0, r1⟩ := v_draw 4 (by omega) (by omega) f1 t
    exact ⟨.int r, f2.cell :: t, by simp [cturn, x_law_case_2, e2], ⟨f2, rfl⟩, r, rfl, by omega, by omega⟩)
  obtain ⟨R0, rfl, hR⟩ := untype (g := D.int) (Q := fun i : Int => 0 ≤ i ∧ i ≤ 4) hP
  exact ⟨R0, f', e, by simpa using hl, hR⟩
theorem case_c3 (L : List Int) (f : Fl) (t : S) (a1 a2 a3 a4 a5 a6 a7 a8 : Option R) : ∃ (R0 : List Int) (f' : Fl), compL (cturn g_law_case fl x_law_case_3 (.nm 8) .yes [8] [some (.c 0), a1, a2, a3, a4, a5, a6, a7, a8]) (L.map .int) (f.cell :: t) = some (R0.map .int, f'.cell :: t) ∧ R0.length = L.length ∧ ∀ i ∈ R0, 0 ≤ i ∧ i ≤ 4 := by
  obtain ⟨ys, s', e, ⟨f', rfl⟩, hl, hP⟩ := compL_inv (f := cturn g_law_case fl x_law_case_3 (.nm 8) .yes [8] [some (.c 0), a1, a2, a3, a4, a5, a6, a7, a8]) (fun s => ∃ f' : Fl, s = f'.cell :: t) (fun y => ∃ i : Int, y = .int i ∧ 0 ≤ i ∧ i ≤ 4) (L.map .int) (f.cell :: t) ⟨f, rfl⟩ (by
    rintro x hx s ⟨f1, rfl⟩
    obtain ⟨r, f2, e2, r0, r1⟩ := v_draw 3 (by omega) (by omega) f1 t
    exact ⟨.int r, f2.cell :: t, by simp [cturn, x_law_case_3, e2], ⟨f2, rfl⟩, r, rfl, by omega, by omega⟩)
  obtain ⟨R0, rfl, hR⟩ := untype (g := D.int) (Q := fun i : Int => 0 ≤ i ∧ i ≤ 4) hP
  exact ⟨R0, f', e, by simpa using hl, hR⟩
/-- places, roads, parcels of a case -/
def CaseOk (pl : List Str) (r q : List Int) : Prop := PlOk pl ∧ NOk pl.length r ∧ NOk pl.length q
theorem v_law_case (f : Fl) (t : S) : ∃ (pl : List Str) (r q : List Int) (f' : Fl), e_law_case [.c 0] (f.cell :: t) = some (.d (.tup [tS pl, tI r, tI q]), f'.cell :: t) ∧ CaseOk pl r q := by
  obtain ⟨n0, f1, e1, n1, n2⟩ := v_draw 4 (by omega) (by omega) f t
  obtain ⟨pl, f2, e2, hp, hpn⟩ := v_law_names (n := (2 + n0).toNat) (by omega) (by omega) f1 t
  have en : (((2 + n0).toNat : Nat) : Int) = 2 + n0 := by omega
  rw [en] at e2
  obtain ⟨L, f3, e3, hL1, hL2⟩ := v_law_shares hp f2 t
  have e4 := fun s => v_law_loads hp (L := L) (fun p h => (hL2 p h).1) s
  have hok := loadsN_ok hp.hi (L := L) fun p h => ⟨(hL2 p h).1, by have := (hL2 p h).2.1; omega⟩
  have hbg : big = 10000000000000000000000000000 := rfl
  have hsum : (L.map (·.2)).sum ≤ 6 * (3 * big) := by
    have := sum_le (B := 3 * big) (L := L) fun p h => (hL2 p h).2.2
    have h6 : (L.length : Int) ≤ 6 := by omega
    have : (L.length : Int) * (3 * big) ≤ 6 * (3 * big) := Int.mul_le_mul_of_nonneg_right h6 (by omega)
    omega
  generalize loadsN pl L = LW at *
  obtain ⟨l, w⟩ := LW
  obtain ⟨⟨hb1, hb2⟩, hl1, hl2⟩ := hok
  dsimp only at hb1 hb2 hl1 hl2 e4
  have hl0 := (spans_len hp).2
  have hl10 := (spans_len hp).1
  generalize hS : 4 * (L.map (·.2)).sum = B at *
  have hB : B ≤ 72 * big := by omega
  obtain ⟨r, f4, e5, hr1, hr2⟩ := case_c1 (B := B) (L := l) hb1 f3 (t ++ [.lst (w.map .int)]) (some (.d (tS pl))) none (some (.d (.lst (l.map .int)))) (some (.c (t.length + 1))) none none none none
  obtain ⟨way, f5, e6, w1, w2⟩ := v_draw 6 (by omega) (by omega) f4 (t ++ [.lst (w.map .int), .lst (r.map .int)])
  obtain ⟨at0, f6, e7, at1, at2⟩ := v_draw r.length (by omega) (by omega) f5 (t ++ [.lst (w.map .int), .lst (r.map .int)])
  obtain ⟨k, rfl⟩ : ∃ k : Nat, at0 = (k : Int) := ⟨at0.toNat, by omega⟩
  have hk : k < r.length := by omega
  have hkw : k < w.length := by omega
  have sl1 : ¬ 1000000 < (l.map D.int).length := by simp; omega
  have sl2 : ¬ 1000000 < (r.map D.int).length := by simp; omega
  have hrl : (r.map D.int).length = r.length := by simp
  have sl3 : ¬ 1000000 < r.length := by omega
  have hwl : (w.map D.int).length = w.length := by simp
  have x1 : ixN r.length (k : Int) = some k := ixN_nat hk
  have x2 : ixN w.length (k : Int) = some k := ixN_nat hkw
  have y1 : atI (r.map D.int) (k : Int) = some (.int r[k]) := by
    rw [DL.atI_nat (by simpa using hk)]; simp
  have y2 : atI (w.map D.int) (k : Int) = some (.int w[k]) := by
    rw [DL.atI_nat (by simpa using hkw)]; simp
  have z2 : (w.map D.int).set k (.int (w[k] + 1)) = (w.set k (w[k] + 1)).map D.int := by rw [List.map_set]
  have z1 : (r.map D.int).set k (.int (r[k] - 1)) = (r.set k (r[k] - 1)).map D.int := by rw [List.map_set]
  have r0 := hr2 _ (List.getElem_mem hk)
  have w0 := hb2 _ (List.getElem_mem hkw)
  have nr : NOk pl.length r := ⟨by omega, fun i hi => by have := hr2 i hi; omega⟩
  have nw : NOk pl.length w := ⟨by omega, fun i hi => by have := hb2 i hi; omega⟩
  have g2 : ∀ (a b c : Cell), (t ++ [a, b, c])[t.length + 1 + 1]? = some c := fun a b c => by
    rw [List.getElem?_append_right (by omega), show t.length + 1 + 1 - t.length = 2 from by omega]
    rfl
  have hL3 := hL1
  generalize hRD : r.map D.int = RD at *
  generalize hWD : w.map D.int = WD at *
  generalize l.map D.int = LD at *
  have hLs : e_law_shares [.c 0, .d (tS pl)] (f2.cell :: t) = some (.d (.lst (L.map shD)), f3.cell :: t) := e3
  generalize L.map shD = LS at *
  unfold tS tI at *
  generalize hPD : pl.map D.str = PD at *
  by_cases q0 : way = 0
  · subst q0
    obtain ⟨r2, f7, c2, m1, m2⟩ := case_c2 r f6 (t ++ [.lst WD]) (some (.d (.tup PD))) (some (.d (.lst RD))) (some (.d (.lst LD))) (some (.c (t.length + 1))) (some (.d (.int 0))) (some (.d (.int (k : Int)))) none none
    obtain ⟨q2, f8, c3, m3, m4⟩ := case_c3 r f7 (t ++ [.lst WD, .lst (r2.map .int)]) (some (.d (.tup PD))) (some (.d (.lst RD))) (some (.d (.lst LD))) (some (.c (t.length + 1))) (some (.d (.int 0))) (some (.d (.int (k : Int)))) none none
    rw [hRD] at c2 c3
    refine ⟨pl, r2, q2, f8, ?_, hp, ⟨by omega, fun i hi => by have := m2 i hi; omega⟩, ⟨by omega, fun i hi => by have := m4 i hi; omega⟩⟩
    simp -implicitDefEqProofs [e_law_case, DL.run, c_law_case, e1, e2, e3, e4, e5, e6, e7, sl1, sl2, hrl, hwl, x1, x2, y1, y2, c2, c3, g2, sl3, soleC_eq]
    exact hPD.symm
  · by_cases q1 : way = 1
    · subst q1
      refine ⟨pl, r, w.set k (w[k] + 1), f6, ?_, hp, nr, ⟨by rw [List.length_set]; omega, fun i hi => ?_⟩⟩
      · simp -implicitDefEqProofs [e_law_case, DL.run, c_law_case, e1, e2, e3, e4, e5, e6, e7, sl1, sl2, hrl, hwl, x1, x2, y1, y2, soleC_eq]
        exact ⟨hPD.symm, hRD.symm, by rw [hWD]⟩
      · rcases List.mem_or_eq_of_mem_set hi with hi | rfl
        · exact nw.2 i hi
        · omega
    · by_cases q2 : way = 2 ∧ 0 < r[k]
      · refine ⟨pl, r.set k (r[k] - 1), w, f6, ?_, hp, ⟨by rw [List.length_set]; omega, fun i hi => ?_⟩, nw⟩
        · obtain ⟨q3, q4⟩ := q2
          subst q3
          simp -implicitDefEqProofs [e_law_case, DL.run, c_law_case, e1, e2, e3, e4, e5, e6, e7, sl1, sl2, hrl, hwl, x1, x2, y1, y2, q4, soleC_eq]
          exact ⟨hPD.symm, by rw [hRD], hWD.symm⟩
        · rcases List.mem_or_eq_of_mem_set hi with hi | rfl
          · exact nr.2 i hi
          · omega
      · refine ⟨pl, r, w, f6, ?_, hp, nr, nw⟩
        have b0 : (way == 0) = false := by simpa using q0
        have b1 : (way == 1) = false := by simpa using q1
        by_cases q3 : way = 2
        · have q4 : ¬ 0 < r[k] := fun z => q2 ⟨q3, z⟩
          simp -implicitDefEqProofs [e_law_case, DL.run, c_law_case, e1, e2, e3, e4, e5, e6, e7, sl1, sl2, hrl, hwl, x1, x2, y1, y2, b0, b1, q3, q4, soleC_eq]
          exact ⟨hPD.symm, hRD.symm, hWD.symm⟩
        · have b2 : (way == 2) = false := by simpa using q3
          simp -implicitDefEqProofs [e_law_case, DL.run, c_law_case, e1, e2, e3, e4, e5, e6, e7, sl1, sl2, hrl, hwl, x1, x2, y1, y2, b0, b1, b2, soleC_eq]
          exact ⟨hPD.symm, hRD.symm, hWD.symm⟩
end SE

set_option Elab.async false
set_option linter.all false
set_option autoImplicit false
set_option maxRecDepth 100000
set_option maxHeartbeats 4000000
namespace SE
open PySem L2 DL SD
abbrev sBroken : Str := "broken"
theorem len10 {pl : List Str} (hp : PlOk pl) {r : List Int} (hr : NOk pl.length r) : r.length ≤ 1000 := by
  have := hr.1
  have := (spans_len hp).1
  omega
theorem v_accepts_broken {pl : List Str} {r q : List Int} (hp : PlOk pl) (hr : NOk pl.length r) (hq : NOk pl.length q) {v : D} (hv : shp 20 v = true) (s : S) :
    e_accepts [.d (.tup [.str sBroken, .str (textOf pl), tI r, tI q]), .d v] s = some (.d (.bl (isBrk pl r q v)), s) := by
  have h1 := v_read_posts hp
  have h2 := v_init hp
  have h3 := v_spans pl
  have h4 := fun v m => v_wrong_number v m 1000000000000000000000000000000
  have h5 := wrongN_ok hr
  have h6 := wrongN_ok hq
  have n4 : cmpD .NotIn (.int 4) (.tup [.int 4, .int 6]) = some (.bl false) := by
    rw [c_nin_t (by simp) (by simp)]; simp [inD]
  have i1 : ∀ x : List D, cmpD .Is (.tup x) .non = some (.bl false) := fun _ => rfl
  have i2 : ∀ C x, cmpD .Is (.ins C x) .non = some (.bl false) := fun _ _ => rfl
  have ne0 : cmpD .NotEq (.tup []) (.tup []) = some (.bl false) := by
    show (if shp 20 (.tup []) && shp 20 (.tup []) then some (D.bl (!eqD (.tup []) (.tup []))) else none) = _
    simp
  have at2 : ∀ a b c d : D, atI [a, b, c, d] 2 = some c := fun _ _ _ _ => rfl
  have at3 : ∀ a b c d : D, atI [a, b, c, d] 3 = some d := fun _ _ _ _ => rfl
  have hb := v_is_broken hp (len10 hp hr) (len10 hp hq) hv
  have sh : ∀ s, e_is_shown [.d (postsD pl), .d (.str sBroken), .d (tI r), .d (tI q), .d v] s = some (.d (.bl (isBrk pl r q v)), s) := by
    intro s
    have e1 : (sBroken == sFits) = false := by decide +kernel
    have e2 : (sBroken == sWholes) = false := by decide +kernel
    unfold postsD tI at *
    generalize isBrk pl r q v = J at *
    simp -implicitDefEqProofs [e_is_shown, DL.run, c_is_shown, hb, e1, e2]
  have nall : cmpD .In (.str sBroken) (.tup [.str "all", .str "not all"]) = some (.bl false) := by
    rw [c_in_t (by simp) (by simp) fun _ _ => trivial]
    have : inD (.str sBroken) ([("all" : Str), ("not all" : Str)].map .str) = false := by
      rw [inD_strs]
      decide +kernel
    exact congrArg (fun b => some (D.bl b)) this
  unfold tI at h5 h6 sh ⊢
  unfold tS at h1 h2
  unfold postsD at h2 h3 sh
  generalize isBrk pl r q v = J at *
  have hsd : (spansD pl.length).length = (spansD pl.length).length := rfl
  simp -implicitDefEqProofs [e_accepts, DL.run, c_accepts, n4, h1, i1, h2, i2, at2, at3, h3, h4, h5, h6, ne0, nall, sh]
/-- a value that == is told of -/
theorem v_law_bent_bound {pl : List Str} (hp : PlOk pl) {b : Bool × List Nat} (hb : b ∈ bndN pl.length) (f : Fl) (t : S) : ∃ v, ∃ f' : Fl, e_law_bent_bound [.c 0, .d (tS pl), .d (nmD pl b)] (f.cell :: t) = some (.d v, f'.cell :: t) ∧ shp 20 v = true := by
  have hbs := v_law_bounds hp
  have h25 := bnd_many pl.length
  obtain ⟨x, f1, e1, m1⟩ := v_pick ((bndN pl.length).map (nmD pl)) (by
    intro h
    rw [List.map_eq_nil_iff] at h
    rw [h] at hb; cases hb) (by simp; omega) f t
  obtain ⟨b2, _, rfl⟩ := List.mem_map.mp m1
  have hx := shp_nmD 18 pl b2
  have hl5 : (nmS pl b.2).length ≤ 5 := by
    unfold nmS
    rw [List.length_map]
    exact bnd_len hb
  have hpl : pl.length ≤ 5 := hp.hi
  obtain ⟨X, F, hX, hXm⟩ := pick_fn f1 t
  obtain ⟨z, hz⟩ : ∃ z, z = e_law_bent_bound [.c 0, .d (tS pl), .d (nmD pl b)] (f.cell :: t) := ⟨_, rfl⟩
  have hz' := hz
  obtain ⟨ys, hcc, hys⟩ : ∃ ys : List Str, (∀ a1 a2 a3 a4 a6 st, compL (cturn g_law_bent_bound fl (.var 6) (.nm 6) y_law_bent_bound_1 [6] [a1, a2, a3, a4, a6, some (.d (tS (nmS pl b.2))), none]) (pl.map .str) st = some (ys.map .str, st)) ∧ True := by
    refine ⟨pl.filter fun x => !decide (x ∈ nmS pl b.2), fun a1 a2 a3 a4 a6 st => ?_, trivial⟩
    refine compL_filt pl _ fun x _ => ?_
    have : cmpD .NotIn (.str x) (tS (nmS pl b.2)) = some (.bl (!decide (x ∈ nmS pl b.2))) := by
      unfold tS
      rw [c_nin_t (by simp) (by simp), inD_strs]
    generalize decide (x ∈ nmS pl b.2) = d at *
    generalize tS (nmS pl b.2) = T at *
    cases d <;> simp [cturn, y_law_bent_bound_1, this]
  have sl : ¬ 1000000 < (pl.map D.str).length := by simp; omega
  have c1 := cutL_len ((nmS pl b.2).map D.str) none (some 1)
  have c2 := cutL_len ((nmS pl b.2).map D.str) (some 1) none
  have y1 := shps_cut (shps_strs 18 (nmS pl b.2)) none (some 1)
  have y2 := shps_cut (shps_strs 18 (nmS pl b.2)) (some 1) none
  have y3 : shps 18 ((nmS pl b.2).map D.str).reverse = true := by rw [← List.map_reverse]; exact shps_strs _ _
  have y4 := shps_strs 18 (nmS pl b.2)
  have y7 := shps_strs 19 (nmS pl b.2)
  have y5 := shps_strs 18 pl
  have y6 := shps_strs 18 ys
  have hxl : ((nmS pl b.2).map D.str).length ≤ 5 := by simp; exact hl5
  have up : miD .upper (.str (wS b.1)) [] = some (.str (Txt.upper (wS b.1))) := by
    show (if (wS b.1).length ≤ lim then _ else _) = _
    cases b.1 <;> rfl
  have z8 : ∀ xs ys : List D, xs.length ≤ 100 → ys.length ≤ 100 → binD .Add (.lst xs) (.lst ys) = some (.lst (xs ++ ys)) := fun xs ys h h2 => add_ll (by omega)
  have z9 : ∀ x : D, binD .Mult (.lst [x]) (.int 8) = some (.lst [x, x, x, x, x, x, x, x]) := fun x => rfl
  unfold nmD tS at *
  generalize (nmS pl b.2).map D.str = XD at *
  generalize pl.map D.str = PD at *
  generalize ys.map D.str = YD at *
  generalize wS b.1 = W at *
  generalize hU : Txt.upper W = U at *
  generalize hB1 : cutL XD none (some 1) = B1 at *
  generalize hB2 : cutL XD (some 1) none = B2 at *
  have z1 : binD .Add (.tup XD) (.tup B1) = some (.tup (XD ++ B1)) := add_tt (by omega)
  simp -implicitDefEqProofs [e_law_bent_bound, DL.run, c_law_bent_bound, hbs, e1, hcc, sl, hB1, hB2, z1, z8, z9, up, hX] at hz
  have hm := hXm _ (List.cons_ne_nil _ _) (by simp) |> fun h => (h : _ ∈ ([.tup [.str W, .tup XD], .tup [.str W, .tup XD], .tup [.str W, .tup XD], .tup [.str W, .tup XD.reverse], .tup [.str W, .tup (XD ++ B1)], .lst [.str W, .tup XD], .tup [.str W, .lst XD], .tup [.str W, .tup B2], .tup [.str "two", .tup XD], .tup [.str "part", .tup XD], .tup [.str U, .tup XD], .tup XD, .tup [.str W], .tup [.str W, .tup XD, .tup XD], .non, .tup [.str W, .tup PD], .tup [.str W, .tup YD], .tup [.str W, .tup []], .str "part", .tup [.tup XD, .str W], .tup [.str (wS b2.1), .tup ((nmS pl b2.2).map .str)], .tup [.str (wS b2.1), .tup ((nmS pl b2.2).map .str)], .tup [.str (wS b2.1), .tup ((nmS pl b2.2).map .str)], .tup [.str (wS b2.1), .tup ((nmS pl b2.2).map .str)], .tup [.str (wS b2.1), .tup ((nmS pl b2.2).map .str)], .tup [.str (wS b2.1), .tup ((nmS pl b2.2).map .str)], .tup [.str (wS b2.1), .tup ((nmS pl b2.2).map .str)], .tup [.str (wS b2.1), .tup ((nmS pl b2.2).map .str)]] : List D))
  refine ⟨_, _, hz'.symm.trans hz, ?_⟩
  generalize X _ = x at hm
  have w1 := shps_app y4 y1
  have all : ∀ y ∈ ([.tup [.str W, .tup XD], .tup [.str W, .tup XD], .tup [.str W, .tup XD], .tup [.str W, .tup XD.reverse], .tup [.str W, .tup (XD ++ B1)], .lst [.str W, .tup XD], .tup [.str W, .lst XD], .tup [.str W, .tup B2], .tup [.str "two", .tup XD], .tup [.str "part", .tup XD], .tup [.str U, .tup XD], .tup XD, .tup [.str W], .tup [.str W, .tup XD, .tup XD], .non, .tup [.str W, .tup PD], .tup [.str W, .tup YD], .tup [.str W, .tup []], .str "part", .tup [.tup XD, .str W], .tup [.str (wS b2.1), .tup ((nmS pl b2.2).map .str)], .tup [.str (wS b2.1), .tup ((nmS pl b2.2).map .str)], .tup [.str (wS b2.1), .tup ((nmS pl b2.2).map .str)], .tup [.str (wS b2.1), .tup ((nmS pl b2.2).map .str)], .tup [.str (wS b2.1), .tup ((nmS pl b2.2).map .str)], .tup [.str (wS b2.1), .tup ((nmS pl b2.2).map .str)], .tup [.str (wS b2.1), .tup ((nmS pl b2.2).map .str)], .tup [.str (wS b2.1), .tup ((nmS pl b2.2).map .str)]] : List D), shp 20 y = true := by
    simp [shps_strs, y2, y3, y4, y5, y6, w1, y7]
  exact all _ hm
end SE

set_option Elab.async false
set_option linter.all false
set_option autoImplicit false
set_option maxRecDepth 100000
set_option maxHeartbeats 4000000
namespace SE
open PySem L2 DL SD
theorem eqDs_strs : ∀ xs ys : List Str, eqDs (xs.map .str) (ys.map .str) = decide (xs = ys)
  | [], [] => by simp
  | [], _ :: _ => by simp
  | _ :: _, [] => by simp
  | x :: xs, y :: ys => by
    rw [List.map_cons, List.map_cons, eqDs_cc, eqDs_strs xs ys, eqD_ss, str_beq]
    by_cases h : x = y <;> by_cases h2 : xs = ys <;> simp [h, h2]
theorem nmS_inj {pl : List Str} (nd : pl.Nodup) : ∀ {r r' : List Nat}, (∀ i ∈ r, i < pl.length) → (∀ i ∈ r', i < pl.length) → nmS pl r = nmS pl r' → r = r'
  | [], [], _, _, _ => rfl
  | [], _ :: _, _, _, h => by simp [nmS] at h
  | _ :: _, [], _, _, h => by simp [nmS] at h
  | i :: r, j :: r', h1, h2, h => by
    unfold nmS at h
    rw [List.map_cons, List.map_cons] at h
    injection h with h3 h4
    have hi := h1 i List.mem_cons_self
    have hj := h2 j List.mem_cons_self
    have e : pl[i] = pl[j] := by simpa [List.getD_eq_getElem?_getD, hi, hj] using h3
    have ij : i = j := (List.getElem_inj nd).mp e
    rw [ij, nmS_inj nd (fun i h => h1 i (List.mem_cons_of_mem _ h)) (fun i h => h2 i (List.mem_cons_of_mem _ h)) h4]
theorem wS_inj (a b : Bool) : (wS a == wS b) = decide (a = b) := by cases a <;> cases b <;> decide +kernel
theorem nmD_eq {pl : List Str} (nd : pl.Nodup) {b c : Bool × List Nat} (hb : ∀ i ∈ b.2, i < pl.length) (hc : ∀ i ∈ c.2, i < pl.length) : eqD (nmD pl b) (nmD pl c) = decide (b = c) := by
  unfold nmD tS
  rw [eqD_tt, eqDs_cc, eqDs_cc, eqDs_nn, eqD_ss, eqD_tt, eqDs_strs, wS_inj]
  obtain ⟨a, r⟩ := b
  obtain ⟨a2, r2⟩ := c
  dsimp only at *
  by_cases h : a = a2
  · by_cases h2 : r = r2
    · simp [h, h2]
    · have : nmS pl r ≠ nmS pl r2 := fun e => h2 (nmS_inj nd hb hc e)
      simp [h2, this]
  · simp [h]
theorem fnd_self {pl : List Str} (nd : pl.Nodup) {b : Bool × List Nat} (hb : b ∈ bndN pl.length) : fnd pl (nmD pl b) = some b := by
  have hall : ∀ c ∈ bndN pl.length, ∀ i ∈ c.2, i < pl.length := fun c hc => bnd_lt hc
  have hbl := hall b hb
  unfold fnd
  revert hb hall
  induction bndN pl.length with
  | nil => intro h; cases h
  | cons c bs ih =>
    intro h hall
    rw [List.find?_cons, nmD_eq nd (hall c List.mem_cons_self) hbl]
    by_cases e : c = b
    · simp [e]
    · rw [decide_eq_false e]
      rcases List.mem_cons.mp h with h | h
      · exact absurd h.symm e
      · exact ih h fun c hc => hall c (List.mem_cons_of_mem _ hc)
theorem brk_self {pl : List Str} (nd : pl.Nodup) {r q : List Int} {b : Bool × List Nat} (hb : b ∈ bndN pl.length) : isBrk pl r q (nmD pl b) = overB pl r q b := by
  unfold isBrk
  rw [fnd_self nd hb]
  rfl
theorem inD_nm {pl : List Str} (nd : pl.Nodup) {b : Bool × List Nat} (hb : ∀ i ∈ b.2, i < pl.length) : ∀ (bs : List (Bool × List Nat)), (∀ c ∈ bs, ∀ i ∈ c.2, i < pl.length) → inD (nmD pl b) (bs.map (nmD pl)) = decide (b ∈ bs)
  | [], _ => by simp [inD]
  | c :: bs, h => by
    rw [List.map_cons, inD, nmD_eq nd (h c List.mem_cons_self) hb, inD_nm nd hb bs fun c hc => h c (List.mem_cons_of_mem _ hc)]
    by_cases e : c = b
    · simp [e]
    · by_cases e2 : b ∈ bs <;> simp [e, e2, Ne.symm e]
theorem c_in_short {pl : List Str} (nd : pl.Nodup) {r q : List Int} {b : Bool × List Nat} (hb : b ∈ bndN pl.length) : cmpD .In (nmD pl b) (.lst (((bndN pl.length).filter (overB pl r q)).map (nmD pl))) = some (.bl (overB pl r q b)) := by
  have : cmpD .In (nmD pl b) (.lst (((bndN pl.length).filter (overB pl r q)).map (nmD pl))) = if shp 20 (nmD pl b) && shps 20 (((bndN pl.length).filter (overB pl r q)).map (nmD pl)) then some (.bl (inD (nmD pl b) (((bndN pl.length).filter (overB pl r q)).map (nmD pl)))) else none := rfl
  rw [this, shp_nmD 18, shps_bnd, inD_nm nd (bnd_lt hb) _ fun c hc => bnd_lt (List.mem_filter.mp hc).1]
  have e : decide (b ∈ (bndN pl.length).filter (overB pl r q)) = overB pl r q b := by
    cases h : overB pl r q b with
    | true => exact decide_eq_true (List.mem_filter.mpr ⟨hb, h⟩)
    | false => exact decide_eq_false fun m => by rw [(List.mem_filter.mp m).2] at h; cases h
  rw [e]
  rfl
theorem eq_bls : ∀ bs : List Bool, eqDs (bs.map .bl) (bs.map .bl) = true
  | [] => by simp
  | b :: bs => by simp [eq_bls bs]
theorem c_eq_bls (bs : List Bool) : cmpD .Eq (.lst (bs.map .bl)) (.lst (bs.map .bl)) = some (.bl true) := by
  have : shp 20 (.lst (bs.map D.bl)) = true := by simp [shps_all, List.all_map]
  show (if shp 20 (.lst (bs.map D.bl)) && shp 20 (.lst (bs.map D.bl)) then some (D.bl (eqD (.lst (bs.map D.bl)) (.lst (bs.map D.bl)))) else none) = _
  rw [this, eqD_ll, eq_bls]
  rfl
end SE

set_option Elab.async false
set_option linter.all false
set_option autoImplicit false
set_option maxRecDepth 100000
set_option maxHeartbeats 0
namespace K81
open SD hiding x_law_loads_1 b_law_loads_2 b_law_loads_3 g_law_loads g_law_loads_0 c_law_loads e_law_loads g_is_shown g_is_shown_0 c_is_shown e_is_shown g_accepts g_accepts_0 g_accepts_1 g_accepts_2 g_accepts_3 g_accepts_4 c_accepts e_accepts
open SE
open PySem L2 DL PySem.Spec PyProof.Rows
abbrev pg : Program := PySem.Challenge.pw_fiveparcels_k81_whole_broken_bounds_judg
abbrev W (K : Frag) : Wd := tabW K ["spots", "links"] tf
abbrev Rw (K : Frag) (mg : Str → Option Value) (base h : Heap) : Prop := Row glos frees globs fn tf exr K mg base h
section
variable {K : Frag} {mg : Str → Option Value} {base h : Heap} {wd : World}
theorem ex_c (C : Rw K mg base h) : clsB K (He.ga K "Posts") ["spots", "links"] = true := (He.ba C.say.ex).1
theorem ex_m (C : Rw K mg base h) : mkB K (He.ga K "Posts") = true := (He.ba (He.ba C.say.ex).2).1
theorem ex_n (C : Rw K mg base h) : (tf.map fun p => (He.cT K p).2).Nodup := of_decide_eq_true (He.ba (He.ba (He.ba C.say.ex).2).2).2
theorem ex_p_spans (C : Rw K mg base h) : propB K (He.ga K "Posts") "spans" = true := (He.ba (He.ba (He.ba (He.ba C.say.ex).2).2).1).2
theorem ex_p_places (C : Rw K mg base h) : propB K (He.ga K "Posts") "places" = true := (He.ba (He.ba (He.ba (He.ba (He.ba C.say.ex).2).2).1).1).2
theorem ex_l (C : Rw K mg base h) : lenB K (He.ga K "Posts") = true := (He.ba (He.ba (He.ba (He.ba (He.ba C.say.ex).2).2).1).1).1
theorem bs (C : Rw K mg base h) : Base pg wd (W K) mg base frees globs := C.base_ok (by rfl) (ex_c C)
theorem sc_law_draw : FnScope ["_law_flow_here", "_law_many", "_law_mixed", "_law_digit"] ["_law_flow_here", "_law_many"] (defScope s_law_draw) := ⟨rfl, rfl, rfl, by decide +kernel, rfl, by decide +kernel, by decide +kernel⟩
theorem r_law_draw (C : Rw K mg base h) : DefOk pg wd (W K) mg base 4 (.fn "_law_draw") e_law_draw := by
  obtain ⟨fd, F0⟩ := C.def_ (d := d_law_draw) 0 rfl
  exact dep_fn (C.glo 0 rfl) F0.kp (F0.bindsN fun _ _ _ _ _ _ us hl => match us, hl with | [_, _], _ => rfl) (def_run (w := W K) (kk := 1) (bs C) F0 sc_law_draw rfl rfl rfl rfl (fun cdv A outer s H E e1 e2 => .nil) k_law_draw)
theorem sc_law_pick : FnScope ["_law_flow_here", "_law_things"] ["_law_flow_here", "_law_things"] (defScope s_law_pick) := ⟨rfl, rfl, rfl, by decide +kernel, rfl, by decide +kernel, by decide +kernel⟩
theorem r_law_pick (C : Rw K mg base h) : DefOk pg wd (W K) mg base 7 (.fn "_law_pick") e_law_pick := by
  obtain ⟨fd, F0⟩ := C.def_ (d := d_law_pick) 1 rfl
  exact dep_fn (C.glo 1 rfl) F0.kp (F0.bindsN fun _ _ _ _ _ _ us hl => match us, hl with | [_, _], _ => rfl) (def_run (w := W K) (kk := 4) (bs C) F0 sc_law_pick rfl rfl rfl rfl (fun cdv A outer s H E e1 e2 => (.cons ((r_law_draw C).at_ (k := 4) (by decide)) .nil)) k_law_pick)
theorem sc_law_names : FnScope ["_law_flow_here", "_law_many", "_law_found", "_law_at", "_law_name", "_law_more"] ["_law_flow_here", "_law_many"] (defScope s_law_names) := ⟨rfl, rfl, rfl, by decide +kernel, rfl, by decide +kernel, by decide +kernel⟩
theorem r_law_names (C : Rw K mg base h) : DefOk pg wd (W K) mg base 10 (.fn "_law_names") e_law_names := by
  obtain ⟨fd, F0⟩ := C.def_ (d := d_law_names) 2 rfl
  exact dep_fn (C.glo 2 rfl) F0.kp (F0.bindsN fun _ _ _ _ _ _ us hl => match us, hl with | [_, _], _ => rfl) (def_run (w := W K) (kk := 7) (bs C) F0 sc_law_names rfl rfl rfl rfl (fun cdv A outer s H E e1 e2 => (.cons ((r_law_draw C).at_ (k := 7) (by decide)) (.cons ((r_law_pick C).at_ (k := 7) (by decide)) .nil))) k_law_names)
theorem sc_law_spans : FnScope ["_law_many", "_law_found", "_law_one", "_law_other"] ["_law_many"] (defScope s_law_spans) := ⟨rfl, rfl, rfl, by decide +kernel, rfl, by decide +kernel, by decide +kernel⟩
theorem r_law_spans (C : Rw K mg base h) : DefOk pg wd (W K) mg base 4 (.fn "_law_spans") e_law_spans := by
  obtain ⟨fd, F0⟩ := C.def_ (d := d_law_spans) 3 rfl
  exact dep_fn (C.glo 3 rfl) F0.kp (F0.bindsN fun _ _ _ _ _ _ us hl => match us, hl with | [_], _ => rfl) (def_run (w := W K) (kk := 1) (bs C) F0 sc_law_spans rfl rfl rfl rfl (fun cdv A outer s H E e1 e2 => .nil) k_law_spans)
theorem sc_law_loads : FnScope ["_law_places", "_law_shares_here", "_law_spans_here", "_law_loads_here", "_law_parcels", "_law_route_here", "_law_many", "_law_row", "_law_k", "_law_at", "_law_span", "_law_place"] ["_law_places", "_law_shares_here"] (defScope s_law_loads) := ⟨rfl, rfl, rfl, by decide +kernel, rfl, by decide +kernel, by decide +kernel⟩
theorem r_law_loads (C : Rw K mg base h) : DefOk pg wd (W K) mg base 7 (.fnP "_law_loads") e_law_loads := by
  obtain ⟨fd, F0⟩ := C.def_ (d := d_law_loads) 4 rfl
  exact dep_fnP (C.glo 4 rfl) F0.kp (F0.bindsN fun _ _ _ _ _ _ us hl => match us, hl with | [_, _], _ => rfl) (def_runP (w := W K) (kk := 4) (bs C) F0 sc_law_loads rfl rfl rfl rfl (fun cdv A outer s H E e1 e2 => (.cons ((r_law_spans C).at_ (k := 4) (by decide)) .nil)) k_law_loads)
theorem sc_law_route : FnScope ["_law_flow_here", "_law_places", "_law_at", "_law_left", "_law_found"] ["_law_flow_here", "_law_places"] (defScope s_law_route) := ⟨rfl, rfl, rfl, by decide +kernel, rfl, by decide +kernel, by decide +kernel⟩
theorem r_law_route (C : Rw K mg base h) : DefOk pg wd (W K) mg base 7 (.fn "_law_route") e_law_route := by
  obtain ⟨fd, F0⟩ := C.def_ (d := d_law_route) 5 rfl
  exact dep_fn (C.glo 5 rfl) F0.kp (F0.bindsN fun _ _ _ _ _ _ us hl => match us, hl with | [_, _], _ => rfl) (def_run (w := W K) (kk := 4) (bs C) F0 sc_law_route rfl rfl rfl rfl (fun cdv A outer s H E e1 e2 => (.cons ((r_law_draw C).at_ (k := 4) (by decide)) .nil)) k_law_route)
theorem sc_law_shares : FnScope ["_law_flow_here", "_law_places", "_law_size", "_law_k"] ["_law_flow_here", "_law_places"] (defScope s_law_shares) := ⟨rfl, rfl, rfl, by decide +kernel, rfl, by decide +kernel, by decide +kernel⟩
theorem r_law_shares (C : Rw K mg base h) : DefOk pg wd (W K) mg base 10 (.fn "_law_shares") e_law_shares := by
  obtain ⟨fd, F0⟩ := C.def_ (d := d_law_shares) 6 rfl
  exact dep_fn (C.glo 6 rfl) F0.kp (F0.bindsN fun _ _ _ _ _ _ us hl => match us, hl with | [_, _], _ => rfl) (def_run (w := W K) (kk := 7) (bs C) F0 sc_law_shares rfl rfl rfl rfl (fun cdv A outer s H E e1 e2 => (.cons ((r_law_pick C).at_ (k := 7) (by decide)) (.cons ((r_law_draw C).at_ (k := 7) (by decide)) (.cons ((r_law_route C).at_ (k := 7) (by decide)) .nil)))) k_law_shares)
theorem sc_law_case : FnScope ["_law_flow_here", "_law_places", "_law_roads", "_law_loads_here", "_law_parcels", "_law_way", "_law_at", "_law_load", "_law_road"] ["_law_flow_here"] (defScope s_law_case) := ⟨rfl, rfl, rfl, by decide +kernel, rfl, by decide +kernel, by decide +kernel⟩
theorem r_law_case (C : Rw K mg base h) : DefOk pg wd (W K) mg base 13 (.fn "_law_case") e_law_case := by
  obtain ⟨fd, F0⟩ := C.def_ (d := d_law_case) 7 rfl
  exact dep_fn (C.glo 7 rfl) F0.kp (F0.bindsN fun _ _ _ _ _ _ us hl => match us, hl with | [_], _ => rfl) (def_run (w := W K) (kk := 10) (bs C) F0 sc_law_case rfl rfl rfl rfl (fun cdv A outer s H E e1 e2 => (.cons ((r_law_names C).at_ (k := 10) (by decide)) (.cons ((r_law_draw C).at_ (k := 10) (by decide)) (.cons ((r_law_loads C).at_ (k := 10) (by decide)) (.cons ((r_law_shares C).at_ (k := 10) (by decide)) (.cons ((r_law_pick C).at_ (k := 10) (by decide)) .nil)))))) k_law_case)
theorem sc_law_text : FnScope ["_law_places"] ["_law_places"] (defScope s_law_text) := ⟨rfl, rfl, rfl, by decide +kernel, rfl, by decide +kernel, by decide +kernel⟩
theorem r_law_text (C : Rw K mg base h) : DefOk pg wd (W K) mg base 4 (.fn "_law_text") e_law_text := by
  obtain ⟨fd, F0⟩ := C.def_ (d := d_law_text) 8 rfl
  exact dep_fn (C.glo 8 rfl) F0.kp (F0.bindsN fun _ _ _ _ _ _ us hl => match us, hl with | [_], _ => rfl) (def_run (w := W K) (kk := 1) (bs C) F0 sc_law_text rfl rfl rfl rfl (fun cdv A outer s H E e1 e2 => .nil) k_law_text)
theorem sc_law_rows : FnScope ["_law_many", "_law_rows_here", "_law_twos", "_law_bits", "_law_row", "_law_at"] ["_law_many"] (defScope s_law_rows) := ⟨rfl, rfl, rfl, by decide +kernel, rfl, by decide +kernel, by decide +kernel⟩
theorem r_law_rows (C : Rw K mg base h) : DefOk pg wd (W K) mg base 7 (.fn "_law_rows") e_law_rows := by
  obtain ⟨fd, F0⟩ := C.def_ (d := d_law_rows) 9 rfl
  exact dep_fn (C.glo 9 rfl) F0.kp (F0.bindsN fun _ _ _ _ _ _ us hl => match us, hl with | [_], _ => rfl) (def_run (w := W K) (kk := 1) (bs C) F0 sc_law_rows rfl rfl rfl rfl (fun cdv A outer s H E e1 e2 => (.cons (Row.lamk (w := W K) rfl C (ex_n C) (p := "_law_rows") (d := d_law_rows) (List.mem_of_getElem? (i := 0) rfl) rfl rfl F0 e1 e2) .nil)) k_law_rows)
theorem sc_law_bounds : FnScope ["_law_places", "_law_word", "_law_row", "_law_at"] ["_law_places"] (defScope s_law_bounds) := ⟨rfl, rfl, rfl, by decide +kernel, rfl, by decide +kernel, by decide +kernel⟩
theorem r_law_bounds (C : Rw K mg base h) : DefOk pg wd (W K) mg base 10 (.fn "_law_bounds") e_law_bounds := by
  obtain ⟨fd, F0⟩ := C.def_ (d := d_law_bounds) 10 rfl
  exact dep_fn (C.glo 10 rfl) F0.kp (F0.bindsN fun _ _ _ _ _ _ us hl => match us, hl with | [_], _ => rfl) (def_run (w := W K) (kk := 7) (bs C) F0 sc_law_bounds rfl rfl rfl rfl (fun cdv A outer s H E e1 e2 => (.cons ((r_law_rows C).at_ (k := 7) (by decide)) .nil)) k_law_bounds)
theorem sc_law_bent_bound : FnScope ["_law_flow_here", "_law_places", "_law_value", "_law_some", "_law_word", "_law_lot", "_law_place"] ["_law_flow_here", "_law_places", "_law_value"] (defScope s_law_bent_bound) := ⟨rfl, rfl, rfl, by decide +kernel, rfl, by decide +kernel, by decide +kernel⟩
theorem r_law_bent_bound (C : Rw K mg base h) : DefOk pg wd (W K) mg base 13 (.fn "_law_bent_bound") e_law_bent_bound := by
  obtain ⟨fd, F0⟩ := C.def_ (d := d_law_bent_bound) 11 rfl
  exact dep_fn (C.glo 11 rfl) F0.kp (F0.bindsN fun _ _ _ _ _ _ us hl => match us, hl with | [_, _, _], _ => rfl) (def_run (w := W K) (kk := 10) (bs C) F0 sc_law_bent_bound rfl rfl rfl rfl (fun cdv A outer s H E e1 e2 => (.cons ((r_law_pick C).at_ (k := 10) (by decide)) (.cons ((r_law_bounds C).at_ (k := 10) (by decide)) .nil))) k_law_bent_bound)
theorem sc_law_lengths : FnScope ["_law_many", "_law_bound", "_law_found", "_law_word", "_law_row", "_law_one", "_law_other", "_law_across"] ["_law_many", "_law_bound"] (defScope s_law_lengths) := ⟨rfl, rfl, rfl, by decide +kernel, rfl, by decide +kernel, by decide +kernel⟩
theorem r_law_lengths (C : Rw K mg base h) : DefOk pg wd (W K) mg base 7 (.fn "_law_lengths") e_law_lengths := by
  obtain ⟨fd, F0⟩ := C.def_ (d := d_law_lengths) 12 rfl
  exact dep_fn (C.glo 12 rfl) F0.kp (F0.bindsN fun _ _ _ _ _ _ us hl => match us, hl with | [_, _], _ => rfl) (def_run (w := W K) (kk := 4) (bs C) F0 sc_law_lengths rfl rfl rfl rfl (fun cdv A outer s H E e1 e2 => (.cons ((r_law_spans C).at_ (k := 4) (by decide)) .nil)) k_law_lengths)
theorem sc_law_over : FnScope ["_law_many", "_law_bound", "_law_roads", "_law_parcels", "_law_lengths_here", "_law_by", "_law_road", "_law_wanted"] ["_law_many", "_law_bound", "_law_roads", "_law_parcels"] (defScope s_law_over) := ⟨rfl, rfl, rfl, by decide +kernel, rfl, by decide +kernel, by decide +kernel⟩
theorem r_law_over (C : Rw K mg base h) : DefOk pg wd (W K) mg base 10 (.fn "_law_over") e_law_over := by
  obtain ⟨fd, F0⟩ := C.def_ (d := d_law_over) 13 rfl
  exact dep_fn (C.glo 13 rfl) F0.kp (F0.bindsN fun _ _ _ _ _ _ us hl => match us, hl with | [_, _, _, _], _ => rfl) (def_run (w := W K) (kk := 7) (bs C) F0 sc_law_over rfl rfl rfl rfl (fun cdv A outer s H E e1 e2 => (.cons ((r_law_lengths C).at_ (k := 7) (by decide)) .nil)) k_law_over)
theorem sc_law_is_broken : FnScope ["_law_places", "_law_roads", "_law_parcels", "_law_value", "_law_bounds_here"] ["_law_places", "_law_roads", "_law_parcels", "_law_value"] (defScope s_law_is_broken) := ⟨rfl, rfl, rfl, by decide +kernel, rfl, by decide +kernel, by decide +kernel⟩
theorem r_law_is_broken (C : Rw K mg base h) : DefOk pg wd (W K) mg base 13 (.fn "_law_is_broken") e_law_is_broken := by
  obtain ⟨fd, F0⟩ := C.def_ (d := d_law_is_broken) 14 rfl
  exact dep_fn (C.glo 14 rfl) F0.kp (F0.bindsN fun _ _ _ _ _ _ us hl => match us, hl with | [_, _, _, _], _ => rfl) (def_run (w := W K) (kk := 10) (bs C) F0 sc_law_is_broken rfl rfl rfl rfl (fun cdv A outer s H E e1 e2 => (.cons ((r_law_bounds C).at_ (k := 10) (by decide)) (.cons ((r_law_over C).at_ (k := 10) (by decide)) (.cons ((r_law_rows C).at_ (k := 10) (by decide)) .nil)))) k_law_is_broken)
theorem sc_is_name : FnScope ["value", "sign"] ["value"] (defScope s_is_name) := ⟨rfl, rfl, rfl, by decide +kernel, rfl, by decide +kernel, by decide +kernel⟩
theorem r_is_name (C : Rw K mg base h) : DefOk pg wd (W K) mg base 4 (.fn "is_name") e_is_name := by
  obtain ⟨fd, F0⟩ := C.def_ (d := d_is_name) 15 rfl
  exact dep_fn (C.glo 15 rfl) F0.kp (F0.bindsN fun _ _ _ _ _ _ us hl => match us, hl with | [_], _ => rfl) (def_run (w := W K) (kk := 1) (bs C) F0 sc_is_name rfl rfl rfl rfl (fun cdv A outer s H E e1 e2 => .nil) k_is_name)
theorem sc_wrong_place : FnScope ["places", "at", "place"] ["places"] (defScope s_wrong_place) := ⟨rfl, rfl, rfl, by decide +kernel, rfl, by decide +kernel, by decide +kernel⟩
theorem r_wrong_place (C : Rw K mg base h) : DefOk pg wd (W K) mg base 7 (.fn "wrong_place") e_wrong_place := by
  obtain ⟨fd, F0⟩ := C.def_ (d := d_wrong_place) 16 rfl
  exact dep_fn (C.glo 16 rfl) F0.kp (F0.bindsN fun _ _ _ _ _ _ us hl => match us, hl with | [_], _ => rfl) (def_run (w := W K) (kk := 4) (bs C) F0 sc_wrong_place rfl rfl rfl rfl (fun cdv A outer s H E e1 e2 => (.cons ((r_is_name C).at_ (k := 4) (by decide)) .nil)) k_wrong_place)
theorem sc_read_posts : FnScope ["text", "words", "places"] ["text"] (defScope s_read_posts) := ⟨rfl, rfl, rfl, by decide +kernel, rfl, by decide +kernel, by decide +kernel⟩
theorem r_read_posts (C : Rw K mg base h) : DefOk pg wd (W K) mg base 10 (.fn "read_posts") e_read_posts := by
  obtain ⟨fd, F0⟩ := C.def_ (d := d_read_posts) 17 rfl
  exact dep_fn (C.glo 17 rfl) F0.kp (F0.bindsN fun _ _ _ _ _ _ us hl => match us, hl with | [_], _ => rfl) (def_run (w := W K) (kk := 7) (bs C) F0 sc_read_posts rfl rfl rfl rfl (fun cdv A outer s H E e1 e2 => (.cons ((r_wrong_place C).at_ (k := 7) (by decide)) .nil)) k_read_posts)
theorem sc_spans_of : FnScope ["many", "found", "one", "other"] ["many"] (defScope s_spans_of) := ⟨rfl, rfl, rfl, by decide +kernel, rfl, by decide +kernel, by decide +kernel⟩
theorem r_spans_of (C : Rw K mg base h) : DefOk pg wd (W K) mg base 4 (.fn "spans_of") e_spans_of := by
  obtain ⟨fd, F0⟩ := C.def_ (d := d_spans_of) 18 rfl
  exact dep_fn (C.glo 18 rfl) F0.kp (F0.bindsN fun _ _ _ _ _ _ us hl => match us, hl with | [_], _ => rfl) (def_run (w := W K) (kk := 1) (bs C) F0 sc_spans_of rfl rfl rfl rfl (fun cdv A outer s H E e1 e2 => .nil) k_spans_of)
theorem sc_p_init : FnScope N0 P0 (defScope s_p_init) := ⟨rfl, rfl, rfl, by decide +kernel, rfl, by decide +kernel, by decide +kernel⟩
theorem r_p_init (C : Rw K mg base h) : DefOk pg wd (W K) mg base 10 (.mk "Posts") e_p_init := by
  obtain ⟨fd, F0⟩ := C.def_ (d := d_p_init) 19 rfl
  exact dep_mk (C.glo 44 rfl) (mkB_ok (ex_m C)) (F0.bindsN fun _ _ _ _ _ _ us hl => match us, hl with | [_, _], _ => rfl) (def_init (F := F_p_init) (w := W K) (kk := 7) (bs C) F0 sc_p_init rfl rfl rfl rfl rfl (by decide) (by kernel_rfl) fun cdv A outer s H E => (.cons ((r_wrong_place C).at_ (k := 7) (by decide)) (.cons ((r_spans_of C).at_ (k := 7) (by decide)) .nil)))
theorem sc_is_integer : FnScope ["value"] ["value"] (defScope s_is_integer) := ⟨rfl, rfl, rfl, by decide +kernel, rfl, by decide +kernel, by decide +kernel⟩
theorem r_is_integer (C : Rw K mg base h) : DefOk pg wd (W K) mg base 4 (.fn "is_integer") e_is_integer := by
  obtain ⟨fd, F0⟩ := C.def_ (d := d_is_integer) 20 rfl
  exact dep_fn (C.glo 19 rfl) F0.kp (F0.bindsN fun _ _ _ _ _ _ us hl => match us, hl with | [_], _ => rfl) (def_run (w := W K) (kk := 1) (bs C) F0 sc_is_integer rfl rfl rfl rfl (fun cdv A outer s H E e1 e2 => .nil) k_is_integer)
theorem sc_is_within : FnScope ["value", "least", "most"] ["value", "least", "most"] (defScope s_is_within) := ⟨rfl, rfl, rfl, by decide +kernel, rfl, by decide +kernel, by decide +kernel⟩
theorem r_is_within (C : Rw K mg base h) : DefOk pg wd (W K) mg base 7 (.fn "is_within") e_is_within := by
  obtain ⟨fd, F0⟩ := C.def_ (d := d_is_within) 21 rfl
  exact dep_fn (C.glo 20 rfl) F0.kp (F0.bindsN fun _ _ _ _ _ _ us hl => match us, hl with | [_, _, _], _ => rfl) (def_run (w := W K) (kk := 4) (bs C) F0 sc_is_within rfl rfl rfl rfl (fun cdv A outer s H E e1 e2 => (.cons ((r_is_integer C).at_ (k := 4) (by decide)) .nil)) k_is_within)
theorem sc_wrong_number : FnScope ["value", "many", "most", "at", "number"] ["value", "many", "most"] (defScope s_wrong_number) := ⟨rfl, rfl, rfl, by decide +kernel, rfl, by decide +kernel, by decide +kernel⟩
theorem r_wrong_number (C : Rw K mg base h) : DefOk pg wd (W K) mg base 10 (.fn "wrong_number") e_wrong_number := by
  obtain ⟨fd, F0⟩ := C.def_ (d := d_wrong_number) 22 rfl
  exact dep_fn (C.glo 21 rfl) F0.kp (F0.bindsN fun _ _ _ _ _ _ us hl => match us, hl with | [_, _, _], _ => rfl) (def_run (w := W K) (kk := 7) (bs C) F0 sc_wrong_number rfl rfl rfl rfl (fun cdv A outer s H E e1 e2 => (.cons ((r_is_within C).at_ (k := 7) (by decide)) .nil)) k_wrong_number)
theorem sc_p_spans : FnScope ["self"] ["self"] (defScope s_p_spans) := ⟨rfl, rfl, rfl, by decide +kernel, rfl, by decide +kernel, by decide +kernel⟩
theorem r_p_spans (C : Rw K mg base h) : DefOk pg wd (W K) mg base 4 (.prop "spans") e_p_spans := by
  obtain ⟨fd, F0⟩ := C.def_ (d := d_p_spans) 23 rfl
  exact dep_prop (fun _ => rfl) (propB_ok (ex_p_spans C)) (F0.bindsN fun _ _ _ _ _ _ us hl => match us, hl with | [_], _ => rfl) (def_run (w := W K) (kk := 1) (bs C) F0 sc_p_spans rfl rfl rfl rfl (fun cdv A outer s H E e1 e2 => .nil) k_p_spans)
theorem sc_p_places : FnScope ["self"] ["self"] (defScope s_p_places) := ⟨rfl, rfl, rfl, by decide +kernel, rfl, by decide +kernel, by decide +kernel⟩
theorem r_p_places (C : Rw K mg base h) : DefOk pg wd (W K) mg base 4 (.prop "places") e_p_places := by
  obtain ⟨fd, F0⟩ := C.def_ (d := d_p_places) 24 rfl
  exact dep_prop (fun _ => rfl) (propB_ok (ex_p_places C)) (F0.bindsN fun _ _ _ _ _ _ us hl => match us, hl with | [_], _ => rfl) (def_run (w := W K) (kk := 1) (bs C) F0 sc_p_places rfl rfl rfl rfl (fun cdv A outer s H E e1 e2 => .nil) k_p_places)
theorem sc_is_route : FnScope ["posts", "value", "at", "place"] ["posts", "value"] (defScope s_is_route) := ⟨rfl, rfl, rfl, by decide +kernel, rfl, by decide +kernel, by decide +kernel⟩
theorem r_is_route (C : Rw K mg base h) : DefOk pg wd (W K) mg base 7 (.fn "is_route") e_is_route := by
  obtain ⟨fd, F0⟩ := C.def_ (d := d_is_route) 25 rfl
  exact dep_fn (C.glo 22 rfl) F0.kp (F0.bindsN fun _ _ _ _ _ _ us hl => match us, hl with | [_, _], _ => rfl) (def_run (w := W K) (kk := 4) (bs C) F0 sc_is_route rfl rfl rfl rfl (fun cdv A outer s H E e1 e2 => (.cons ((r_p_places C).at_ (k := 4) (by decide)) .nil)) k_is_route)
theorem sc_is_share : FnScope ["posts", "value"] ["posts", "value"] (defScope s_is_share) := ⟨rfl, rfl, rfl, by decide +kernel, rfl, by decide +kernel, by decide +kernel⟩
theorem r_is_share (C : Rw K mg base h) : DefOk pg wd (W K) mg base 10 (.fn "is_share") e_is_share := by
  obtain ⟨fd, F0⟩ := C.def_ (d := d_is_share) 26 rfl
  exact dep_fn (C.glo 23 rfl) F0.kp (F0.bindsN fun _ _ _ _ _ _ us hl => match us, hl with | [_, _], _ => rfl) (def_run (w := W K) (kk := 7) (bs C) F0 sc_is_share rfl rfl rfl rfl (fun cdv A outer s H E e1 e2 => (.cons ((r_is_route C).at_ (k := 7) (by decide)) (.cons ((r_is_integer C).at_ (k := 7) (by decide)) .nil))) k_is_share)
theorem sc_steps_of : FnScope ["spans", "route", "found", "one", "other"] ["spans", "route"] (defScope s_steps_of) := ⟨rfl, rfl, rfl, by decide +kernel, rfl, by decide +kernel, by decide +kernel⟩
theorem r_steps_of (C : Rw K mg base h) : DefOk pg wd (W K) mg base 4 (.fn "steps_of") e_steps_of := by
  obtain ⟨fd, F0⟩ := C.def_ (d := d_steps_of) 27 rfl
  exact dep_fn (C.glo 24 rfl) F0.kp (F0.bindsN fun _ _ _ _ _ _ us hl => match us, hl with | [_, _], _ => rfl) (def_run (w := W K) (kk := 1) (bs C) F0 sc_steps_of rfl rfl rfl rfl (fun cdv A outer s H E e1 e2 => .nil) k_steps_of)
theorem sc_are_sent : FnScope ["posts", "roads", "parcels", "value", "parts", "left", "wanted", "route", "many", "row", "end", "step", "road", "number", "place", "share"] ["posts", "roads", "parcels", "value", "parts"] (defScope s_are_sent) := ⟨rfl, rfl, rfl, by decide +kernel, rfl, by decide +kernel, by decide +kernel⟩
theorem r_are_sent (C : Rw K mg base h) : DefOk pg wd (W K) mg base 13 (.fn "are_sent") e_are_sent := by
  obtain ⟨fd, F0⟩ := C.def_ (d := d_are_sent) 28 rfl
  exact dep_fn (C.glo 25 rfl) F0.kp (F0.bindsN fun _ _ _ _ _ _ us hl => match us, hl with | [_, _, _, _, _], _ => rfl) (def_run (w := W K) (kk := 10) (bs C) F0 sc_are_sent rfl rfl rfl rfl (fun cdv A outer s H E e1 e2 => (.cons ((r_is_share C).at_ (k := 10) (by decide)) (.cons ((r_p_places C).at_ (k := 10) (by decide)) (.cons ((r_p_spans C).at_ (k := 10) (by decide)) (.cons ((r_steps_of C).at_ (k := 10) (by decide)) .nil))))) k_are_sent)
theorem sc_rows_below : FnScope ["many", "found", "at", "row"] ["many"] (defScope s_rows_below) := ⟨rfl, rfl, rfl, by decide +kernel, rfl, by decide +kernel, by decide +kernel⟩
theorem r_rows_below (C : Rw K mg base h) : DefOk pg wd (W K) mg base 7 (.fn "rows_below") e_rows_below := by
  obtain ⟨fd, F0⟩ := C.def_ (d := d_rows_below) 29 rfl
  exact dep_fn (C.glo 26 rfl) F0.kp (F0.bindsN fun _ _ _ _ _ _ us hl => match us, hl with | [_], _ => rfl) (def_run (w := W K) (kk := 1) (bs C) F0 sc_rows_below rfl rfl rfl rfl (fun cdv A outer s H E e1 e2 => (.cons (Row.lamk (w := W K) rfl C (ex_n C) (p := "rows_below") (d := d_rows_below) (List.mem_of_getElem? (i := 1) rfl) rfl rfl F0 e1 e2) .nil)) k_rows_below)
theorem sc_indexed_bounds : FnScope ["many", "rows", "found", "row"] ["many"] (defScope s_indexed_bounds) := ⟨rfl, rfl, rfl, by decide +kernel, rfl, by decide +kernel, by decide +kernel⟩
theorem r_indexed_bounds (C : Rw K mg base h) : DefOk pg wd (W K) mg base 10 (.fn "indexed_bounds") e_indexed_bounds := by
  obtain ⟨fd, F0⟩ := C.def_ (d := d_indexed_bounds) 30 rfl
  exact dep_fn (C.glo 27 rfl) F0.kp (F0.bindsN fun _ _ _ _ _ _ us hl => match us, hl with | [_], _ => rfl) (def_run (w := W K) (kk := 7) (bs C) F0 sc_indexed_bounds rfl rfl rfl rfl (fun cdv A outer s H E e1 e2 => (.cons ((r_rows_below C).at_ (k := 7) (by decide)) .nil)) k_indexed_bounds)
theorem sc_p_len : FnScope ["self"] ["self"] (defScope s_p_len) := ⟨rfl, rfl, rfl, by decide +kernel, rfl, by decide +kernel, by decide +kernel⟩
theorem r_p_len (C : Rw K mg base h) : DefOk pg wd (W K) mg base 4 (.len) e_p_len := by
  obtain ⟨fd, F0⟩ := C.def_ (d := d_p_len) 31 rfl
  exact dep_len (fun _ => rfl) (ex_l C) (F0.bindsN fun _ _ _ _ _ _ us hl => match us, hl with | [_], _ => rfl) (def_run (w := W K) (kk := 1) (bs C) F0 sc_p_len rfl rfl rfl rfl (fun cdv A outer s H E e1 e2 => .nil) k_p_len)
theorem sc_named : FnScope ["posts", "bound", "at"] ["posts", "bound"] (defScope s_named) := ⟨rfl, rfl, rfl, by decide +kernel, rfl, by decide +kernel, by decide +kernel⟩
theorem r_named (C : Rw K mg base h) : DefOk pg wd (W K) mg base 7 (.fn "named") e_named := by
  obtain ⟨fd, F0⟩ := C.def_ (d := d_named) 32 rfl
  exact dep_fn (C.glo 28 rfl) F0.kp (F0.bindsN fun _ _ _ _ _ _ us hl => match us, hl with | [_, _], _ => rfl) (def_run (w := W K) (kk := 4) (bs C) F0 sc_named rfl rfl rfl rfl (fun cdv A outer s H E e1 e2 => (.cons ((r_p_places C).at_ (k := 4) (by decide)) .nil)) k_named)
theorem sc_length_of : FnScope ["bound", "one", "other", "word", "row"] ["bound", "one", "other"] (defScope s_length_of) := ⟨rfl, rfl, rfl, by decide +kernel, rfl, by decide +kernel, by decide +kernel⟩
theorem r_length_of (C : Rw K mg base h) : DefOk pg wd (W K) mg base 4 (.fn "length_of") e_length_of := by
  obtain ⟨fd, F0⟩ := C.def_ (d := d_length_of) 33 rfl
  exact dep_fn (C.glo 29 rfl) F0.kp (F0.bindsN fun _ _ _ _ _ _ us hl => match us, hl with | [_, _, _], _ => rfl) (def_run (w := W K) (kk := 1) (bs C) F0 sc_length_of rfl rfl rfl rfl (fun cdv A outer s H E e1 e2 => .nil) k_length_of)
theorem sc_lengths_of : FnScope ["spans", "bound", "one", "other"] ["spans", "bound"] (defScope s_lengths_of) := ⟨rfl, rfl, rfl, by decide +kernel, rfl, by decide +kernel, by decide +kernel⟩
theorem r_lengths_of (C : Rw K mg base h) : DefOk pg wd (W K) mg base 7 (.fn "lengths_of") e_lengths_of := by
  obtain ⟨fd, F0⟩ := C.def_ (d := d_lengths_of) 34 rfl
  exact dep_fn (C.glo 30 rfl) F0.kp (F0.bindsN fun _ _ _ _ _ _ us hl => match us, hl with | [_, _], _ => rfl) (def_run (w := W K) (kk := 4) (bs C) F0 sc_lengths_of rfl rfl rfl rfl (fun cdv A outer s H E e1 e2 => (.cons ((r_length_of C).at_ (k := 4) (by decide)) .nil)) k_lengths_of)
theorem sc_tables_of : FnScope ["posts", "found", "bound"] ["posts"] (defScope s_tables_of) := ⟨rfl, rfl, rfl, by decide +kernel, rfl, by decide +kernel, by decide +kernel⟩
theorem r_tables_of (C : Rw K mg base h) : DefOk pg wd (W K) mg base 13 (.fn "tables_of") e_tables_of := by
  obtain ⟨fd, F0⟩ := C.def_ (d := d_tables_of) 35 rfl
  exact dep_fn (C.glo 31 rfl) F0.kp (F0.bindsN fun _ _ _ _ _ _ us hl => match us, hl with | [_], _ => rfl) (def_run (w := W K) (kk := 10) (bs C) F0 sc_tables_of rfl rfl rfl rfl (fun cdv A outer s H E e1 e2 => (.cons ((r_indexed_bounds C).at_ (k := 10) (by decide)) (.cons ((r_p_len C).at_ (k := 10) (by decide)) (.cons ((r_named C).at_ (k := 10) (by decide)) (.cons ((r_lengths_of C).at_ (k := 10) (by decide)) (.cons ((r_p_spans C).at_ (k := 10) (by decide)) .nil)))))) k_tables_of)
theorem sc_is_known : FnScope ["posts", "value", "bound", "lengths"] ["posts", "value"] (defScope s_is_known) := ⟨rfl, rfl, rfl, by decide +kernel, rfl, by decide +kernel, by decide +kernel⟩
theorem r_is_known (C : Rw K mg base h) : DefOk pg wd (W K) mg base 16 (.fn "is_known") e_is_known := by
  obtain ⟨fd, F0⟩ := C.def_ (d := d_is_known) 36 rfl
  exact dep_fn (C.glo 32 rfl) F0.kp (F0.bindsN fun _ _ _ _ _ _ us hl => match us, hl with | [_, _], _ => rfl) (def_run (w := W K) (kk := 13) (bs C) F0 sc_is_known rfl rfl rfl rfl (fun cdv A outer s H E e1 e2 => (.cons ((r_tables_of C).at_ (k := 13) (by decide)) .nil)) k_is_known)
theorem sc_sum_along : FnScope ["lengths", "numbers", "number", "by"] ["lengths", "numbers"] (defScope s_sum_along) := ⟨rfl, rfl, rfl, by decide +kernel, rfl, by decide +kernel, by decide +kernel⟩
theorem r_sum_along (C : Rw K mg base h) : DefOk pg wd (W K) mg base 4 (.fn "sum_along") e_sum_along := by
  obtain ⟨fd, F0⟩ := C.def_ (d := d_sum_along) 37 rfl
  exact dep_fn (C.glo 33 rfl) F0.kp (F0.bindsN fun _ _ _ _ _ _ us hl => match us, hl with | [_, _], _ => rfl) (def_run (w := W K) (kk := 1) (bs C) F0 sc_sum_along rfl rfl rfl rfl (fun cdv A outer s H E e1 e2 => .nil) k_sum_along)
theorem sc_slack_of : FnScope ["lengths", "roads", "parcels"] ["lengths", "roads", "parcels"] (defScope s_slack_of) := ⟨rfl, rfl, rfl, by decide +kernel, rfl, by decide +kernel, by decide +kernel⟩
theorem r_slack_of (C : Rw K mg base h) : DefOk pg wd (W K) mg base 7 (.fn "slack_of") e_slack_of := by
  obtain ⟨fd, F0⟩ := C.def_ (d := d_slack_of) 38 rfl
  exact dep_fn (C.glo 34 rfl) F0.kp (F0.bindsN fun _ _ _ _ _ _ us hl => match us, hl with | [_, _, _], _ => rfl) (def_run (w := W K) (kk := 4) (bs C) F0 sc_slack_of rfl rfl rfl rfl (fun cdv A outer s H E e1 e2 => (.cons ((r_sum_along C).at_ (k := 4) (by decide)) .nil)) k_slack_of)
theorem sc_lengths_by_name : FnScope ["posts", "bound", "known", "lengths"] ["posts", "bound"] (defScope s_lengths_by_name) := ⟨rfl, rfl, rfl, by decide +kernel, rfl, by decide +kernel, by decide +kernel⟩
theorem r_lengths_by_name (C : Rw K mg base h) : DefOk pg wd (W K) mg base 16 (.fn "lengths_by_name") e_lengths_by_name := by
  obtain ⟨fd, F0⟩ := C.def_ (d := d_lengths_by_name) 39 rfl
  exact dep_fn (C.glo 35 rfl) F0.kp (F0.bindsN fun _ _ _ _ _ _ us hl => match us, hl with | [_, _], _ => rfl) (def_run (w := W K) (kk := 13) (bs C) F0 sc_lengths_by_name rfl rfl rfl rfl (fun cdv A outer s H E e1 e2 => (.cons ((r_tables_of C).at_ (k := 13) (by decide)) .nil)) k_lengths_by_name)
theorem sc_is_broken : FnScope ["posts", "roads", "parcels", "value"] ["posts", "roads", "parcels", "value"] (defScope s_is_broken) := ⟨rfl, rfl, rfl, by decide +kernel, rfl, by decide +kernel, by decide +kernel⟩
theorem r_is_broken (C : Rw K mg base h) : DefOk pg wd (W K) mg base 19 (.fn "is_broken") e_is_broken := by
  obtain ⟨fd, F0⟩ := C.def_ (d := d_is_broken) 40 rfl
  exact dep_fn (C.glo 36 rfl) F0.kp (F0.bindsN fun _ _ _ _ _ _ us hl => match us, hl with | [_, _, _, _], _ => rfl) (def_run (w := W K) (kk := 16) (bs C) F0 sc_is_broken rfl rfl rfl rfl (fun cdv A outer s H E e1 e2 => (.cons ((r_is_known C).at_ (k := 16) (by decide)) (.cons ((r_slack_of C).at_ (k := 16) (by decide)) (.cons ((r_lengths_by_name C).at_ (k := 16) (by decide)) .nil)))) k_is_broken)
theorem sc_is_shown : FnScope ["posts", "word", "roads", "parcels", "certificate"] ["posts", "word", "roads", "parcels", "certificate"] (defScope s_is_shown) := ⟨rfl, rfl, rfl, by decide +kernel, rfl, by decide +kernel, by decide +kernel⟩
theorem r_is_shown (C : Rw K mg base h) : DefOk pg wd (W K) mg base 22 (.fn "is_shown") e_is_shown := by
  obtain ⟨fd, F0⟩ := C.def_ (d := d_is_shown) 41 rfl
  exact dep_fn (C.glo 37 rfl) F0.kp (F0.bindsN fun _ _ _ _ _ _ us hl => match us, hl with | [_, _, _, _, _], _ => rfl) (def_run (w := W K) (kk := 19) (bs C) F0 sc_is_shown rfl rfl rfl rfl (fun cdv A outer s H E e1 e2 => (.cons ((r_are_sent C).at_ (k := 19) (by decide)) (.cons ((r_is_broken C).at_ (k := 19) (by decide)) .nil))) k_is_shown)
theorem sc_accepts : FnScope ["claim", "certificate", "places", "posts"] ["claim", "certificate"] (defScope s_accepts) := ⟨rfl, rfl, rfl, by decide +kernel, rfl, by decide +kernel, by decide +kernel⟩
theorem r_accepts (C : Rw K mg base h) : DefOk pg wd (W K) mg base 25 (.fn "accepts") e_accepts := by
  obtain ⟨fd, F0⟩ := C.def_ (d := d_accepts) 42 rfl
  exact dep_fn (C.glo 38 rfl) F0.kp (F0.bindsN fun _ _ _ _ _ _ us hl => match us, hl with | [_, _], _ => rfl) (def_run (w := W K) (kk := 22) (bs C) F0 sc_accepts rfl rfl rfl rfl (fun cdv A outer s H E e1 e2 => (.cons ((r_read_posts C).at_ (k := 22) (by decide)) (.cons ((r_p_init C).at_ (k := 22) (by decide)) (.cons ((r_wrong_number C).at_ (k := 22) (by decide)) (.cons ((r_p_spans C).at_ (k := 22) (by decide)) (.cons ((r_is_shown C).at_ (k := 22) (by decide)) .nil)))))) k_accepts)
theorem sc_law_short : FnScope ["_law_places", "_law_roads", "_law_parcels", "_law_found", "_law_bound", "_law_at"] ["_law_places", "_law_roads", "_law_parcels"] (defScope s_law_short) := ⟨rfl, rfl, rfl, by decide +kernel, rfl, by decide +kernel, by decide +kernel⟩
theorem r_law_short (C : Rw K mg base h) : DefOk pg wd (W K) mg base 13 (.fn "_law_short") e_law_short := by
  obtain ⟨fd, F0⟩ := C.def_ (d := d_law_short) 43 rfl
  exact dep_fn (C.glo 39 rfl) F0.kp (F0.bindsN fun _ _ _ _ _ _ us hl => match us, hl with | [_, _, _], _ => rfl) (def_run (w := W K) (kk := 10) (bs C) F0 sc_law_short rfl rfl rfl rfl (fun cdv A outer s H E e1 e2 => (.cons ((r_law_rows C).at_ (k := 10) (by decide)) (.cons ((r_law_over C).at_ (k := 10) (by decide)) .nil))) k_law_short)
theorem sc_law_right : FnScope ["_law_flow_here", "_law_claim", "_law_k", "_law_rows_here", "_law_wanted", "_law_places", "_law_roads", "_law_parcels", "_law_value", "_law_due", "_law_bound"] ["_law_flow_here"] (defScope s_law_right) := ⟨rfl, rfl, rfl, by decide +kernel, rfl, by decide +kernel, by decide +kernel⟩
theorem r_law_right (C : Rw K mg base h) : DefOk pg wd (W K) mg base 31 (.fn "_law_right") e_law_right := by
  obtain ⟨fd, F0⟩ := C.def_ (d := d_law_right) 44 rfl
  obtain ⟨fg, Fg⟩ := C.def_ (d := d_got) 47 rfl
  have bg : Binds K fg ["_law_act"] [] := Fg.bindsN fun _ _ _ _ _ _ us hl => match us, hl with | [_], _ => rfl
  exact dep_fn (C.glo 40 rfl) F0.kp (F0.bindsN fun _ _ _ _ _ _ us hl => match us, hl with | [_], _ => rfl) (def_run (w := W K) (kk := 25) (bs C) F0 sc_law_right rfl rfl rfl rfl (fun cdv A outer s H E e1 e2 => (.cons ((r_law_case C).at_ (k := 25) (by decide)) (.cons ((r_law_text C).at_ (k := 25) (by decide)) (.cons ((r_law_bent_bound C).at_ (k := 25) (by decide)) (.cons ((r_law_pick C).at_ (k := 25) (by decide)) (.cons ((r_law_bounds C).at_ (k := 25) (by decide)) (.cons ((r_law_is_broken C).at_ (k := 25) (by decide)) (.cons (Row.tld (w := W K) rfl C (ex_n C) (x := "_law_got") (p := "_law_right") (a := "_law_act") (y := "_law_told") (d := d_law_right) (List.mem_of_getElem? (i := 2) rfl) rfl rfl F0 (C.glo 43 rfl) Fg bg ⟨rfl, rfl, rfl, by decide +kernel, rfl, by decide +kernel, by decide +kernel⟩ (.inl (by rfl)) (by rfl) (by decide) (by rfl) ⟨rfl, rfl, rfl, rfl⟩ e1 e2) (.cons ((r_accepts C).at_ (k := 25) (by decide)) (.cons ((r_law_short C).at_ (k := 25) (by decide)) .nil)))))))))) k_law_right)
theorem sc_law_flow : FnScope ["_law_script", "_law_turn", "_law_mixed", "_law_number", "_law_great"] ["_law_script", "_law_turn"] (defScope s_law_flow) := ⟨rfl, rfl, rfl, by decide +kernel, rfl, by decide +kernel, by decide +kernel⟩
theorem r_law_flow (C : Rw K mg base h) : DefOk pg wd (W K) mg base 4 (.fnF "_law_flow") e_law_flow := by
  obtain ⟨fd, F0⟩ := C.def_ (d := d_law_flow) 45 rfl
  exact dep_fnF (C.glo 41 rfl) F0.kp (F0.bindsN fun _ _ _ _ _ _ us hl => match us, hl with | [_, _], _ => rfl) (def_runF (w := W K) (kk := 1) (bs C) F0 sc_law_flow rfl rfl rfl rfl (fun cdv A outer s H E e1 e2 => .nil) k_law_flow)
theorem sc_law : FnScope ["_law_script", "_law_turn"] ["_law_script"] (defScope s_law) := ⟨rfl, rfl, rfl, by decide +kernel, rfl, by decide +kernel, by decide +kernel⟩
theorem r_law (C : Rw K mg base h) : ∃ fd, FunD K d_law.name d_law.qual d_law.params d_law.body d_law.scope [] [] (He.ga K "law") fd ∧ FnOk pg wd K mg base DL.CX0 34 (He.ga K "law") fd ["_law_script"] (spD (W K) e_law) := by
  obtain ⟨fd, F0⟩ := C.def_ (d := d_law) 46 rfl
  exact ⟨fd, F0, (def_run (w := W K) (kk := 31) (bs C) F0 sc_law rfl rfl rfl rfl (fun cdv A outer s H E e1 e2 => (.cons ((r_law_right C).at_ (k := 31) (by decide)) (.cons ((r_law_flow C).at_ (k := 31) (by decide)) .nil))) k_law)⟩
end
end K81

set_option Elab.async false
set_option linter.all false
set_option autoImplicit false
set_option maxRecDepth 100000
set_option maxHeartbeats 0
namespace K81
open SD hiding x_law_loads_1 b_law_loads_2 b_law_loads_3 g_law_loads g_law_loads_0 c_law_loads e_law_loads g_is_shown g_is_shown_0 c_is_shown e_is_shown g_accepts g_accepts_0 g_accepts_1 g_accepts_2 g_accepts_3 g_accepts_4 c_accepts e_accepts
open SE
open PySem L2 DL PySem.Spec PyProof.Rows
theorem mem_law : d_law ∈ fn := List.mem_of_getElem? (i := 46) rfl
theorem law_end {w : World} {K : Frag} {mg : Str → Option Value} {fa : Addr} {h : Heap} (hlaw : ∀ ns : List Int, ns.length ≤ 63 → (∀ z ∈ ns, Builtin.Int.intBits z ≤ 1048576) → ∃ st, e_law [.d (.lst (ns.map D.int))] [] = some (.d (.bl true), st))
    (KX : K.In h) (G : h.Ns mainGlobals mg) (hmg : mg "law" = some (.ref fa)) (c : SaysR (faOf glos frees globs) fn tf exr h K) : LamX.LawAtS PySem.Challenge.rw_fiveparcels_k81_whole_broken_bounds_judg w K DL.CX0 34 63 "_law_script" mg fa h := by
  have e := hmg.symm.trans (He.glo_ok KX G (c.fact (List.mem_append_left _ (List.mem_map.mpr ⟨"law", List.mem_of_getElem? (i := 42) rfl, rfl⟩))))
  cases e
  obtain ⟨fd, F0⟩ := c.def_ mem_law
  exact law_at (P := pg) (w := W K) (d := d_law) (x := "_law_script") rfl KX c rfl F0 (fun s v => (F0.bindsA (ps := ["_law_script"]) fun _ _ _ _ _ _ us hl => match us, hl with | [_], _ => rfl) s [v] rfl) hlaw fun base B1 B2 hT => by
    obtain ⟨fd', F1, F2⟩ := r_law (wd := w) (base := base) (h := h) ⟨c, KX, G, hT⟩
    rw [funD_uniq F0 F1]
    exact F2
end K81

set_option Elab.async false
set_option linter.all false
set_option autoImplicit false
set_option maxRecDepth 100000
set_option maxHeartbeats 4000000
namespace K81
open SD hiding x_law_loads_1 b_law_loads_2 b_law_loads_3 g_law_loads g_law_loads_0 c_law_loads e_law_loads g_is_shown g_is_shown_0 c_is_shown e_is_shown g_accepts g_accepts_0 g_accepts_1 g_accepts_2 g_accepts_3 g_accepts_4 c_accepts e_accepts
open SE
open PySem L2 DL
abbrev δ81 (C P RD QD : D) (o2 o8 o9 : Option R) : EnvR := [some (.c 0), some (.d C), o2, none, none, some (.d P), some (.d RD), some (.d QD), o8, o9, none]
theorem right_turn {pl : List Str} {r q : List Int} (hc : CaseOk pl r q) {b j : Nat} (f : Fl) (t : S) (o2 o8 o9 : Option R) :
    ∃ δ' s', turn g_law_right fl b (.nm 2) b_law_right_1 (.int (j : Int)) (δ81 (.tup [.str sBroken, .str (textOf pl), tI r, tI q]) (tS pl) (tI r) (tI q) o2 o8 o9) (f.cell :: t) = some (.nx, δ', s') ∧
      ∃ f' : Fl, ∃ o2 o8 o9, δ' = δ81 (.tup [.str sBroken, .str (textOf pl), tI r, tI q]) (tS pl) (tI r) (tI q) o2 o8 o9 ∧ s' = f'.cell :: t := by
  obtain ⟨hp, hr, hq⟩ := hc
  have h25 := bnd_many pl.length
  have hbs := v_law_bounds hp
  have hne : (bndN pl.length) ≠ [] := by
    have a := hp.lo
    have b := hp.hi
    have : pl.length = 2 ∨ pl.length = 3 ∨ pl.length = 4 ∨ pl.length = 5 := by omega
    rcases this with e | e | e | e <;> rw [e] <;> simp [bndN]
  obtain ⟨x, f1, e1, m1⟩ := v_pick ((bndN pl.length).map (nmD pl)) (by simpa using hne) (by simp; omega) f t
  obtain ⟨b1, hb1, rfl⟩ := List.mem_map.mp m1
  obtain ⟨v, f2, e2, hv⟩ := v_law_bent_bound hp hb1 f1 t
  have d1 := v_law_is_broken hp (hr.1.trans hq.1.symm) (len10 hp hr) hv
  have a1 := v_accepts_broken hp hr hq hv
  generalize isBrk pl r q v = J at *
  generalize nmD pl b1 = NB1 at *
  generalize (bndN pl.length).map (nmD pl) = NB at *
  unfold tI at *
  generalize tS pl = PL at *
  generalize textOf pl = TX at *
  generalize r.map D.int = RD at *
  generalize q.map D.int = QD at *
  refine ⟨δ81 (.tup [.str sBroken, .str TX, .tup RD, .tup QD]) PL (.tup RD) (.tup QD) (some (.d (.int (j : Int)))) (some (.d v)) (some (.d (.bl J))), f2.cell :: t, ?_, f2, _, _, _, rfl, rfl⟩
  simp -implicitDefEqProofs [turn, b_law_right_1, hbs, e1, e2, d1, a1]
theorem v_law_right (f : Fl) (u : S) : ∃ s', e_law_right [.c 0] (f.cell :: u) = some (.d (.bl true), s') ∧ s'.length ≤ u.length + 1 := by
  obtain ⟨pl, r, q, f1, e1, hc⟩ := v_law_case f u
  have hp := hc.1
  have hr := hc.2.1
  have hq := hc.2.2
  have h25 := bnd_many pl.length
  have hbs := v_law_bounds hp
  have e2 := v_law_text hp
  have e3 := v_law_short hp (r := r) (q := q) (hr.1.trans hq.1.symm) (len10 hp hr)
  obtain ⟨δ', s', ef, f6, o2, o8, o9, rfl, rfl⟩ := forL_inv0 (f := turn g_law_right fl (f.cell :: u).length (.nm 2) b_law_right_1) (fun δ' s' => ∃ f' : Fl, ∃ o2 o8 o9, δ' = δ81 (.tup [.str sBroken, .str (textOf pl), tI r, tI q]) (tS pl) (tI r) (tI q) o2 o8 o9 ∧ s' = f'.cell :: u) (rngD 0 12) (δ81 (.tup [.str sBroken, .str (textOf pl), tI r, tI q]) (tS pl) (tI r) (tI q) none none none) (f1.cell :: u) ⟨f1, none, none, none, rfl, rfl⟩ (by
    rintro x hx δ s ⟨f', o2, o8, o9, rfl, rfl⟩
    rw [rngD_map] at hx
    obtain ⟨j, _, rfl⟩ := List.mem_map.mp hx
    have := right_turn hc (b := (f.cell :: u).length) (j := j) f' u o2 o8 o9
    simpa using this)
  have c1 : ∀ a0 a2 a3 a4 a5 a6 a7 a8 a9 a10 st, compL (cturn g_law_right fl x_law_right_2 (.nm 10) .yes [10] [a0, some (.d (.tup [.str sBroken, .str (textOf pl), tI r, tI q])), a2, a3, a4, a5, a6, a7, a8, a9, a10]) ((bndN pl.length).map (nmD pl)) st = some (((bndN pl.length).map (overB pl r q)).map .bl, st) := by
    intros
    rw [List.map_map]
    refine compL_maps (bndN pl.length) _ fun b hb => ?_
    have a1 := v_accepts_broken hp hr hq (v := nmD pl b) (shp_nmD 18 pl b)
    rw [brk_self hp.nd hb] at a1
    simp only [Function.comp_apply]
    generalize overB pl r q b = J at *
    generalize nmD pl b = N at *
    unfold tI at *
    simp -implicitDefEqProofs [cturn, x_law_right_2, a1]
  have c2 : ∀ a0 a1 a2 a3 a5 a6 a7 a8 a9 a10 st, compL (cturn g_law_right fl x_law_right_3 (.nm 10) .yes [10] [a0, a1, a2, a3, some (.d (.lst (((bndN pl.length).filter (overB pl r q)).map (nmD pl)))), a5, a6, a7, a8, a9, a10]) ((bndN pl.length).map (nmD pl)) st = some (((bndN pl.length).map (overB pl r q)).map .bl, st) := by
    intros
    rw [List.map_map]
    refine compL_maps (bndN pl.length) _ fun b hb => ?_
    have a1 := c_in_short hp.nd (r := r) (q := q) hb
    simp only [Function.comp_apply]
    generalize ((bndN pl.length).filter (overB pl r q)).map (nmD pl) = FB at *
    generalize overB pl r q b = J at *
    generalize nmD pl b = N at *
    simp -implicitDefEqProofs [cturn, x_law_right_3, a1]
  have c3 := c_eq_bls ((bndN pl.length).map (overB pl r q))
  have sl : ¬ 1000000 < ((bndN pl.length).map (nmD pl)).length := by simp; omega
  generalize ((bndN pl.length).map (overB pl r q)).map D.bl = LB at *
  generalize ((bndN pl.length).filter (overB pl r q)).map (nmD pl) = FB at *
  generalize (bndN pl.length).map (nmD pl) = NB at *
  unfold tI at *
  unfold δ81 at *
  generalize tS pl = PL at *
  generalize textOf pl = TX at *
  generalize r.map D.int = RD at *
  generalize q.map D.int = QD at *
  refine ⟨f6.cell :: u, ?_, by simp⟩
  simp at ef
  simp -implicitDefEqProofs [e_law_right, DL.run, c_law_right, e1, e2, e3, hbs, c1, c2, c3, sl, ef]
theorem law_turn {ns : List Int} (hl : ns.length ≤ 63) (k : Nat) (o1 : Option R) (s : S) : ∃ δ' s', turn g_law fl 0 (.nm 1) b_law_1 (.int (k : Int)) [some (.d (.lst (ns.map D.int))), o1] [] = some (.nx, δ', s') ∧ (∃ o1, δ' = [some (.d (.lst (ns.map D.int))), o1]) ∧ s' = [] := by
  obtain ⟨f, ef⟩ := v_law_flow ns k hl []
  obtain ⟨s', er, hs⟩ := v_law_right f []
  have fc : f.cell = .lst [.int f.a, .int f.b, .int f.c] := rfl
  rw [fc] at er
  generalize ns.map D.int = ND at *
  refine ⟨_, _, ?_, ⟨some (.d (.int (k : Int))), rfl⟩, rfl⟩
  simp [turn, b_law_1, ef, er, cutOf_t]
theorem hlaw (ns : List Int) (hl : ns.length ≤ 63) : ∃ st, e_law [.d (.lst (ns.map D.int))] [] = some (.d (.bl true), st) := by
  have hc : ∀ c : Nat, ∃ δ' s', forL (turn g_law fl 0 (.nm 1) b_law_1) (rngD 0 c) [some (.d (.lst (ns.map D.int))), none] [] = some (.nx, δ', s') ∧ ((∃ o1, δ' = [some (.d (.lst (ns.map D.int))), o1]) ∧ s' = []) := fun c => by
    refine forL_inv0 (fun δ' s' => (∃ o1, δ' = [some (.d (.lst (ns.map D.int))), o1]) ∧ s' = []) (rngD 0 c) _ [] ⟨⟨none, rfl⟩, rfl⟩ ?_
    rintro x hx δ s ⟨⟨o1, rfl⟩, rfl⟩
    rw [rngD_map] at hx
    obtain ⟨k, _, rfl⟩ := List.mem_map.mp hx
    have := law_turn hl k o1 []
    simpa using this
  have hll : (ns.map D.int).length = ns.length := by simp
  generalize ns.map D.int = ND at *
  by_cases h5 : (5 : Int) < ns.length
  · obtain ⟨δ', s', e, ⟨o1, rfl⟩, rfl⟩ := hc 5
    refine ⟨[], ?_⟩
    simp [e_law, DL.run, c_law, hll, h5, e]
  · by_cases h2 : (2 : Int) < ns.length
    · obtain ⟨δ', s', e, ⟨o1, rfl⟩, rfl⟩ := hc ns.length
      refine ⟨[], ?_⟩
      have q : (-1000000 : Int) ≤ ns.length ∧ (ns.length : Int) ≤ 1000000 := by omega
      simp [e_law, DL.run, c_law, hll, h5, h2, e, q]
    · obtain ⟨δ', s', e, ⟨o1, rfl⟩, rfl⟩ := hc 2
      refine ⟨[], ?_⟩
      simp [e_law, DL.run, c_law, hll, h5, h2, e]
end K81

set_option Elab.async false
set_option linter.all false
set_option autoImplicit false
set_option maxRecDepth 100000
set_option maxHeartbeats 0
open PySem PySem.W PySem.Calls PyProof.Rows
theorem PySem.Challenge.cw_fiveparcels_k81_whole_broken_bounds_judg_holds : PySem.Challenge.rw_fiveparcels_k81_whole_broken_bounds_judg.Holds := by
  w_on; o_law
  refine HandSHeadRun.head_any (r := OpenLaw.row PySem.Challenge.rw_fiveparcels_k81_whole_broken_bounds_judg) (q := view (OpenLaw.row PySem.Challenge.rw_fiveparcels_k81_whole_broken_bounds_judg).prog [85]) (H := K81.hk) (ob := K81.ob) (M := 16000) (loose := K81.names) (d := HandSHeadRun.topDef (OpenLaw.row PySem.Challenge.rw_fiveparcels_k81_whole_broken_bounds_judg).prog 85) (kwd := []) K81.ob_eq
    (by kernel_rfl) (fun s => by kernel_rfl) K81.hrun (by kernel_rfl) (by kernel_rfl) (by kernel_rfl) (by rfl) (by first | assumption | decide +kernel) (by decide +kernel) ⟨rfl, rfl, rfl, rfl, rfl, by decide +kernel⟩ ?hw ?hc
  case hw => w_witness2
  case hc =>
    refine LamX.walk_ofTsE (l := PySem.Challenge.rw_fiveparcels_k81_whole_broken_bounds_judg) (n := 63) (k := 34) (x := "_law_script") (CX := fun _ => DL.CX0) rfl (by decide) (by kernel_rfl) ⟨rfl, by decide, by decide⟩ ?F (fun _ _ _ _ _ z => z)
    intro w mg fa h Y G hmg0
    obtain ⟨K, KX, c⟩ := Y
    have hmg : mg ("law" : PySem.Str) = some (.ref fa) := by
      have e : (HandSHeadRun.topDef (OpenLaw.row PySem.Challenge.rw_fiveparcels_k81_whole_broken_bounds_judg).prog 85).name = ("law" : PySem.Str) := by kernel_rfl
      rw [← e]
      exact hmg0
    exact ⟨K, KX, K81.law_end (fun ns h _ => K81.hlaw ns h) KX G hmg c⟩
